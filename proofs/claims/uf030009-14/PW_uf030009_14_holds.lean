import PyProof.Rows.All
import Open.Line
import Open.Boot
import Open.FastRun
import Open.FastLooks
import PyProof.ExcArgsOwn
import PyProof.IsInstance
import PyProof.ExcAttrAll.ValueError
import PyProof.Walks
import PyProof.Cells
import PyProof.TupleIter
import PyProof.WalksMore
import PyProof.DictKinds
import PyProof.RangeIter
import PyProof.PureInt
import PyProof.ListOps
import PyProof.TupleOps
import PyProof.Rows.RuleB_floordiv
import PyProof.Rows.RuleB_mod
import PyProof.Rows.RuleB_small
import PyProof.Rows.StrRules
import PyProof.P3Eq
import PyProof.NeData
import PyProof.SliceList
import PyProof.SliceMore
import PyProof.Rows.TupSub
import PyProof.Rows.StrTemp
import PyProof.IsRules
import PyProof.Methods
import PyProof.StrOps
import PyProof.Rows.ListMul
import PyProof.Rows.IntMath
import PyProof.StrBlockI
import PyProof.ListIndexNeg
import PyProof.DictRoads
import PyProof.DictStraight
import PyProof.IsiPairs
import PyProof.IsiHeapPairs
import PyProof.IsiNone
import PyProof.Rows.SortWalk
import PyProof.Rows.Range3
import PyProof.TupleOfSeq
import PyProof.ListCopy
import PyProof.ListRange
import PyProof.WalkInts
import PyProof.Rows.MinMaxN
import PyProof.Conv_int_bool
import PyProof.ConsumeWalk
import PyProof.RangeFor
import PyProof.CallStr
import KE.KIntText
import PyProof.CompFree
import PyProof.Rows.Top
import PyProof.StrCalls2
import PyProof.StrBlockH
import PyProof.Rows.Exc
import PyProof.Rows.Globals
import PyProof.Rows.TupMore
import PyProof.Rows.Method
import PyProof.DictTable
import PyProof.CallRoads
import PyProof.MeetsDict
import KE.KItem
import PyProof.Rows.TupAssign
import PyProof.StrWalks
import PyProof.ForAny
import PyProof.WalksEnum
import PyProof.EnumMake
import PyProof.ZipIter
import OpenK.KLine
import Wide.BridgeG
import Wide.Well
import PyProof.Rows.CatchOwn
import PyProof.ExcClass3
import PyProof.ExcBaseAll.ValueError
import OpenK.KCall
import PyProof.StationsW
import PyProof.RulesFinally
import PyProof.StrLawsChain
import PyProof.StrLawsTight
import PyProof.StrBlockL
import PyProof.StrLawsIn
import PySem.Challenge.RW_uf030009_14
set_option linter.all false
set_option maxHeartbeats 4000000
set_option Elab.async false
set_option genSizeOfSpec false
set_option genSizeOf false
set_option bootstrap.genMatcherCode false
set_option compiler.extract_closed false
namespace Mine
open PySem PySem.W PySem.Calls PyProof.Rows

/-- the top's run over a tree of objects -/
noncomputable def runT (p : Program) (w : World) (n₀ : Nat) (ann : Option Value) (N : Nat) : SharedT → Thread → Option SharedT :=
  Nat.rec (motive := fun _ => SharedT → Thread → Option SharedT) (fun _ _ => none) (fun _ ih s t => match through t with
    | true => some s
    | false => match Fast.tw6613529449190102663 n₀ ann t with
      | false => none
      | true => match Fast.tw10156331382660048174 (Fast.tw11892475500146522536 treeTable) p w s t with
        | some (s', t') => ih s' t'
        | none => none) N
theorem runT_of {p : Program} {w : World} {n₀ : Nat} {ann : Option Value} {n : Nat} : ∀ {s r : SharedT} {t : Thread}, runT p w n₀ ann n s t = some r → topRun treeTable p w n₀ ann n s.abs t = some r.abs := by
  induction n with
  | zero => exact fun h => nomatch h
  | succ n ih =>
    intro s r t h
    change (match through t with
      | true => some s
      | false => match Fast.tw6613529449190102663 n₀ ann t with
        | false => none
        | true => match Fast.tw10156331382660048174 (Fast.tw11892475500146522536 treeTable) p w s t with
          | some (s', t') => runT p w n₀ ann n s' t'
          | none => none) = some r at h
    show (match through t with
      | true => some s.abs
      | false => match stepOk n₀ ann t with
        | false => none
        | true => match step (denote treeTable) p w s.abs t with
          | .go s' t' => topRun treeTable p w n₀ ann n s' t'
          | .halt _ _ => none) = some r.abs
    rw [← Fast.te6613529449190102663, ← Fast.te10156331382660048174, ← Fast.te11892475500146522536] at h
    cases ht : through t with
    | true => rw [ht] at h; exact congrArg (Option.map SharedT.abs) h
    | false =>
      rw [ht] at h
      cases hk : stepOk n₀ ann t with
      | false => rw [hk] at h; nomatch h
      | true =>
        rw [hk] at h
        cases hs : stepT (denote treeTable) p w s t with
        | none => rw [hs] at h; nomatch h
        | some q => rw [hs] at h; rw [stepT_spec hs]; exact ih h
noncomputable def bootT (P : Params) (os : OsState) : SharedT := ⟨List.rec (motive := fun _ => Nat → BT → BT) (fun _ t => t) (fun o _ ih n t => ih (n + 1) (t.ins n o)) (boot_heap P).objs.toList 0 .nil, 11, (boot_heap P).life, Array.mk [], boot_drawn, boot_toks, os⟩
theorem bootT_abs (P : Params) (os : OsState) : (bootT P os).abs = ⟨boot_heap P, Array.mk [], boot_drawn, boot_toks, os⟩ := by kernel_rfl
noncomputable def laid {β : Type} (l : List Obj) : (List Obj → β) → β := List.rec (motive := fun _ => (List Obj → β) → β) (fun k => k []) (fun o _ ih k => Obj.rec (fun a b c d => ih fun r => k (⟨a, b, c, d⟩ :: r)) o) l
theorem laid_eq {β : Type} (l : List Obj) : ∀ k : List Obj → β, laid l k = k l := by
  induction l with
  | nil => exact fun _ => rfl
  | cons o l ih => exact fun k => ih _
/-- what the top's end must show -/
noncomputable def endT (p q : Program) (loose : List Str) (Xt : Shared → Bool) (g0 : Bool) (w : World) (s : Shared) := cond (staticsOk (importedModules p.main.body) (boot_heap w.params) s.heap && namesBound p s.heap && gensDone s && laidKept (boot_heap w.params) s.heap) (some (Fast.tw4187177175401517315 q loose (importedModules p.main.body) Xt g0 s)) none
theorem left_tree {p q : Program} {loose : List Str} {Xt : Shared → Bool} {N : Nat} {g0 : Bool}
    (e : opening p = plainProg p.main.scope.names) (hN : Nat.ble 600 N = true) (f : ∀ s, fenceModules? p s = some s)
    (run : ∀ (w : World) (os : OsState), (runT p w 11 ((boot_heap w.params).nsMap mainGlobals "__annotations__") N (bootT w.params os) (topStub p)).bind (fun S => laid (S.tree.list S.n) fun l => endT p q loose Xt g0 w ⟨⟨Array.mk l, S.life⟩, S.gens, S.drawn, S.toks, S.os⟩) = some (openGood q loose)) :
    LeftO p q loose Xt (fun _ => ()) (fun _ => ()) N g0 := fun w => by
  obtain ⟨⟨h, gs, d, k, os⟩, e, e'⟩ := Option.map_eq_some_iff.mp (boot_open e hN f w)
  obtain ⟨rfl, rfl, rfl, rfl⟩ : h = boot_heap w.params ∧ gs = Array.mk [] ∧ d = boot_drawn ∧ k = boot_toks := by simpa using e'
  unfold openEnds
  rw [e]
  obtain ⟨S, hS, r⟩ := Option.bind_eq_some_iff.mp (run w os)
  rw [laid_eq] at r
  have x := runT_of hS
  rw [bootT_abs] at x
  have z : ((boot_heap w.params).isNs mainGlobals && (Array.mk ([] : List GenState)).size == 0) = true := by kernel_rfl
  show (topFrom treeTable p w N _).map _ = _
  unfold topFrom
  rw [z]
  show ((topRun treeTable p w 11 ((boot_heap w.params).nsMap mainGlobals "__annotations__") N ⟨boot_heap w.params, Array.mk [], boot_drawn, boot_toks, os⟩ (topStub p)).bind _).map _ = _
  rw [x, Option.bind_some]
  unfold endT at r
  rw [← Fast.te4187177175401517315] at r
  change cond (staticsOk (importedModules p.main.body) (boot_heap w.params) S.abs.heap && namesBound p S.abs.heap && gensDone S.abs && laidKept (boot_heap w.params) S.abs.heap) (some (openSeen q loose (importedModules p.main.body) Xt g0 S.abs)) none = _ at r
  cases b : staticsOk (importedModules p.main.body) (boot_heap w.params) S.abs.heap && namesBound p S.abs.heap && gensDone S.abs && laidKept (boot_heap w.params) S.abs.heap with
  | false => rw [b] at r; nomatch r
  | true => rw [b] at r; exact congrArg (fun o => o.map fun x => (x, ())) r
theorem said_quick {l : OpenLaw} (h : Fast.tw9446332074065402090 l = true) : l.wellSaid = true := by rw [Fast.te9446332074065402090]; exact h

set_option maxRecDepth 100000
open PySem

noncomputable def veMro : List Value := [.type "ValueError", .type "Exception", .type "BaseException", .type "object"]
noncomputable def qn : List Str := "__class__" :: quietNames

/-- an object that is an exception class -/
noncomputable def IsExc (o : Obj) (C N : Addr) (bm : List Value) : Prop := ∃ nm q bs hdct sn sub ab col dd k0 k1 k2 k3 k5, o = excClassObj nm q C N bs bm hdct sn sub ab col dd k0 k1 k2 k3 k5 "ValueError.__new__"
/-- an own exception class with those above it -/
noncomputable def XObj (h : Heap) (C : Addr) (bm : List Value) : Prop := ∃ o N mN, h.get? C = some o ∧ IsExc o C N bm ∧ h.Ns N mN ∧ ∀ n ∈ qn, mN n = none
theorem XObj.keeps {h h' : Heap} {C : Addr} {bm : List Value} (x : XObj h C bm) (k : ∀ b o, h.get? b = some o → h'.get? b = some o) : XObj h' C bm := by
  obtain ⟨o, N, mN, h1, h2, h3, h4⟩ := x
  exact ⟨o, N, mN, k _ _ h1, h2, h3.keeps k, h4⟩
/-- an own exception class, right under another own one that is a ValueError -/
structure XCls (h : Heap) (C Z : Addr) : Prop where
  obj : XObj h C (.ref Z :: veMro)
  sup : XObj h Z veMro
theorem XCls.keeps {h h' : Heap} {C Z : Addr} (x : XCls h C Z) (k : ∀ b o, h.get? b = some o → h'.get? b = some o) : XCls h' C Z := ⟨x.obj.keeps k, x.sup.keeps k⟩
theorem XCls.tail {h : Heap} {C Z : Addr} (x : XCls h C Z) : OwnTailQ h veMro (.ref Z :: veMro) := by
  obtain ⟨o, N, mN, h1, ⟨_, _, _, _, _, _, _, _, _, _, _, _, _, _, rfl⟩, h2, h3⟩ := x.sup
  exact .own h1 h2 (fun n hn => h3 n (.tail _ hn)) .base

theorem lk_ve_class : typeLookup (.type "ValueError") "__class__" = pure (some (.builtin "object.__class__")) := by rw [typeLookup_type, builtinLookup_eq_fast]; kernel_rfl

section
variable {prog : Program} {w : World} {A : Around} {E : Value → Shared → Prop} {h : Heap} {g : Array GenState} {d : Drawn} {t : Nat} {os : OsState} {a C Z D : Addr} {o : Obj}

theorem isSub_x {M : Model} {base : Value} {Q : Bool → Shared → Prop} (X : XCls h C Z) (hq : Q ((Value.ref C :: .ref Z :: veMro).contains base) ⟨h, g, d, t, os⟩) : wpAny M A (isSubtype (.ref C) base) Q E ⟨h, g, d, t, os⟩ := by
  obtain ⟨o, N, mN, h1, ⟨_, _, _, _, _, _, _, _, _, _, _, _, _, _, rfl⟩, _, _⟩ := X.obj
  exact wpAny_isSubtype_exc h1 hq

theorem lookup_class_x {M : Model} {Q : Option Value → Shared → Prop} (X : XCls h C Z) (hq : Q (some (.builtin "object.__class__")) ⟨h, g, d, t, os⟩) : wpAny M A (typeLookup (.ref C) "__class__") Q E ⟨h, g, d, t, os⟩ := by
  obtain ⟨_, _, _, h1, ⟨_, _, _, _, _, _, _, _, _, _, _, _, _, _, rfl⟩, h2, h3⟩ := X.obj
  obtain ⟨_, _, _, g1, ⟨_, _, _, _, _, _, _, _, _, _, _, _, _, _, rfl⟩, g2, g3⟩ := X.sup
  have hrest : lookupAlong veMro "__class__" = pure (some (.builtin "object.__class__")) := by
    have hB := lk_ve_class
    rw [typeLookup_eq, F.attrBase_ValueError.mro] at hB
    exact hB
  rw [typeLookup_eq]
  refine wpAny_bind (wpAny_mroOf_exc h1 ?_)
  rw [lookupAlong_cons]
  refine wpAny_bind (wpAny_classOwn_exc h1 h2 ?_)
  rw [h3 _ (.head _)]
  show wpAny M A (lookupAlong (.ref Z :: veMro) "__class__") Q E _
  rw [lookupAlong_cons]
  refine wpAny_bind (wpAny_classOwn_exc g1 g2 ?_)
  rw [g3 _ (.head _)]
  show wpAny M A (lookupAlong veMro "__class__") Q E _
  rw [hrest]
  exact wpAny_pure hq

theorem class_get_x {R : Result → Shared → Prop} (X : XCls h C Z) (hx : h.get? a = some o) (hc : o.cls = .ref C) (hq : R (.ok (.ret (.ref C))) ⟨h, g, d, t, os⟩) :
    codeAny (model prog w) A (.call (.builtin "getset_descriptor.__get__") ⟨[.builtin "object.__class__", .ref a, .ref C], []⟩) R ⟨h, g, d, t, os⟩ := by
  have hT5 : (⟨h, g, d, t, os⟩ : Shared).TypeIs (.builtin "object.__class__") "getset_descriptor" := F.typeOf_object_class
  have hcB : (Value.ref C :: .ref Z :: veMro).contains (.type (".".intercalate ("object.__class__".cutAt '.').dropLast)) = true := by
    rw [F.owner_object_class]; rfl
  refine codeAny_call_builtin F.slot_gs_get.plain F.entry_gs_get (F.slot_gs_get.check _ _ _ _ _ _ _ _ hT5 (F.args_gs_get _ _ _) ?_)
  repeat (any_goals (first | assumption | (with_reducible refine wpAny_loadPart_at hx ?_; rw [hc]) | (with_reducible refine isSub_x X ?_; rw [hcB]) | wp_step))
  refine ⟨Code.quiet_builtin _ (by decide +kernel), codeAny_builtin F.entry_object_class ?_⟩
  repeat (any_goals (first | assumption | (with_reducible refine wpAny_loadPart_at hx ?_; rw [hc]) | wp_step))

theorem class_entry_x {tk : Tok} {Q : Fin → Shared → Prop} (X : XCls h C Z) (hx : h.get? a = some o) (hc : o.cls = .ref C) (hq : Q (.done (.ret (.ref C))) ⟨h, g, d, t, os⟩) :
    wpAny (model prog w) A (Builtin.«object.__getattribute__» ⟨[.ref a, .str "__class__" tk], []⟩) Q E ⟨h, g, d, t, os⟩ := by
  have hT5 : (⟨h, g, d, t, os⟩ : Shared).TypeIs (.builtin "object.__class__") "getset_descriptor" := F.typeOf_object_class
  have f5 := F.typeOf_object_class
  have f6 := F.slot_gs_get.lookup
  have f7 := F.slot_gs_set.lookup
  repeat (any_goals (first | assumption | (with_reducible refine wpAny_loadPart_at hx ?_; rw [hc]) | with_reducible refine lookup_class_x X ?_ | wp_step))
  refine class_get_x X hx hc ?_
  repeat (any_goals (first | assumption | wp_step))

theorem class_call_x {tk : Tok} {R : Result → Shared → Prop} (X : XCls h C Z) (hx : h.get? a = some o) (hc : o.cls = .ref C) (hq : R (.ok (.ret (.ref C))) ⟨h, g, d, t, os⟩) :
    codeAny (model prog w) A (.call (.builtin "BaseException.__getattribute__") ⟨[.ref a, .str "__class__" tk], []⟩) R ⟨h, g, d, t, os⟩ := by
  obtain ⟨_, _, _, h1, ⟨_, _, _, _, _, _, _, _, _, _, _, _, _, _, rfl⟩, h2, h3⟩ := X.obj
  exact codeAny_call_builtin F.attrBase_ValueError.ga.plain F.entry_bexc_ga (wpAny_check_ga_own F.attrBase_ValueError h1 X.tail hx hc (class_entry_x X hx hc hq))

theorem class_by_x {tk : Tok} {Q : Value → Shared → Prop} (X : XCls h C Z) (hx : h.get? a = some o) (hc : o.cls = .ref C) (hq : Q (.ref C) ⟨h, g, d, t, os⟩) :
    wpAny (model prog w) A (getAttrBy (.ref a) (.str "__class__" tk) false) Q E ⟨h, g, d, t, os⟩ := by
  obtain ⟨_, _, _, h1, ⟨_, _, _, _, _, _, _, _, _, _, _, _, _, _, rfl⟩, h2, h3⟩ := X.obj
  have T := X.tail
  have h3' : ∀ n ∈ quietNames, _ := fun n hn => h3 n (.tail _ hn)
  have f3 := F.attrBase_ValueError.ga.bind (.ref a)
  have hx0 : (false && onTheHeap (Value.builtin "BaseException.__getattribute__")) = false := rfl
  have hx2 : (Value.builtin "BaseException.__getattribute__" == Value.builtin "object.__getattribute__") = false := by decide +kernel
  have hx1 : (onTheHeap (Value.ref C) && Value.builtin "BaseException.__getattribute__" == Value.builtin "object.__getattribute__") = false := by rw [hx2]; rfl
  have hm1 : ("__getattribute__" : Str) ∈ quietNames := .tail _ (.head _)
  have hm2 : ("__getattr__" : Str) ∈ quietNames := .tail _ (.tail _ (.head _))
  repeat (any_goals (first | assumption | (with_reducible refine wpAny_loadPart_at hx ?_; rw [hc]) | with_reducible refine wpAny_typeLookup_tailQ hm1 h1 h2 h3' T F.attrBase_ValueError.mro F.attrBase_ValueError.ga.lookup ?_ | with_reducible refine wpAny_typeLookup_tailQ hm2 h1 h2 h3' T F.attrBase_ValueError.mro F.attrBase_ValueError.noGetattr ?_ | wp_step))
  refine class_call_x X hx hc ?_
  repeat (any_goals (first | assumption | wp_step))

theorem class_attr_x {Q : Option Value → Shared → Prop} (X : XCls h C Z) (hx : h.get? a = some o) (hc : o.cls = .ref C) (hq : Q (some (.ref C)) ⟨h, g, d, t + 1, os⟩) : wpAny (model prog w) A (getAttr? (.ref a) "__class__") Q E ⟨h, g, d, t, os⟩ := by
  unfold getAttr? getAttrBy?
  repeat (any_goals (first | assumption | with_reducible apply class_by_x X hx hc | wp_step))

/-- isinstance, where the class is the object's own -/
theorem isi_self {Q : Value → Shared → Prop} (hx : h.get? a = some o) (hc : o.cls = .ref C) (hq : Q (.bool true) ⟨h, g, d, t, os⟩) : wpAny (model prog w) A (call (.builtin "isinstance") [.ref a, .ref C]) Q E ⟨h, g, d, t, os⟩ := by
  refine call_function_meets (S := fun _ R s => s = ⟨h, g, d, t, os⟩ ∧ R (.ok (.ret (.bool true))) s) F.kind_isinstance F.plain_isinstance F.entry_isinstance (F.args_isinstance_2 _ _) (fun _ _ _ _ s hs => ?_) ⟨rfl, hq⟩
  obtain ⟨rfl, hs⟩ := hs
  refine isinstance_outer ?_ (by intro e; cases e)
  repeat (any_goals (first | assumption | (with_reducible refine wpAny_loadPart_at hx ?_; rw [hc]) | wp_step))
/-- isinstance, where the class is another of the same sort -/
theorem isi_other {Q : Value → Shared → Prop} (X : XCls h C Z) (Y : XCls h D Z) (hne : C ≠ D) (hnz : Z ≠ D) (hx : h.get? a = some o) (hc : o.cls = .ref C) (hq : Q (.bool false) ⟨h, g, d, t + 1, os⟩) : wpAny (model prog w) A (call (.builtin "isinstance") [.ref a, .ref D]) Q E ⟨h, g, d, t, os⟩ := by
  refine call_function_meets (S := fun _ R s => s = ⟨h, g, d, t, os⟩ ∧ R (.ok (.ret (.bool false))) ⟨h, g, d, t + 1, os⟩) F.kind_isinstance F.plain_isinstance F.entry_isinstance (F.args_isinstance_2 _ _) (fun _ _ _ _ s hs => ?_) ⟨rfl, hq⟩
  obtain ⟨rfl, hs⟩ := hs
  refine isinstance_outer ?_ (by intro e; cases e)
  obtain ⟨_, _, _, y1, ⟨_, _, _, _, _, _, _, _, _, _, _, _, _, _, rfl⟩, _, _⟩ := Y.obj
  obtain ⟨_, _, _, x1, ⟨_, _, _, _, _, _, _, _, _, _, _, _, _, _, rfl⟩, _, _⟩ := X.obj
  have n1 : (Value.ref C == Value.ref D) = false := beq_eq_false_iff_ne.mpr fun q => hne (Value.ref.inj q)
  have n2 : (Value.ref C :: .ref Z :: veMro).contains (.ref D) = false := by
    have e1 : (Value.ref D == Value.ref C) = false := beq_eq_false_iff_ne.mpr fun q => hne (Value.ref.inj q).symm
    have e2 : (Value.ref D == Value.ref Z) = false := beq_eq_false_iff_ne.mpr fun q => hnz (Value.ref.inj q).symm
    rw [List.contains_cons, List.contains_cons, e1, e2]; rfl
  repeat (any_goals (first | assumption | (with_reducible refine wpAny_loadPart_at hx ?_; rw [hc]) | with_reducible refine wpAny_loadPart_at y1 ?_ | with_reducible refine wpAny_loadPart_at x1 ?_ | (with_reducible refine isSub_x X ?_; rw [n2]) | with_reducible apply class_attr_x X hx hc | wp_step))

theorem isi_ve {Q : Value → Shared → Prop} (X : XCls h C Z) (hx : h.get? a = some o) (hc : o.cls = .ref C) (hq : Q (.bool true) ⟨h, g, d, t, os⟩) : wpAny (model prog w) A (call (.builtin "isinstance") [.ref a, .type "ValueError"]) Q E ⟨h, g, d, t, os⟩ := by
  refine call_function_meets (S := fun _ R s => s = ⟨h, g, d, t, os⟩ ∧ R (.ok (.ret (.bool true))) s) F.kind_isinstance F.plain_isinstance F.entry_isinstance (F.args_isinstance_2 _ _) (fun _ _ _ _ s hs => ?_) ⟨rfl, hq⟩
  obtain ⟨rfl, hs⟩ := hs
  refine isinstance_outer ?_ (by intro e; cases e)
  have n1 : (Value.ref C == Value.type "ValueError") = false := rfl
  have n2 : (Value.ref C :: .ref Z :: veMro).contains (.type "ValueError") = true := rfl
  have hty : typeOf (.type "ValueError") = pure (.type "type") := by kernel_rfl
  repeat (any_goals (first | assumption | (with_reducible refine wpAny_loadPart_at hx ?_; rw [hc]) | (with_reducible refine isSub_x X ?_; rw [n2]) | wp_step))

/-- an except clause takes a class by the one above it -/
theorem matches_x {M : Model} {Q : Bool → Shared → Prop} (X : XCls h C Z) (hx : h.get? a = some o) (hc : o.cls = .ref C) (hq : Q true ⟨h, g, d, t, os⟩) : wpAny M A (excMatches (.ref a) (.ref Z)) Q E ⟨h, g, d, t, os⟩ := by
  obtain ⟨_, _, _, g1, ⟨_, _, _, _, _, _, _, _, _, _, _, _, _, _, rfl⟩, _, _⟩ := X.sup
  have hcB : (Value.ref Z :: veMro).contains (.type "BaseException") = true := by rw [List.contains_cons]; rfl
  have hcC : (Value.ref C :: .ref Z :: veMro).contains (.ref Z) = true := by simp
  have f := tc_notTuple
  unfold excMatches
  repeat (first | (with_reducible refine wpAny_loadPart_at hx ?_; rw [hc]) | with_reducible refine wpAny_loadPart_at g1 ?_ | (with_reducible refine wpAny_isSubtype_exc g1 ?_; rw [hcB]) | (with_reducible refine isSub_x X ?_; rw [hcC]) | wp_step)
  exact hq
end

open PySem

inductive AV where
  | none
  | bool (b : Bool)
  | int (i : Int)
  | str (x : Str)
  | tup (vs : List AV)
  | fl (vs : List AV)
  | ref (n : Nat)
  | rng (a b c : Int)
  | dict (ks : List Str) (vs : List AV)
  | exc (c : Addr)
  deriving Inhabited

noncomputable abbrev AH := List (List AV)

/-- the addresses to be left alone, and whose world it is -/
structure Sx where
  ad : List Addr
  prog : Program
  w : World

noncomputable def rngOk (a b c : Int) : Prop := (-1000000 ≤ a ∧ a ≤ 1000000) ∧ (-1000000 ≤ b ∧ b ≤ 1000000) ∧ (1 ≤ c ∧ c ≤ 1000)
/-- a plain tuple -/
noncomputable def PT (h : Heap) (a : Addr) (items : Array Value) : Prop := ∃ n, h.get? a = some { cls := .type "tuple", data := .seq items n }
theorem PT.at {h h' : Heap} {a : Addr} {items : Array Value} (p : PT h a items) (k : ∀ o, h.get? a = some o → h'.get? a = some o) : PT h' a items := let ⟨n, e⟩ := p; ⟨n, k _ e⟩
theorem PT.get {h : Heap} {a : Addr} {items : Array Value} (x : PT h a items) : ∃ o, h.get? a = some o := let ⟨_, ho⟩ := x; ⟨_, ho⟩
theorem PT.isTuple {h : Heap} {a : Addr} {items : Array Value} (x : PT h a items) : h.IsTuple a items := let ⟨n, ho⟩ := x; ⟨_, ho, rfl, n, rfl⟩
theorem PL.get {h : Heap} {a : Addr} {items : Array Value} (x : h.PlainList a items) : ∃ o, h.get? a = some o := let ⟨_, ho⟩ := x; ⟨_, ho⟩
theorem PlainList.at' {h h' : Heap} {a : Addr} {items : Array Value} (p : h.PlainList a items) (k : ∀ o, h.get? a = some o → h'.get? a = some o) : h'.PlainList a items := let ⟨n, e⟩ := p; ⟨n, k _ e⟩
theorem PL.isList {h : Heap} {a : Addr} {items : Array Value} (p : h.PlainList a items) : h.IsList a items := let ⟨n, e⟩ := p; ⟨_, e, rfl, n, rfl⟩

/-- an object of the class at c -/
noncomputable def XI (h : Heap) (a c : Addr) : Prop := ∃ o, h.get? a = some o ∧ o.cls = .ref c
theorem XI.get {h : Heap} {a c : Addr} (x : XI h a c) : ∃ o, h.get? a = some o := let ⟨o, ho, _⟩ := x; ⟨o, ho⟩
theorem XI.at {h h' : Heap} {a c : Addr} (x : XI h a c) (k : ∀ o, h.get? a = some o → h'.get? a = some o) : XI h' a c := let ⟨o, ho, q⟩ := x; ⟨o, k _ ho, q⟩

/-- a dict, not that of the modules -/
noncomputable def DMap (prog : Program) (w : World) (h : Heap) (a : Addr) (f : Str → Option Value) : Prop := a ≠ sysModules ∧ h.MapOf (strKind prog w) a f
mutual
inductive VRel (S : Sx) (ρ : List Addr) (h : Heap) : AV → Value → Prop
  | none : VRel S ρ h .none .none
  | bool (b : Bool) : VRel S ρ h (.bool b) (.bool b)
  | int (i : Int) (t : Tok) : VRel S ρ h (.int i) (.int i t)
  | str (x : Str) (t : Tok) : VRel S ρ h (.str x) (.str x t)
  | tup {a : Addr} {items : Array Value} {vs : List AV} : a ∉ ρ → a ∉ S.ad → PT h a items → VRels S ρ h vs items.toList → VRel S ρ h (.tup vs) (.ref a)
  | fl {a : Addr} {items : Array Value} {vs : List AV} : a ∉ ρ → a ∉ S.ad → h.PlainList a items → VRels S ρ h vs items.toList → VRel S ρ h (.fl vs) (.ref a)
  | ref {i : Nat} {a : Addr} : ρ[i]? = some a → VRel S ρ h (.ref i) (.ref a)
  | rng {a : Addr} {i j k : Int} {t u v : Tok} : rngOk i j k → a ∉ ρ → a ∉ S.ad → IsRange h a i j k t u v → VRel S ρ h (.rng i j k) (.ref a)
  | dict {a : Addr} {ks : List Str} {vs : List AV} {xs : List Value} {f : Str → Option Value} : a ∉ ρ → a ∉ S.ad → DMap S.prog S.w h a f → (∀ k, f k = (ks.zip xs).lookup k) → VRels S ρ h vs xs → VRel S ρ h (.dict ks vs) (.ref a)
  | exc {a c : Addr} : a ∉ ρ → a ∉ S.ad → XI h a c → VRel S ρ h (.exc c) (.ref a)
inductive VRels (S : Sx) (ρ : List Addr) (h : Heap) : List AV → List Value → Prop
  | nil : VRels S ρ h [] []
  | cons {v : AV} {vs : List AV} {x : Value} {xs : List Value} : VRel S ρ h v x → VRels S ρ h vs xs → VRels S ρ h (v :: vs) (x :: xs)
end

theorem VRels.ind {S : Sx} {ρ : List Addr} {h : Heap} {M : List AV → List Value → Prop} (hn : M [] []) (hc : ∀ v vs x xs, VRel S ρ h v x → VRels S ρ h vs xs → M vs xs → M (v :: vs) (x :: xs)) {vs : List AV} {xs : List Value} (V : VRels S ρ h vs xs) : M vs xs :=
  VRels.rec (motive_1 := fun _ _ _ => True) (motive_2 := fun vs xs _ => M vs xs) trivial (fun _ => trivial) (fun _ _ => trivial) (fun _ _ => trivial) (fun _ _ _ _ _ => trivial) (fun _ _ _ _ _ => trivial) (fun _ => trivial) (fun _ _ _ _ => trivial) (fun _ _ _ _ _ _ => trivial) (fun _ _ _ => trivial) hn (fun hv hr _ ih => hc _ _ _ _ hv hr ih) V
theorem DMap.get {prog : Program} {w : World} {h : Heap} {a : Addr} {f : Str → Option Value} (x : DMap prog w h a f) : ∃ o, h.get? a = some o := let ⟨_, o, _, _, e, _⟩ := x; ⟨o, e⟩
theorem DMap.at {prog : Program} {w : World} {h h' : Heap} {a : Addr} {f : Str → Option Value} (x : DMap prog w h a f) (k : ∀ o, h.get? a = some o → h'.get? a = some o) : DMap prog w h' a f :=
  let ⟨n, o, es, ep, e, r⟩ := x; ⟨n, o, es, ep, k _ e, r⟩
/-- h' keeps what h has -/
noncomputable def Kp (h h' : Heap) : Prop := ∀ b o, h.get? b = some o → h'.get? b = some o
theorem Kp.refl (h : Heap) : Kp h h := fun _ _ e => e
theorem Kp.trans {h h' h'' : Heap} (x : Kp h h') (y : Kp h' h'') : Kp h h'' := fun b o e => y b o (x b o e)

/-- new addresses -/
noncomputable def Fresh (h : Heap) (e : List Addr) : Prop := ∀ a ∈ e, h.get? a = none

theorem not_mem_app {h : Heap} {a : Addr} {ρ e : List Addr} (ha : a ∉ ρ) (hg : ∃ o, h.get? a = some o) (hf : Fresh h e) : a ∉ ρ ++ e := fun hm => by
  rcases List.mem_append.mp hm with q | q
  · exact ha q
  · obtain ⟨o, ho⟩ := hg
    rw [hf a q] at ho; cases ho

/-- values stay what they are where the objects off ρ are kept -/
theorem VRel.mono {S : Sx} {ρ e : List Addr} {h h' : Heap} (hk : ∀ a o, a ∉ ρ → h.get? a = some o → h'.get? a = some o) (hf : Fresh h e) {v : AV} {x : Value} (V : VRel S ρ h v x) : VRel S (ρ ++ e) h' v x :=
  VRel.rec (motive_1 := fun v x _ => VRel S (ρ ++ e) h' v x) (motive_2 := fun v x _ => VRels S (ρ ++ e) h' v x)
    .none (fun b => .bool b) (fun i t => .int i t) (fun x t => .str x t)
    (fun ha hs hi _ ih => .tup (not_mem_app ha hi.get hf) hs (hi.at fun o ho => hk _ o ha ho) ih)
    (fun ha hs hi _ ih => .fl (not_mem_app ha (PL.get hi) hf) hs (PlainList.at' hi fun o ho => hk _ o ha ho) ih)
    (fun hi => .ref (by rw [List.getElem?_append_left]; exact hi; exact (List.getElem?_eq_some_iff.mp hi).1))
    (fun hr ha hs hi => .rng hr (not_mem_app ha ⟨_, hi⟩ hf) hs (hk _ _ ha hi))
    (fun ha hs hm he _ ih => .dict (not_mem_app ha (DMap.get hm) hf) hs (DMap.at hm fun o ho => hk _ o ha ho) he ih)
    (fun ha hs hx => .exc (not_mem_app ha hx.get hf) hs (hx.at fun o ho => hk _ o ha ho))
    .nil (fun _ _ i1 i2 => .cons i1 i2) V
theorem VRels.mono {S : Sx} {ρ e : List Addr} {h h' : Heap} (hk : ∀ a o, a ∉ ρ → h.get? a = some o → h'.get? a = some o) (hf : Fresh h e) {vs : List AV} {xs : List Value} (V : VRels S ρ h vs xs) : VRels S (ρ ++ e) h' vs xs :=
  VRels.ind (M := fun vs xs => VRels S (ρ ++ e) h' vs xs) .nil (fun _ _ _ _ hv _ i2 => .cons (VRel.mono hk hf hv) i2) V
theorem VRel.kp {S : Sx} {ρ e : List Addr} {h h' : Heap} {v : AV} {x : Value} (V : VRel S ρ h v x) (hk : Kp h h') (hf : Fresh h e) : VRel S (ρ ++ e) h' v x := V.mono (fun a o _ q => hk a o q) hf
theorem VRels.kp {S : Sx} {ρ e : List Addr} {h h' : Heap} {v : List AV} {x : List Value} (V : VRels S ρ h v x) (hk : Kp h h') (hf : Fresh h e) : VRels S (ρ ++ e) h' v x := V.mono (fun a o _ q => hk a o q) hf
theorem Fresh.nil (h : Heap) : Fresh h [] := fun _ hm => nomatch hm
theorem VRel.kp0 {S : Sx} {ρ : List Addr} {h h' : Heap} {v : AV} {x : Value} (V : VRel S ρ h v x) (hk : Kp h h') : VRel S ρ h' v x := by simpa using V.kp hk (Fresh.nil h)
theorem VRels.kp0 {S : Sx} {ρ : List Addr} {h h' : Heap} {v : List AV} {x : List Value} (V : VRels S ρ h v x) (hk : Kp h h') : VRels S ρ h' v x := by simpa using V.kp hk (Fresh.nil h)
theorem VRel.off {S : Sx} {ρ : List Addr} {h h' : Heap} {v : AV} {x : Value} (V : VRel S ρ h v x) (hk : ∀ a o, a ∉ ρ → h.get? a = some o → h'.get? a = some o) : VRel S ρ h' v x := by simpa using V.mono hk (Fresh.nil h)
theorem VRels.off {S : Sx} {ρ : List Addr} {h h' : Heap} {v : List AV} {x : List Value} (V : VRels S ρ h v x) (hk : ∀ a o, a ∉ ρ → h.get? a = some o → h'.get? a = some o) : VRels S ρ h' v x := by simpa using V.mono hk (Fresh.nil h)

section
variable {S : Sx} {ρ : List Addr} {h : Heap} {vs ws : List AV} {xs ys : List Value}
theorem VRels.length (V : VRels S ρ h vs xs) : vs.length = xs.length := VRels.ind (M := fun vs xs => vs.length = xs.length) rfl (fun _ _ _ _ _ _ ih => congrArg (· + 1) ih) V
theorem VRels.app (V : VRels S ρ h vs xs) (w : VRels S ρ h ws ys) : VRels S ρ h (vs ++ ws) (xs ++ ys) := VRels.ind (M := fun vs xs => VRels S ρ h (vs ++ ws) (xs ++ ys)) w (fun _ _ _ _ hv _ ih => .cons hv ih) V
theorem VRels.get {i : Nat} {v : AV} (V : VRels S ρ h vs xs) (e : vs[i]? = some v) : ∃ x, xs[i]? = some x ∧ VRel S ρ h v x :=
  VRels.ind (M := fun vs xs => ∀ i, vs[i]? = some v → ∃ x, xs[i]? = some x ∧ VRel S ρ h v x) (fun _ e => by simp at e) (fun _ _ _ _ hv _ ih i e => match i, e with
    | 0, e => ⟨_, rfl, Option.some.inj e ▸ hv⟩
    | i + 1, e => ih i e) V i e
theorem VRels.getR {i : Nat} {x : Value} (V : VRels S ρ h vs xs) (e : xs[i]? = some x) : ∃ v, vs[i]? = some v ∧ VRel S ρ h v x :=
  VRels.ind (M := fun vs xs => ∀ i, xs[i]? = some x → ∃ v, vs[i]? = some v ∧ VRel S ρ h v x) (fun _ e => by simp at e) (fun _ _ _ _ hv _ ih i e => match i, e with
    | 0, e => ⟨_, rfl, Option.some.inj e ▸ hv⟩
    | i + 1, e => ih i e) V i e
theorem VRels.take (n : Nat) (V : VRels S ρ h vs xs) : VRels S ρ h (vs.take n) (xs.take n) := VRels.ind (M := fun vs xs => ∀ n, VRels S ρ h (vs.take n) (xs.take n)) (fun n => by rw [List.take_nil, List.take_nil]; exact .nil) (fun _ _ _ _ hv _ ih n => match n with
    | 0 => .nil
    | n + 1 => .cons hv (ih n)) V n
theorem VRels.drop (n : Nat) (V : VRels S ρ h vs xs) : VRels S ρ h (vs.drop n) (xs.drop n) := VRels.ind (M := fun vs xs => ∀ n, VRels S ρ h (vs.drop n) (xs.drop n)) (fun n => by rw [List.drop_nil, List.drop_nil]; exact .nil) (fun _ _ _ _ hv hr ih n => match n with
    | 0 => .cons hv hr
    | n + 1 => ih n) V n
theorem VRels.set {v : AV} {x : Value} (hv : VRel S ρ h v x) (n : Nat) (V : VRels S ρ h vs xs) : VRels S ρ h (vs.set n v) (xs.set n x) := VRels.ind (M := fun vs xs => ∀ n, VRels S ρ h (vs.set n v) (xs.set n x)) (fun _ => .nil) (fun _ _ _ _ hw hr ih n => match n with
    | 0 => .cons hv hr
    | n + 1 => .cons hw (ih n)) V n
end

noncomputable def opt {α : Type} (o : Option α) (k : α → Prop) : Prop := match o with
  | some a => k a
  | Option.none => False
theorem opt_of {α : Type} {o : Option α} {k : α → Prop} (h : opt o k) : ∃ a, o = some a ∧ k a := by
  cases o with
  | none => exact False.elim h
  | some a => exact ⟨a, rfl, h⟩
@[simp] theorem opt_some {α : Type} (a : α) (k : α → Prop) : opt (some a) k = k a := rfl

/-- the abstract heap -/
structure HSim (S : Sx) (ρ : List Addr) (H : AH) (h : Heap) : Prop where
  len : ρ.length = H.length
  nodup : ρ.Nodup
  off : ∀ a ∈ ρ, a ∉ S.ad
  obj : ∀ (i : Nat) (vs : List AV), H[i]? = some vs → ∃ a items, ρ[i]? = some a ∧ h.PlainList a items ∧ VRels S ρ h vs items.toList

theorem HSim.get {S : Sx} {ρ : List Addr} {H : AH} {h : Heap} (X : HSim S ρ H h) {i : Nat} {vs : List AV} {a : Addr} (hi : H[i]? = some vs) (ha : ρ[i]? = some a) : ∃ items, h.PlainList a items ∧ VRels S ρ h vs items.toList := by
  obtain ⟨a', items, e, p, v⟩ := X.obj i vs hi
  rw [ha] at e; cases e
  exact ⟨items, p, v⟩
theorem HSim.kp {S : Sx} {ρ : List Addr} {H : AH} {h h' : Heap} (X : HSim S ρ H h) (hk : Kp h h') : HSim S ρ H h' where
  len := X.len
  nodup := X.nodup
  off := X.off
  obj := fun i vs e => by
    obtain ⟨a, items, e1, p, v⟩ := X.obj i vs e
    exact ⟨a, items, e1, PlainList.at' p fun o q => hk _ o q, v.kp0 hk⟩
theorem HSim.mem {S : Sx} {ρ : List Addr} {H : AH} {h : Heap} (X : HSim S ρ H h) {a : Addr} (ha : a ∈ ρ) : ∃ o, h.get? a = some o := by
  obtain ⟨i, hi, rfl⟩ := List.mem_iff_getElem.mp ha
  have hi' : i < H.length := by rw [← X.len]; exact hi
  obtain ⟨a', items, e1, ⟨n, p⟩, _⟩ := X.obj i H[i] (by simp [hi'])
  rw [List.getElem?_eq_getElem hi] at e1
  cases e1
  exact ⟨_, p⟩
theorem HSim.mem' {S : Sx} {ρ : List Addr} {H : AH} {h : Heap} (X : HSim S ρ H h) {i : Nat} {a : Addr} (ha : ρ[i]? = some a) : ∃ items, h.PlainList a items ∧ True := by
  obtain ⟨hi, e⟩ := List.getElem?_eq_some_iff.mp ha
  have hi' : i < H.length := by rw [← X.len]; exact hi
  obtain ⟨items, p, _⟩ := X.get (i := i) (vs := H[i]) (by simp [hi']) ha
  exact ⟨items, p, trivial⟩
/-- a new list -/
theorem HSim.push {S : Sx} {ρ : List Addr} {H : AH} {h h' : Heap} {a : Addr} {items : Array Value} {vs : List AV} (X : HSim S ρ H h) (hk : Kp h h') (hn : h.get? a = none) (hS : a ∉ S.ad) (p : h'.PlainList a items) (v : VRels S ρ h vs items.toList)
    : HSim S (ρ ++ [a]) (H ++ [vs]) h' where
  len := by simp [X.len]
  nodup := by
    rw [List.nodup_append]
    refine ⟨X.nodup, by simp, ?_⟩
    intro b hb c hc e
    simp at hc
    obtain ⟨o, ho⟩ := X.mem hb
    rw [e, hc, hn] at ho; cases ho
  off := fun b hb => by
    rcases List.mem_append.mp hb with q | q
    · exact X.off b q
    · simp at q; subst q; exact hS
  obj := fun i ws e => by
    have fr : Fresh h [a] := fun b hb => by simp at hb; subst hb; exact hn
    by_cases hi : i < H.length
    · rw [List.getElem?_append_left hi] at e
      obtain ⟨b, its, e1, p1, v1⟩ := X.obj i ws e
      exact ⟨b, its, by rw [List.getElem?_append_left (by rw [X.len]; exact hi)]; exact e1, PlainList.at' p1 fun o q => hk _ o q, v1.kp hk fr⟩
    · rw [List.getElem?_append_right (Nat.le_of_not_lt hi)] at e
      have : i - H.length = 0 := by
        cases q : i - H.length with
        | zero => rfl
        | succ k => rw [q] at e; simp at e
      rw [this] at e; simp at e; subst e
      refine ⟨a, items, ?_, p, ?_⟩
      · rw [List.getElem?_append_right (by rw [X.len]; exact Nat.le_of_not_lt hi), X.len, this]; rfl
      · exact v.kp hk fr

open PySem

mutual
/-- a value told anew: the lists of φ keep a number, all others are frozen -/
inductive Ren (φ : List Nat) (H : AH) : AV → AV → Prop
  | none : Ren φ H .none .none
  | bool (b : Bool) : Ren φ H (.bool b) (.bool b)
  | int (i : Int) : Ren φ H (.int i) (.int i)
  | str (x : Str) : Ren φ H (.str x) (.str x)
  | tup {vs ws : List AV} : Rens φ H vs ws → Ren φ H (.tup vs) (.tup ws)
  | fl {vs ws : List AV} : Rens φ H vs ws → Ren φ H (.fl vs) (.fl ws)
  | ref {i j : Nat} : φ[i]? = some j → Ren φ H (.ref j) (.ref i)
  | rng (i j k : Int) : Ren φ H (.rng i j k) (.rng i j k)
  | dict {ks : List Str} {vs ws : List AV} : Rens φ H vs ws → Ren φ H (.dict ks vs) (.dict ks ws)
  | exc (c : Addr) : Ren φ H (.exc c) (.exc c)
  | frz {j : Nat} {xs ys : List AV} : j ∉ φ → H[j]? = some xs → Rens φ H xs ys → Ren φ H (.ref j) (.fl ys)
inductive Rens (φ : List Nat) (H : AH) : List AV → List AV → Prop
  | nil : Rens φ H [] []
  | cons {v w : AV} {vs ws : List AV} : Ren φ H v w → Rens φ H vs ws → Rens φ H (v :: vs) (w :: ws)
end
theorem Rens.ind {φ : List Nat} {H : AH} {M : List AV → List AV → Prop} (hn : M [] []) (hc : ∀ v vs w ws, Ren φ H v w → Rens φ H vs ws → M vs ws → M (v :: vs) (w :: ws)) {vs ws : List AV} (r : Rens φ H vs ws) : M vs ws :=
  Rens.rec (motive_1 := fun _ _ _ => True) (motive_2 := fun vs ws _ => M vs ws) trivial (fun _ => trivial) (fun _ => trivial) (fun _ => trivial) (fun _ _ => trivial) (fun _ _ => trivial) (fun _ => trivial) (fun _ _ _ => trivial) (fun _ _ => trivial) (fun _ => trivial) (fun _ _ _ _ => trivial) hn (fun hv hr _ ih => hc _ _ _ _ hv hr ih) r
theorem Rens.app {φ : List Nat} {H : AH} {a b c d : List AV} (x : Rens φ H a b) (y : Rens φ H c d) : Rens φ H (a ++ c) (b ++ d) := Rens.ind (M := fun a b => Rens φ H (a ++ c) (b ++ d)) y (fun _ _ _ _ r _ ih => .cons r ih) x
theorem Rens.length {φ : List Nat} {H : AH} {a b : List AV} (x : Rens φ H a b) : a.length = b.length := Rens.ind (M := fun a b => a.length = b.length) rfl (fun _ _ _ _ _ _ ih => congrArg (· + 1) ih) x
theorem Rens.ofAll {φ : List Nat} {H : AH} {α : Type} {f g : α → AV} : ∀ {l : List α}, (∀ x ∈ l, Ren φ H (f x) (g x)) → Rens φ H (l.map f) (l.map g)
  | [], _ => .nil
  | x :: r, h => .cons (h x (.head _)) (Rens.ofAll fun y hy => h y (.tail _ hy))
theorem Rens.self {φ : List Nat} {H : AH} : ∀ {l : List AV}, (∀ x ∈ l, Ren φ H x x) → Rens φ H l l
  | [], _ => .nil
  | x :: _, h => .cons (h x (.head _)) (Rens.self fun y hy => h y (.tail _ hy))
theorem Rens.ints {φ : List Nat} {H : AH} (l : List Int) : Rens φ H (l.map AV.int) (l.map AV.int) := Rens.ofAll fun x _ => .int x
theorem Rens.strs {φ : List Nat} {H : AH} (l : List Str) : Rens φ H (l.map AV.str) (l.map AV.str) := Rens.ofAll fun x _ => .str x

/-- the addresses of φ -/
noncomputable def pick (ρ : List Addr) (φ : List Nat) : List Addr := φ.filterMap fun j => ρ[j]?
theorem pick_get {ρ : List Addr} : ∀ {φ : List Nat}, (∀ j ∈ φ, j < ρ.length) → ∀ {i j : Nat}, φ[i]? = some j → (pick ρ φ)[i]? = ρ[j]?
  | [], _, _, _, e => by simp at e
  | k :: r, hl, i, j, e => by
    have hk : k < ρ.length := hl k (.head _)
    have e0 : ρ[k]? = some ρ[k] := by simp [hk]
    have ih := @pick_get ρ r (fun x hx => hl x (.tail _ hx))
    unfold pick at ih ⊢
    rw [List.filterMap_cons, e0]
    cases i with
    | zero => simp at e; subst e; simp [hk]
    | succ i => simp at e; simpa using ih e
theorem pick_length {ρ : List Addr} : ∀ {φ : List Nat}, (∀ j ∈ φ, j < ρ.length) → (pick ρ φ).length = φ.length
  | [], _ => rfl
  | k :: r, hl => by
    have hk : k < ρ.length := hl k (.head _)
    have e0 : ρ[k]? = some ρ[k] := by simp [hk]
    have ih := @pick_length ρ r (fun x hx => hl x (.tail _ hx))
    unfold pick at ih ⊢
    rw [List.filterMap_cons, e0]; simp [ih]
theorem pick_mem {ρ : List Addr} {φ : List Nat} {a : Addr} (h : a ∈ pick ρ φ) : ∃ j ∈ φ, ρ[j]? = some a := by
  unfold pick at h
  obtain ⟨j, hj, e⟩ := List.mem_filterMap.mp h
  exact ⟨j, hj, e⟩
theorem nodup_idx {ρ : List Addr} (hn : ρ.Nodup) {i j : Nat} {a : Addr} (hi : ρ[i]? = some a) (hj : ρ[j]? = some a) : i = j := by
  obtain ⟨hi1, hi2⟩ := List.getElem?_eq_some_iff.mp hi
  obtain ⟨hj1, hj2⟩ := List.getElem?_eq_some_iff.mp hj
  have hp := List.pairwise_iff_getElem.mp hn
  rcases Nat.lt_trichotomy i j with q | q | q
  · exact absurd (hi2.trans hj2.symm) (hp i j hi1 hj1 q)
  · exact q
  · exact absurd (hj2.trans hi2.symm) (hp j i hj1 hi1 q)
theorem pick_nodup {ρ : List Addr} (hn : ρ.Nodup) : ∀ {φ : List Nat}, φ.Nodup → (pick ρ φ).Nodup
  | [], _ => by simp [pick]
  | k :: r, h => by
    have ih := @pick_nodup ρ hn r (List.nodup_cons.mp h).2
    unfold pick at ih ⊢
    rw [List.filterMap_cons]
    cases e : ρ[k]? with
    | none => exact ih
    | some a =>
      refine List.nodup_cons.mpr ⟨fun hm => ?_, ih⟩
      obtain ⟨j, hj, e'⟩ := pick_mem (ρ := ρ) (φ := r) hm
      have := nodup_idx hn e e'
      subst this
      exact (List.nodup_cons.mp h).1 hj

section
variable {S : Sx} {ρ : List Addr} {H : AH} {h : Heap} {φ : List Nat} {S' : Sx}
theorem VRels.cons_inv {v : AV} {vs : List AV} {xs : List Value} (V : VRels S ρ h (v :: vs) xs) : ∃ y ys, xs = y :: ys ∧ VRel S ρ h v y ∧ VRels S ρ h vs ys := by cases V with | cons a r => exact ⟨_, _, rfl, a, r⟩
theorem off_pick {a : Addr} (ha : a ∉ ρ) : a ∉ pick ρ φ := fun hm => by
  obtain ⟨j, _, e⟩ := pick_mem hm
  exact ha (List.mem_of_getElem? e)
theorem VRel.ren (hp : S'.prog = S.prog) (hw : S'.w = S.w) (X : HSim S ρ H h) (hS : ∀ a, a ∉ S.ad → (a ∈ ρ → a ∈ S'.ad → False)) (hS2 : ∀ a, a ∉ ρ → a ∉ S.ad → a ∉ S'.ad) (hl : ∀ j ∈ φ, j < ρ.length) {v w : AV} {x : Value} (R : Ren φ H v w) (V : VRel S ρ h v x) : VRel S' (pick ρ φ) h w x :=
  Ren.rec (motive_1 := fun v w _ => ∀ x : Value, VRel S ρ h v x → VRel S' (pick ρ φ) h w x) (motive_2 := fun v w _ => ∀ x : List Value, VRels S ρ h v x → VRels S' (pick ρ φ) h w x)
    (fun _ V => by cases V; exact .none)
    (fun b _ V => by cases V; exact .bool b)
    (fun i _ V => by cases V; exact .int i _)
    (fun x _ V => by cases V; exact .str x _)
    (fun _ ih _ V => by cases V with | tup ha hs hi hv => exact .tup (off_pick ha) (hS2 _ ha hs) hi (ih _ hv))
    (fun _ ih _ V => by cases V with | fl ha hs hi hv => exact .fl (off_pick ha) (hS2 _ ha hs) hi (ih _ hv))
    (fun e _ V => by cases V with | ref hi => exact .ref (by rw [pick_get hl e]; exact hi))
    (fun i j k _ V => by cases V with | rng hr ha hs hi => exact .rng hr (off_pick ha) (hS2 _ ha hs) hi)
    (fun _ ih _ V => by cases V with | dict ha hs hm he hv => exact .dict (off_pick ha) (hS2 _ ha hs) (by rw [hp, hw]; exact hm) he (ih _ hv))
    (fun c _ V => by cases V with | exc ha hs hx => exact .exc (off_pick ha) (hS2 _ ha hs) hx)
    (fun hj e _ ih _ V => by
      cases V with
      | ref hi =>
        obtain ⟨items, p, vr⟩ := X.get e hi
        exact .fl (fun hm => by obtain ⟨k, hk, e'⟩ := pick_mem hm; exact hj (nodup_idx X.nodup hi e' ▸ hk)) (fun hm => hS _ (X.off _ (List.mem_of_getElem? hi)) (List.mem_of_getElem? hi) hm) p (ih _ vr))
    (fun _ V => by cases V; exact .nil)
    (fun _ _ i1 i2 _ V => by obtain ⟨y, ys, rfl, a, r⟩ := V.cons_inv; exact .cons (i1 _ a) (i2 _ r))
    R x V
theorem VRels.ren (hp : S'.prog = S.prog) (hw : S'.w = S.w) (X : HSim S ρ H h) (hS : ∀ a, a ∉ S.ad → (a ∈ ρ → a ∈ S'.ad → False)) (hS2 : ∀ a, a ∉ ρ → a ∉ S.ad → a ∉ S'.ad) (hl : ∀ j ∈ φ, j < ρ.length) {v w : List AV} {x : List Value} (R : Rens φ H v w) (V : VRels S ρ h v x) : VRels S' (pick ρ φ) h w x :=
  Rens.ind (M := fun v w => ∀ x, VRels S ρ h v x → VRels S' (pick ρ φ) h w x) (fun _ V => by cases V; exact .nil) (fun _ _ _ _ r _ ih x V => by obtain ⟨y, ys, rfl, a, b⟩ := V.cons_inv; exact .cons (VRel.ren hp hw X hS hS2 hl r a) (ih _ b)) R x V
end

/-- the heap told anew -/
structure RenH (φ : List Nat) (H H' : AH) : Prop where
  len : φ.length = H'.length
  nodup : φ.Nodup
  dom : ∀ j ∈ φ, j < H.length
  obj : ∀ (i j : Nat) (xs : List AV), φ[i]? = some j → H[j]? = some xs → ∃ ys, H'[i]? = some ys ∧ Rens φ H xs ys

theorem HSim.ren {S : Sx} {ρ : List Addr} {H H' : AH} {h : Heap} {φ : List Nat} (X : HSim S ρ H h) (R : RenH φ H H') : HSim S (pick ρ φ) H' h := by
  have hl : ∀ j ∈ φ, j < ρ.length := fun j hj => by rw [X.len]; exact R.dom j hj
  refine ⟨by rw [pick_length hl, R.len], pick_nodup X.nodup R.nodup, fun a ha => ?_, fun i ws e => ?_⟩
  · obtain ⟨j, _, e⟩ := pick_mem ha
    exact X.off a (List.mem_of_getElem? e)
  · have hi : i < φ.length := by rw [R.len]; exact (List.getElem?_eq_some_iff.mp e).1
    have e1 : φ[i]? = some φ[i] := by simp [hi]
    have hj : φ[i] < H.length := R.dom _ (List.getElem_mem hi)
    have e2 : H[φ[i]]? = some H[φ[i]] := by simp [hj]
    obtain ⟨ys, e3, r⟩ := R.obj i _ _ e1 e2
    rw [e] at e3; cases e3
    obtain ⟨a, items, ea, p, vr⟩ := X.obj _ _ e2
    exact ⟨a, items, by rw [pick_get hl e1]; exact ea, p, VRels.ren rfl rfl X (fun b hb hb1 hb2 => hb hb2) (fun b _ hb => hb) hl r vr⟩
theorem VRel.ren' {S : Sx} {ρ : List Addr} {H : AH} {h : Heap} {φ : List Nat} (X : HSim S ρ H h) (hd : ∀ j ∈ φ, j < H.length) {v w : AV} {x : Value} (r : Ren φ H v w) (V : VRel S ρ h v x) : VRel S (pick ρ φ) h w x :=
  VRel.ren rfl rfl X (fun b hb _ hb2 => hb hb2) (fun b _ hb => hb) (fun j hj => by rw [X.len]; exact hd j hj) r V
/-- frozen for a while -/
theorem VRels.frz {S : Sx} {ρ : List Addr} {H : AH} {h : Heap} (X : HSim S ρ H h) {v w : List AV} {x : List Value} (r : Rens [] H v w) (V : VRels S ρ h v x) : VRels S [] h w x := by
  have := VRels.ren (S := S) (S' := S) (φ := []) rfl rfl X (fun _ h1 _ h2 => h1 h2) (fun _ _ h1 => h1) (fun _ hj => nomatch hj) r V
  simpa [pick] using this
theorem VRel.frz {S : Sx} {ρ : List Addr} {H : AH} {h : Heap} (X : HSim S ρ H h) {v w : AV} {x : Value} (r : Ren [] H v w) (V : VRel S ρ h v x) : VRel S [] h w x := by
  have := VRel.ren (S := S) (S' := S) (φ := []) rfl rfl X (fun _ h1 _ h2 => h1 h2) (fun _ _ h1 => h1) (fun _ hj => nomatch hj) r V
  simpa [pick] using this

mutual
/-- no list that is frozen -/
inductive NoFl : AV → Prop
  | none : NoFl .none
  | bool (b : Bool) : NoFl (.bool b)
  | int (i : Int) : NoFl (.int i)
  | str (x : Str) : NoFl (.str x)
  | ref (n : Nat) : NoFl (.ref n)
  | rng (i j k : Int) : NoFl (.rng i j k)
  | tup {vs : List AV} : NoFls vs → NoFl (.tup vs)
inductive NoFls : List AV → Prop
  | nil : NoFls []
  | cons {v : AV} {vs : List AV} : NoFl v → NoFls vs → NoFls (v :: vs)
end
theorem NoFls.of {l : List AV} (h : ∀ v ∈ l, NoFl v) : NoFls l := by
  induction l with
  | nil => exact .nil
  | cons v r ih => exact .cons (h v (.head _)) (ih fun w hw => h w (.tail _ hw))
theorem NoFls.ints (l : List Int) : NoFls (l.map AV.int) := .of fun v hv => by obtain ⟨i, _, rfl⟩ := List.mem_map.mp hv; exact .int i
theorem NoFls.strs (l : List Str) : NoFls (l.map AV.str) := .of fun v hv => by obtain ⟨i, _, rfl⟩ := List.mem_map.mp hv; exact .str i

mutual
/-- the numbers of a heap behind another one -/
noncomputable def AV.shift (n : Nat) : AV → AV
  | .ref i => .ref (n + i)
  | .tup vs => .tup (AV.shifts n vs)
  | .fl vs => .fl (AV.shifts n vs)
  | .dict ks vs => .dict ks (AV.shifts n vs)
  | v => v
noncomputable def AV.shifts (n : Nat) : List AV → List AV
  | [] => []
  | v :: vs => AV.shift n v :: AV.shifts n vs
end
theorem sh_none (n : Nat) : AV.shift n .none = .none := rfl
theorem sh_bool (n : Nat) (b : Bool) : AV.shift n (.bool b) = .bool b := rfl
theorem sh_int (n : Nat) (b : Int) : AV.shift n (.int b) = .int b := rfl
theorem sh_str (n : Nat) (b : Str) : AV.shift n (.str b) = .str b := rfl
theorem sh_ref (n i : Nat) : AV.shift n (.ref i) = .ref (n + i) := rfl
theorem sh_tup (n : Nat) (vs : List AV) : AV.shift n (.tup vs) = .tup (AV.shifts n vs) := rfl
theorem sh_fl (n : Nat) (vs : List AV) : AV.shift n (.fl vs) = .fl (AV.shifts n vs) := rfl
theorem shs_nil (n : Nat) : AV.shifts n [] = [] := rfl
theorem shs_cons (n : Nat) (v : AV) (vs : List AV) : AV.shifts n (v :: vs) = AV.shift n v :: AV.shifts n vs := rfl
theorem AV.shifts_eq (n : Nat) (l : List AV) : AV.shifts n l = l.map (AV.shift n) := by
  induction l with
  | nil => rfl
  | cons v r ih => simp [shs_cons, ih]
@[simp] theorem AV.shift_int (n : Nat) (i : Int) : AV.shift n (.int i) = .int i := rfl
@[simp] theorem AV.shift_bool (n : Nat) (i : Bool) : AV.shift n (.bool i) = .bool i := rfl
@[simp] theorem AV.shift_str (n : Nat) (i : Str) : AV.shift n (.str i) = .str i := rfl
@[simp] theorem AV.shift_none (n : Nat) : AV.shift n .none = .none := rfl
@[simp] theorem AV.shift_ref (n i : Nat) : AV.shift n (.ref i) = .ref (n + i) := rfl
@[simp] theorem AV.shift_tup (n : Nat) (vs : List AV) : AV.shift n (.tup vs) = .tup (vs.map (AV.shift n)) := by rw [← AV.shifts_eq]; rfl
@[simp] theorem AV.shift_fl (n : Nat) (vs : List AV) : AV.shift n (.fl vs) = .fl (vs.map (AV.shift n)) := by rw [← AV.shifts_eq]; rfl
@[simp] theorem AV.shift_ints (n : Nat) (l : List Int) : (l.map AV.int).map (AV.shift n) = l.map AV.int := by simp
@[simp] theorem AV.shift_strs (n : Nat) (l : List Str) : (l.map AV.str).map (AV.shift n) = l.map AV.str := by simp

/-- what a call gave back, behind the caller's own lists -/
theorem VRel.behind {S : Sx} {ρ ρc : List Addr} {Sc : Sx} {h : Heap} (hp : Sc.prog = S.prog) (hw : Sc.w = S.w) (hA : ∀ a, a ∉ ρc → a ∉ Sc.ad → a ∉ ρ ∧ a ∉ S.ad) (hT : ∀ a items, a ∈ ρ → ¬ PT h a items) (hR : ∀ a items, a ∈ ρ → h.get? a = some items → items.cls = .type "list") {v : AV} {x : Value} (V : VRel Sc ρc h v x) : VRel S (ρ ++ ρc) h (AV.shift ρ.length v) x :=
  VRel.rec (motive_1 := fun v x _ => VRel S (ρ ++ ρc) h (AV.shift ρ.length v) x) (motive_2 := fun v x _ => VRels S (ρ ++ ρc) h (AV.shifts ρ.length v) x)
    (.none)
    (fun b => .bool b)
    (fun i t => .int i t)
    (fun x t => .str x t)
    (fun ha hs hi hv ih => .tup (fun hm => (List.mem_append.mp hm).elim (fun q => hT _ _ q hi) ha) (hA _ ha hs).2 hi ih)
    (fun ha hs hi hv ih => .fl (fun hm => (List.mem_append.mp hm).elim (hA _ ha hs).1 ha) (hA _ ha hs).2 hi ih)
    (fun hi => .ref (by rw [List.getElem?_append_right (Nat.le_add_right _ _), Nat.add_sub_cancel_left]; exact hi))
    (fun hr ha hs hi => .rng hr (fun hm => (List.mem_append.mp hm).elim (fun q => by have := hR _ _ q hi; simp at this) ha) (hA _ ha hs).2 hi)
    (fun ha hs hm he hv ih => .dict (fun hm => (List.mem_append.mp hm).elim (hA _ ha hs).1 ha) (hA _ ha hs).2 (by rw [← hp, ← hw]; exact hm) he ih)
    (fun ha hs hx => .exc (fun hm => (List.mem_append.mp hm).elim (hA _ ha hs).1 ha) (hA _ ha hs).2 hx)
    .nil (fun _ _ i1 i2 => .cons i1 i2) V
theorem VRels.behind {S : Sx} {ρ ρc : List Addr} {Sc : Sx} {h : Heap} (hp : Sc.prog = S.prog) (hw : Sc.w = S.w) (hA : ∀ a, a ∉ ρc → a ∉ Sc.ad → a ∉ ρ ∧ a ∉ S.ad) (hT : ∀ a items, a ∈ ρ → ¬ PT h a items) (hR : ∀ a items, a ∈ ρ → h.get? a = some items → items.cls = .type "list") {v : List AV} {x : List Value} (V : VRels Sc ρc h v x) : VRels S (ρ ++ ρc) h (AV.shifts ρ.length v) x :=
  VRels.ind (M := fun v x => VRels S (ρ ++ ρc) h (AV.shifts ρ.length v) x) .nil (fun _ _ _ _ v _ i2 => .cons (VRel.behind hp hw hA hT hR v) i2) V
theorem NoFl.tup_inv {vs : List AV} (h : NoFl (.tup vs)) : NoFls vs := by cases h; assumption
theorem NoFl.fl_inv {vs : List AV} (h : NoFl (.fl vs)) : False := by cases h
theorem NoFl.dict_inv {ks : List Str} {vs : List AV} (h : NoFl (.dict ks vs)) : False := by cases h
theorem NoFls.cons_inv {v : AV} {vs : List AV} (h : NoFls (v :: vs)) : NoFl v ∧ NoFls vs := by cases h; constructor <;> assumption
theorem VRel.behindN {S : Sx} {ρ ρc : List Addr} {h : Heap} (hT : ∀ a items, a ∈ ρ → ¬ PT h a items) (hR : ∀ a items, a ∈ ρ → h.get? a = some items → items.cls = .type "list") {v : AV} {x : Value} (V : VRel S ρc h v x) : NoFl v → VRel S (ρ ++ ρc) h (AV.shift ρ.length v) x :=
  VRel.rec (motive_1 := fun v x _ => NoFl v → VRel S (ρ ++ ρc) h (AV.shift ρ.length v) x) (motive_2 := fun v x _ => NoFls v → VRels S (ρ ++ ρc) h (AV.shifts ρ.length v) x)
    (fun _ => .none)
    (fun b _ => .bool b)
    (fun i t _ => .int i t)
    (fun x t _ => .str x t)
    (fun ha hs hi hv ih n => .tup (fun hm => (List.mem_append.mp hm).elim (fun q => hT _ _ q hi) ha) hs hi (ih n.tup_inv))
    (fun _ _ _ _ ih n => n.fl_inv.elim)
    (fun hi _ => .ref (by rw [List.getElem?_append_right (Nat.le_add_right _ _), Nat.add_sub_cancel_left]; exact hi))
    (fun hr ha hs hi _ => .rng hr (fun hm => (List.mem_append.mp hm).elim (fun q => by have := hR _ _ q hi; simp at this) ha) hs hi)
    (fun _ _ _ _ _ ih n => n.dict_inv.elim)
    (fun _ _ _ n => by cases n)
    (fun _ => .nil) (fun v r i1 i2 n => .cons (i1 n.cons_inv.1) (i2 n.cons_inv.2)) V
theorem VRels.behindN {S : Sx} {ρ ρc : List Addr} {h : Heap} (hT : ∀ a items, a ∈ ρ → ¬ PT h a items) (hR : ∀ a items, a ∈ ρ → h.get? a = some items → items.cls = .type "list") {v : List AV} {x : List Value} (V : VRels S ρc h v x) : NoFls v → VRels S (ρ ++ ρc) h (AV.shifts ρ.length v) x :=
  VRels.ind (M := fun v x => NoFls v → VRels S (ρ ++ ρc) h (AV.shifts ρ.length v) x) (fun _ => .nil) (fun _ _ _ _ v _ i2 n => .cons (VRel.behindN hT hR v n.cons_inv.1) (i2 n.cons_inv.2)) V
theorem HSim.noTuple {S : Sx} {ρ : List Addr} {H : AH} {h : Heap} (X : HSim S ρ H h) : ∀ a items, a ∈ ρ → ¬ PT h a items := fun a items hm ht => by
  obtain ⟨i, hi, rfl⟩ := List.mem_iff_getElem.mp hm
  have hi' : i < H.length := by rw [← X.len]; exact hi
  obtain ⟨a', its, e1, ⟨n, p⟩, _⟩ := X.obj i H[i] (by simp [hi'])
  rw [List.getElem?_eq_getElem hi] at e1
  cases e1
  obtain ⟨m, ho⟩ := ht
  rw [p] at ho
  simp at ho
theorem HSim.listCls {S : Sx} {ρ : List Addr} {H : AH} {h : Heap} (X : HSim S ρ H h) : ∀ a o, a ∈ ρ → h.get? a = some o → o.cls = .type "list" := fun a o hm ht => by
  obtain ⟨i, hi, rfl⟩ := List.mem_iff_getElem.mp hm
  have hi' : i < H.length := by rw [← X.len]; exact hi
  obtain ⟨a', its, e1, ⟨n, p⟩, _⟩ := X.obj i H[i] (by simp [hi'])
  rw [List.getElem?_eq_getElem hi] at e1
  cases e1
  rw [p] at ht; cases ht; rfl
/-- two heaps, one behind the other -/
theorem HSim.behind {S : Sx} {ρ : List Addr} {Sc : Sx} {ρc : List Addr} {H Hc : AH} {h h' : Heap} (X : HSim S ρ H h) (hk : Kp h h') (hf : Fresh h ρc) (hdom : ∀ a ∈ S.ad, ∃ o, h.get? a = some o) (hp : Sc.prog = S.prog) (hw : Sc.w = S.w) (Y : HSim Sc ρc Hc h')
    (hV : (∀ a, a ∉ ρc → a ∉ Sc.ad → a ∉ ρ ∧ a ∉ S.ad) ∨ (Sc = S ∧ ∀ xs ∈ Hc, NoFls xs)) : HSim S (ρ ++ ρc) (H ++ Hc.map (AV.shifts H.length)) h' := by
  refine ⟨by simp [X.len, Y.len], ?_, fun a ha => ?_, fun i ws e => ?_⟩
  · rw [List.nodup_append]
    refine ⟨X.nodup, Y.nodup, fun a ha b hb e => ?_⟩
    obtain ⟨o, ho⟩ := X.mem ha
    rw [e, hf b hb] at ho; cases ho
  · rcases List.mem_append.mp ha with q | q
    · exact X.off a q
    · intro hS
      obtain ⟨o, ho⟩ := hdom a hS
      rw [hf a q] at ho; cases ho
  · by_cases hi : i < H.length
    · rw [List.getElem?_append_left hi] at e
      obtain ⟨b, its, e1, p1, v1⟩ := X.obj i ws e
      exact ⟨b, its, by rw [List.getElem?_append_left (by rw [X.len]; exact hi)]; exact e1, PlainList.at' p1 fun o q => hk _ o q, v1.kp hk hf⟩
    · rw [List.getElem?_append_right (Nat.le_of_not_lt hi), List.getElem?_map] at e
      cases e0 : Hc[i - H.length]? with
      | none => rw [e0] at e; cases e
      | some xs =>
        rw [e0] at e; cases e
        obtain ⟨b, its, e1, p1, v1⟩ := Y.obj _ xs e0
        refine ⟨b, its, ?_, p1, ?_⟩
        · rw [List.getElem?_append_right (by rw [X.len]; exact Nat.le_of_not_lt hi), X.len]; exact e1
        · rw [← X.len]
          rcases hV with hV | hV
          · exact VRels.behind hp hw hV (X.kp hk).noTuple (X.kp hk).listCls v1
          · obtain ⟨rfl, hV⟩ := hV
            exact VRels.behindN (X.kp hk).noTuple (X.kp hk).listCls v1 (hV xs (List.mem_of_getElem? e0))

open PySem PyProof.Rows

/-- what an expression leaves -/
noncomputable def EP (S : Sx) (ρ : List Addr) (H : AH) (s : Shared) (Q : AV → AH → Prop) (x : Value) (s' : Shared) : Prop :=
  ∃ h' tk e v G, s' = { s with heap := h', toks := tk } ∧ Kp s.heap h' ∧ Fresh s.heap e ∧ HSim S (ρ ++ e) (H ++ G) h' ∧ VRel S (ρ ++ e) h' v x ∧ Q v (H ++ G)
theorem EP.then {M : Model} {A : Around} {S : Sx} {ρ : List Addr} {H : AH} {s : Shared} {Q : AV → AH → Prop} {m : Sem Value} {Q' : Value → Shared → Prop} {E : Value → Shared → Prop} (h : wpAny M A m (EP S ρ H s Q) E s)
    (k : ∀ y h' tk e v G, Kp s.heap h' → Fresh s.heap e → HSim S (ρ ++ e) (H ++ G) h' → VRel S (ρ ++ e) h' v y → Q v (H ++ G) → Q' y { s with heap := h', toks := tk }) : wpAny M A m Q' E s :=
  wpAny_mono h (fun _ _ hy => by
    obtain ⟨_, _, _, _, _, rfl, a, b, c, d, q⟩ := hy
    exact k _ _ _ _ _ _ a b c d q) fun _ _ y => y
/-- the protected addresses are there -/
noncomputable def SD (S : Sx) (h : Heap) : Prop := ∀ a ∈ S.ad, ∃ o, h.get? a = some o
theorem SD.kp {S : Sx} {h h' : Heap} (x : SD S h) (k : Kp h h') : SD S h' := fun a ha => let ⟨o, ho⟩ := x a ha; ⟨o, k _ _ ho⟩

section
variable {S : Sx} {ρ : List Addr} {H : AH} {s : Shared} {Q : AV → AH → Prop} {x : Value} {v : AV}
theorem EP.val (X : HSim S ρ H s.heap) (V : VRel S ρ s.heap v x) (q : Q v H) (tk : Nat) : EP S ρ H s Q x { s with toks := tk } :=
  ⟨s.heap, tk, [], v, [], rfl, Kp.refl _, Fresh.nil _, by simpa using X, by simpa using V, by simpa using q⟩
theorem EP.val0 (X : HSim S ρ H s.heap) (V : VRel S ρ s.heap v x) (q : Q v H) : EP S ρ H s Q x s := EP.val X V q s.toks
theorem EP.grow {h' : Heap} {tk : Nat} (X : HSim S ρ H s.heap) (hk : Kp s.heap h') (V : VRel S ρ h' v x) (q : Q v H) : EP S ρ H s Q x { s with heap := h', toks := tk } :=
  ⟨h', tk, [], v, [], rfl, hk, Fresh.nil _, by simpa using X.kp hk, by simpa using V, by simpa using q⟩
theorem EP.newL {h' : Heap} {tk : Nat} {a : Addr} {items : Array Value} {vs : List AV} (X : HSim S ρ H s.heap) (D : SD S s.heap) (hk : Kp s.heap h') (hn : s.heap.get? a = none) (p : h'.PlainList a items) (V : VRels S ρ s.heap vs items.toList)
    (q : Q (.ref H.length) (H ++ [vs])) : EP S ρ H s Q (.ref a) { s with heap := h', toks := tk } := by
  have fr : Fresh s.heap [a] := fun b hb => by simp at hb; subst hb; exact hn
  refine ⟨h', tk, [a], .ref H.length, [vs], rfl, hk, fr, X.push hk hn (fun hm => ?_) p V, .ref ?_, q⟩
  · obtain ⟨o, ho⟩ := D a hm; rw [hn] at ho; cases ho
  · rw [← X.len]; simp
theorem EP.newT {h' : Heap} {tk : Nat} {a : Addr} {items : Array Value} {vs : List AV} (X : HSim S ρ H s.heap) (D : SD S s.heap) (hk : Kp s.heap h') (hn : s.heap.get? a = none) (p : PT h' a items) (V : VRels S ρ s.heap vs items.toList)
    (q : Q (.tup vs) H) : EP S ρ H s Q (.ref a) { s with heap := h', toks := tk } :=
  EP.grow X hk (.tup (fun hm => by obtain ⟨o, ho⟩ := X.mem hm; rw [hn] at ho; cases ho) (fun hm => by obtain ⟨o, ho⟩ := D a hm; rw [hn] at ho; cases ho) p (V.kp0 hk)) q
/-- behind a first step -/
theorem EP.after {h₁ : Heap} {tk₁ : Nat} {e : List Addr} {G : AH} {s₂ : Shared} (hk : Kp s.heap h₁) (hf : Fresh s.heap e)
    (h : EP S (ρ ++ e) (H ++ G) { s with heap := h₁, toks := tk₁ } Q x s₂) : EP S ρ H s Q x s₂ := by
  obtain ⟨h', tk, e', v, G', rfl, k', f', X', V', q'⟩ := h
  refine ⟨h', tk, e ++ e', v, G ++ G', rfl, hk.trans k', ?_, by simpa [List.append_assoc] using X', by simpa [List.append_assoc] using V', by simpa [List.append_assoc] using q'⟩
  intro a ha
  rcases List.mem_append.mp ha with q | q
  · exact hf a q
  · cases q0 : s.heap.get? a with
    | none => rfl
    | some o => have := f' a q; rw [hk a o q0] at this; cases this
theorem push_kp (h : Heap) (o : Obj) : Kp h (h.push o) := fun _ _ e => Heap.get?_push_of_some o e
theorem size_none (h : Heap) : h.get? h.objs.size = none := by
  cases q : h.get? h.objs.size with
  | none => rfl
  | some o => exact absurd (Heap.lt_size q) (Nat.lt_irrefl _)
theorem EP.pushL {items : Array Value} {vs : List AV} (X : HSim S ρ H s.heap) (D : SD S s.heap) (V : VRels S ρ s.heap vs items.toList) (q : Q (.ref H.length) (H ++ [vs])) (tk : Nat) :
    EP S ρ H s Q (.ref s.heap.objs.size) { s with heap := s.heap.push { cls := .type "list", data := .seq items }, toks := tk } :=
  EP.newL X D (push_kp _ _) (size_none _) ⟨0, Heap.get?_push_size _ rfl⟩ V q
theorem EP.pushT {items : Array Value} {vs : List AV} (X : HSim S ρ H s.heap) (D : SD S s.heap) (V : VRels S ρ s.heap vs items.toList) (q : Q (.tup vs) H) (tk : Nat) :
    EP S ρ H s Q (.ref s.heap.objs.size) { s with heap := s.heap.push { cls := .type "tuple", data := .seq items }, toks := tk } :=
  EP.newT X D (push_kp _ _) (size_none _) ⟨0, Heap.get?_push_size _ rfl⟩ V q
end

/-- a list's items -/
noncomputable def AV.items? (H : AH) : AV → Option (List AV)
  | .fl vs => some vs
  | .ref n => H[n]?
  | _ => Option.none
theorem items_real {S : Sx} {ρ : List Addr} {H : AH} {h : Heap} {v : AV} {x : Value} {vs : List AV} (X : HSim S ρ H h) (V : VRel S ρ h v x) (e : v.items? H = some vs) : ∃ a items, x = .ref a ∧ h.PlainList a items ∧ VRels S ρ h vs items.toList := by
  cases V with
  | fl ha hs hi hv => simp [AV.items?] at e; subst e; exact ⟨_, _, rfl, hi, hv⟩
  | ref hi => simp [AV.items?] at e; obtain ⟨items, p, w⟩ := X.get e hi; exact ⟨_, _, rfl, p, w⟩
  | _ => simp [AV.items?] at e

noncomputable def smallN : Nat := 100000

/-- a binary operator -/
theorem VRels.of0 {S : Sx} {ρ : List Addr} {h : Heap} {xs : List Value} (V : VRels S ρ h [] xs) : xs = [] := by cases V; rfl
theorem VRels.of1 {S : Sx} {ρ : List Addr} {h : Heap} {v : AV} {xs : List Value} (V : VRels S ρ h [v] xs) : ∃ y, xs = [y] ∧ VRel S ρ h v y := by
  cases V with | cons a r => cases r; exact ⟨_, rfl, a⟩
theorem VRels.of2 {S : Sx} {ρ : List Addr} {h : Heap} {u v : AV} {xs : List Value} (V : VRels S ρ h [u, v] xs) : ∃ y z, xs = [y, z] ∧ VRel S ρ h u y ∧ VRel S ρ h v z := by
  cases V with | cons a r => obtain ⟨z, rfl, b⟩ := r.of1; exact ⟨_, z, rfl, a, b⟩
theorem VRels.of3 {S : Sx} {ρ : List Addr} {h : Heap} {u v w : AV} {xs : List Value} (V : VRels S ρ h [u, v, w] xs) : ∃ y z q, xs = [y, z, q] ∧ VRel S ρ h u y ∧ VRel S ρ h v z ∧ VRel S ρ h w q := by
  cases V with | cons a r => obtain ⟨z, q, rfl, b⟩ := r.of2; exact ⟨_, z, q, rfl, a, b⟩
theorem VRel.ofInt {S : Sx} {ρ : List Addr} {h : Heap} {i : Int} {x : Value} (V : VRel S ρ h (.int i) x) : ∃ t, x = .int i t := by cases V; exact ⟨_, rfl⟩
theorem VRel.ofStr {S : Sx} {ρ : List Addr} {h : Heap} {i : Str} {x : Value} (V : VRel S ρ h (.str i) x) : ∃ t, x = .str i t := by cases V; exact ⟨_, rfl⟩
theorem VRel.ofBool {S : Sx} {ρ : List Addr} {h : Heap} {i : Bool} {x : Value} (V : VRel S ρ h (.bool i) x) : x = .bool i := by cases V; rfl
/-- two ints -/
noncomputable def onInts (a b : AV) (k : Int → Int → Prop) : Prop := match a with
  | .int i => (match b with
    | .int j => k i j
    | _ => False)
  | _ => False
theorem onInts_of {a b : AV} {k : Int → Int → Prop} (h : onInts a b k) : ∃ i j, a = .int i ∧ b = .int j ∧ k i j := by
  cases a <;> first | (exact False.elim h) | skip
  cases b <;> first | (exact False.elim h) | skip
  exact ⟨_, _, rfl, rfl, h⟩
noncomputable def catOf (a b : AV) (H : AH) (Q : AV → AH → Prop) : Prop := opt (a.items? H) fun xs => opt (b.items? H) fun ys => xs.length + ys.length ≤ smallN ∧ Q (.ref H.length) (H ++ [xs ++ ys])
noncomputable def addOf (a b : AV) (H : AH) (Q : AV → AH → Prop) : Prop := match a with
  | .int i => (match b with
    | .int j => Q (.int (i + j)) H
    | _ => False)
  | .str x => (match b with
    | .str y => x.length + y.length ≤ smallN ∧ Q (.str (x ++ y)) H
    | _ => False)
  | a => catOf a b H Q
theorem addOf_of {a b : AV} {H : AH} {Q : AV → AH → Prop} (h : addOf a b H Q) : (∃ i j, a = .int i ∧ b = .int j ∧ Q (.int (i + j)) H) ∨ (∃ x y, a = .str x ∧ b = .str y ∧ x.length + y.length ≤ smallN ∧ Q (.str (x ++ y)) H) ∨ ∃ xs ys, a.items? H = some xs ∧ b.items? H = some ys ∧ xs.length + ys.length ≤ smallN ∧ Q (.ref H.length) (H ++ [xs ++ ys]) := by
  have cat : catOf a b H Q → ∃ xs ys, a.items? H = some xs ∧ b.items? H = some ys ∧ xs.length + ys.length ≤ smallN ∧ Q (.ref H.length) (H ++ [xs ++ ys]) := fun h => let ⟨xs, e, h⟩ := opt_of h; let ⟨ys, e', h⟩ := opt_of h; ⟨xs, ys, e, e', h⟩
  cases a with
  | int i => cases b <;> first | (exact False.elim h) | exact .inl ⟨_, _, rfl, rfl, h⟩
  | str x => cases b <;> first | (exact False.elim h) | exact .inr (.inl ⟨_, _, rfl, rfl, h⟩)
  | _ => exact .inr (.inr (cat h))
noncomputable def mulOf (a b : AV) (H : AH) (Q : AV → AH → Prop) : Prop := match b with
  | .int j => (match a with
    | .int i => (j.natAbs < 2 ^ 60 ∨ i.natAbs < 2 ^ 60) ∧ Q (.int (i * j)) H
    | a => opt (a.items? H) fun xs => (0 ≤ j ∧ xs.length * j.toNat ≤ smallN ∧ j ≤ smallN) ∧ Q (.ref H.length) (H ++ [(List.replicate j.toNat xs).flatten]))
  | _ => False
theorem mulOf_of {a b : AV} {H : AH} {Q : AV → AH → Prop} (h : mulOf a b H Q) : ∃ j, b = .int j ∧ ((∃ i, a = .int i ∧ (j.natAbs < 2 ^ 60 ∨ i.natAbs < 2 ^ 60) ∧ Q (.int (i * j)) H) ∨ ∃ xs, a.items? H = some xs ∧ (0 ≤ j ∧ xs.length * j.toNat ≤ smallN ∧ j ≤ smallN) ∧ Q (.ref H.length) (H ++ [(List.replicate j.toNat xs).flatten])) := by
  cases b <;> first | (exact False.elim h) | skip
  refine ⟨_, rfl, ?_⟩
  cases a with
  | int i => exact .inl ⟨i, rfl, h⟩
  | _ => exact .inr (opt_of h)
noncomputable def opBin (op : Operator) (a b : AV) (H : AH) (Q : AV → AH → Prop) : Prop :=
  match op with
  | .Add => addOf a b H Q
  | .Sub => onInts a b fun i j => Q (.int (i - j)) H
  | .Mult => mulOf a b H Q
  | .FloorDiv => onInts a b fun i j => (0 < j ∧ j < 1000000000) ∧ Q (.int (i / j)) H
  | .Mod => onInts a b fun i j => 0 < j ∧ Q (.int (i % j)) H
  | .Pow => False
  | _ => False

theorem fdiv_pos {i j : Int} (h : 0 < j) : i.fdiv j = i / j := Int.fdiv_eq_ediv_of_nonneg i (Int.le_of_lt h)
theorem fmod_pos {i j : Int} (h : 0 < j) : i.fmod j = i % j := Int.fmod_eq_emod_of_nonneg i (Int.le_of_lt h)
theorem foldl_flat (l : List (Array Value)) (acc : Array Value) : (List.foldl (fun x1 x2 => x1 ++ x2) acc l).toList = acc.toList ++ (l.map Array.toList).flatten := by
  induction l generalizing acc with
  | nil => simp
  | cons x r ih => simp [ih]
theorem VRels.rep {S : Sx} {ρ : List Addr} {h : Heap} {vs : List AV} {xs : List Value} (V : VRels S ρ h vs xs) : ∀ n, VRels S ρ h (List.replicate n vs).flatten (List.replicate n xs).flatten
  | 0 => by simpa using VRels.nil
  | n + 1 => by simpa [List.replicate_succ] using V.app (V.rep n)

section
variable {prog : Program} {w : World} {A : Around} {E : Value → Shared → Prop} {s : Shared} {S : Sx} {ρ : List Addr} {H : AH} {Q : AV → AH → Prop} {x y : Value} {a b : AV}
theorem add_lists (X : HSim S ρ H s.heap) (D : SD S s.heap) (Va : VRel S ρ s.heap a x) (Vb : VRel S ρ s.heap b y)
    (h : ∃ xs ys, a.items? H = some xs ∧ b.items? H = some ys ∧ xs.length + ys.length ≤ smallN ∧ Q (.ref H.length) (H ++ [xs ++ ys])) : wpAny (model prog w) A (binaryOp .Add x y) (EP S ρ H s Q) E s := by
  obtain ⟨xs, ys, ea, eb, hl, q⟩ := h
  obtain ⟨ax, ix, rfl, ⟨nx, px⟩, vx⟩ := items_real X Va ea
  obtain ⟨ay, iy, rfl, ⟨ny, py⟩, vy⟩ := items_real X Vb eb
  have e1 := vx.length
  have e2 := vy.length
  refine P.add_list (hsz := ?_) px py (EP.pushL X D (vs := xs ++ ys) (by simpa using vx.app vy) q s.toks)
  have : sizeLine = 2 ^ 24 := rfl
  simp only [Array.length_toList] at e1 e2
  unfold smallN at hl
  omega
theorem mul_list' (X : HSim S ρ H s.heap) (D : SD S s.heap) (Va : VRel S ρ s.heap a x) {j : Int} {u : Tok}
    (h : ∃ xs, a.items? H = some xs ∧ (0 ≤ j ∧ xs.length * j.toNat ≤ smallN ∧ j ≤ smallN) ∧ Q (.ref H.length) (H ++ [(List.replicate j.toNat xs).flatten])) : wpAny (model prog w) A (binaryOp .Mult x (.int j u)) (EP S ρ H s Q) E s := by
  obtain ⟨xs, ea, ⟨h0, hl, hj⟩, q⟩ := h
  obtain ⟨ax, ix, rfl, ⟨nx, px⟩, vx⟩ := items_real X Va ea
  have e1 := vx.length
  simp only [Array.length_toList] at e1
  rw [e1] at hl
  have hsz : ix.size * j.toNat ≤ 2 ^ 24 := by unfold smallN at hl; omega
  have hj' : j < 2 ^ 63 := by unfold smallN at hj; omega
  have hT : s.TypeIs (.ref ax) "list" := ⟨_, px, rfl⟩
  refine wpAny_binaryOp_repeat_ref (T := "list") (U := "int") (by decide) hT (fun s' => typeIs_int s' j u) noFill_list_mul F.fills_int_mul F.slot_int_rmul repeat_list F.slot_int_index.lookup
    (call_meets F.slot_int_rmul (typeIs_int s j u) F.entry_int_rmul (F.args_int_rmul_2 _ _) (int___rmul___int_list j u ax ix nx)
      ⟨px, rfl, hT, call_meets F.slot_list_mul hT F.entry_list_mul (F.args_list_mul_2 _ _)
        (AutoListH.list___mul___list_int_3 ax ix nx j u (by simp [Builtin.List.listFitsIndex]; omega) (by omega) (by simp [Builtin.List.listTooLong, sizeLine]; omega))
        ⟨px, EP.pushL X D (vs := (List.replicate j.toNat xs).flatten) ?_ q s.toks⟩⟩)
  rw [foldl_flat]
  by_cases hem : ix.isEmpty = true
  · have e0 : xs = [] := by
      have : ix.size = 0 := by simpa [Array.isEmpty] using hem
      exact List.length_eq_zero_iff.mp (by omega)
    subst e0
    simp [hem]; exact .nil
  · simp only [hem, Bool.false_eq_true, if_false]
    simpa using vx.rep j.toNat
theorem opBin_ok (op : Operator) (X : HSim S ρ H s.heap) (D : SD S s.heap) (Va : VRel S ρ s.heap a x) (Vb : VRel S ρ s.heap b y) (h : opBin op a b H Q) : wpAny (model prog w) A (binaryOp op x y) (EP S ρ H s Q) E s := by
  cases op with
  | Add =>
    rcases addOf_of h with ⟨i, j, rfl, rfl, q⟩ | ⟨i, j, rfl, rfl, q0, q⟩ | q
    · obtain ⟨t1, rfl⟩ := Va.ofInt
      obtain ⟨t2, rfl⟩ := Vb.ofInt
      exact P.add_int (EP.val X (.int _ _) q _)
    · obtain ⟨t1, rfl⟩ := Va.ofStr
      obtain ⟨t2, rfl⟩ := Vb.ofStr
      refine PyProof.Rows.add_str (fun t' tk => EP.val X (.str _ _) q _) ?_
      have : sizeLine = 2 ^ 24 := rfl
      unfold smallN at *
      omega
    · exact add_lists X D Va Vb q
  | Sub =>
    obtain ⟨i, j, rfl, rfl, q⟩ := onInts_of h
    obtain ⟨t1, rfl⟩ := Va.ofInt
    obtain ⟨t2, rfl⟩ := Vb.ofInt
    exact P.sub_int (EP.val X (.int _ _) q _)
  | Mult =>
    obtain ⟨j, rfl, ⟨i, rfl, q0, q⟩ | q⟩ := mulOf_of h
    · obtain ⟨t1, rfl⟩ := Va.ofInt
      obtain ⟨t2, rfl⟩ := Vb.ofInt
      refine P.mul_int (EP.val X (.int _ _) q _) ?_
      rcases q0 with q | q
      · exact .of_right (Nat.le_trans (intBits_le q) (by decide))
      · exact .of_left (Nat.le_trans (intBits_le q) (by decide))
    · obtain ⟨t2, rfl⟩ := Vb.ofInt
      exact mul_list' X D Va q
  | FloorDiv =>
    obtain ⟨i, j, rfl, rfl, hj, q⟩ := onInts_of h
    obtain ⟨t1, rfl⟩ := Va.ofInt
    obtain ⟨t2, rfl⟩ := Vb.ofInt
    refine floordiv_int (by omega) ?_ (Or.inl (PyProof.noPylong_small (by omega)))
    rw [fdiv_pos hj.1]; exact EP.val X (.int _ _) q _
  | Mod =>
    obtain ⟨i, j, rfl, rfl, hj, q⟩ := onInts_of h
    obtain ⟨t1, rfl⟩ := Va.ofInt
    obtain ⟨t2, rfl⟩ := Vb.ofInt
    refine mod_int' (by omega) ?_
    rw [fmod_pos hj]; exact EP.val X (.int _ _) q _
  | Pow => exact False.elim h
  | _ => exact False.elim h
end

open PySem PyProof.Rows PySem.SeqAt

mutual
/-- a value read as data -/
inductive Rd (H : AH) : Nat → AV → PyData → Prop
  | none {k : Nat} : Rd H k .none .none
  | bool {k : Nat} (b : Bool) : Rd H k (.bool b) (.bool b)
  | int {k : Nat} (i : Int) : Rd H k (.int i) (.int i)
  | str {k : Nat} (x : Str) : PyData.strOk x = true → Rd H k (.str x) (.str x)
  | tup {k : Nat} {vs : List AV} {ds : List PyData} : Rds H k vs ds → Rd H (k + 1) (.tup vs) (.tuple ds)
  | fl {k : Nat} {vs : List AV} {ds : List PyData} : Rds H k vs ds → Rd H (k + 1) (.fl vs) (.list ds)
  | ref {k n : Nat} {vs : List AV} {ds : List PyData} : H[n]? = some vs → Rds H k vs ds → Rd H (k + 1) (.ref n) (.list ds)
inductive Rds (H : AH) : Nat → List AV → List PyData → Prop
  | nil {k : Nat} : Rds H k [] []
  | cons {k : Nat} {v : AV} {d : PyData} {vs : List AV} {ds : List PyData} : Rd H k v d → Rds H k vs ds → Rds H k (v :: vs) (d :: ds)
end
theorem Rds.ofAll {H : AH} {k : Nat} {α : Type} {f : α → AV} {g : α → PyData} : ∀ {l : List α}, (∀ x ∈ l, Rd H k (f x) (g x)) → Rds H k (l.map f) (l.map g)
  | [], _ => .nil
  | x :: r, h => .cons (h x (.head _)) (Rds.ofAll fun y hy => h y (.tail _ hy))
theorem Rds.ints {H : AH} {k : Nat} (l : List Int) : Rds H k (l.map AV.int) (l.map PyData.int) := Rds.ofAll fun x _ => .int x
theorem Rds.ind {H : AH} {M : Nat → List AV → List PyData → Prop} (hn : ∀ k, M k [] []) (hc : ∀ k v d vs ds, Rd H k v d → Rds H k vs ds → M k vs ds → M k (v :: vs) (d :: ds)) {k : Nat} {vs : List AV} {ds : List PyData} (r : Rds H k vs ds) : M k vs ds :=
  Rds.rec (motive_1 := fun _ _ _ _ => True) (motive_2 := fun k vs ds _ => M k vs ds) trivial (fun _ => trivial) (fun _ => trivial) (fun _ _ => trivial) (fun _ _ => trivial) (fun _ _ => trivial) (fun _ _ _ => trivial) (hn _) (fun r rs _ ih => hc _ _ _ _ _ r rs ih) r
theorem Rds.app {H : AH} {k : Nat} {a b : List AV} {c d : List PyData} (x : Rds H k a c) (y : Rds H k b d) : Rds H k (a ++ b) (c ++ d) :=
  Rds.ind (M := fun k' a c => k' = k → Rds H k' (a ++ b) (c ++ d)) (fun k' e => e ▸ y) (fun k' _ _ _ _ r _ ih e => .cons r (ih e)) x rfl
theorem Rds.length {H : AH} {k : Nat} {a : List AV} {c : List PyData} (x : Rds H k a c) : a.length = c.length := Rds.ind (M := fun _ a c => a.length = c.length) (fun _ => rfl) (fun _ _ _ _ _ _ _ ih => congrArg (· + 1) ih) x
theorem okAll_cons {k : Nat} {d : PyData} {ds : List PyData} (h1 : d.canLay0 = true ∧ d.depth ≤ k) (h2 : PyData.canLayAll0 ds = true ∧ PyData.depthAll ds ≤ k) : PyData.canLayAll0 (d :: ds) = true ∧ PyData.depthAll (d :: ds) ≤ k := by
  simp [PyData.canLayAll0, PyData.depthAll, h1.1, h2.1]
  omega
theorem Rd.ok {H : AH} {k : Nat} {v : AV} {d : PyData} (r : Rd H k v d) : d.canLay0 = true ∧ d.depth ≤ k :=
  Rd.rec (motive_1 := fun k _ d _ => d.canLay0 = true ∧ d.depth ≤ k) (motive_2 := fun k _ d _ => PyData.canLayAll0 d = true ∧ PyData.depthAll d ≤ k)
    (by simp [PyData.canLay0, PyData.depth]) (fun _ => by simp [PyData.canLay0, PyData.depth]) (fun _ => by simp [PyData.canLay0, PyData.depth]) (fun _ h => by simp [PyData.canLay0, PyData.depth, h])
    (fun _ q => by simp [PyData.canLay0, PyData.depth, q.1, q.2]) (fun _ q => by simp [PyData.canLay0, PyData.depth, q.1, q.2]) (fun _ _ q => by simp [PyData.canLay0, PyData.depth, q.1, q.2])
    (by simp [PyData.canLayAll0, PyData.depthAll]) (fun _ _ h1 h2 => okAll_cons h1 h2) r
theorem Rds.ok {H : AH} {k : Nat} {v : List AV} {d : List PyData} (r : Rds H k v d) : PyData.canLayAll0 d = true ∧ PyData.depthAll d ≤ k :=
  Rds.ind (M := fun k _ d => PyData.canLayAll0 d = true ∧ PyData.depthAll d ≤ k) (fun _ => by simp [PyData.canLayAll0, PyData.depthAll]) (fun _ _ _ _ _ r _ ih => okAll_cons r.ok ih) r
theorem Rd.reads {S : Sx} {ρ : List Addr} {H : AH} {h : Heap} (X : HSim S ρ H h) {k : Nat} {v : AV} {d : PyData} {x : Value} (r : Rd H k v d) (V : VRel S ρ h v x) : ∃ as, Reads h x d as :=
  Rd.rec (motive_1 := fun _ v d _ => ∀ x, VRel S ρ h v x → ∃ as, Reads h x d as) (motive_2 := fun _ v d _ => ∀ x, VRels S ρ h v x → ∃ as, ReadsAll h x d as)
    (fun _ V => by cases V; exact ⟨_, .none⟩) (fun _ _ V => by cases V; exact ⟨_, .bool _⟩) (fun _ _ V => by cases V; exact ⟨_, .int _ _⟩) (fun _ _ _ V => by cases V; exact ⟨_, .str _ _⟩)
    (fun _ ih _ V => by cases V with | tup _ _ hi hv => obtain ⟨as, q⟩ := ih _ hv; obtain ⟨n, e⟩ := hi; exact ⟨_, .tuple e rfl rfl q⟩)
    (fun _ ih _ V => by cases V with | fl _ _ hi hv => obtain ⟨as, q⟩ := ih _ hv; obtain ⟨n, e⟩ := hi; exact ⟨_, .list e rfl rfl q⟩)
    (fun e _ ih _ V => by cases V with | ref hi => obtain ⟨items, ⟨n, p⟩, w⟩ := X.get e hi; obtain ⟨as, q⟩ := ih _ w; exact ⟨_, .list p rfl rfl q⟩)
    (fun _ V => by cases V; exact ⟨_, .nil⟩)
    (fun _ _ i1 i2 _ V => by obtain ⟨y, ys, rfl, a, b⟩ := V.cons_inv; obtain ⟨as, q⟩ := i1 _ a; obtain ⟨bs, q'⟩ := i2 _ b; exact ⟨_, .cons q q'⟩)
    r x V
theorem Rds.reads {S : Sx} {ρ : List Addr} {H : AH} {h : Heap} (X : HSim S ρ H h) {k : Nat} {v : List AV} {d : List PyData} {x : List Value} (r : Rds H k v d) (V : VRels S ρ h v x) : ∃ as, ReadsAll h x d as :=
  Rds.ind (M := fun _ v d => ∀ x, VRels S ρ h v x → ∃ as, ReadsAll h x d as) (fun _ _ V => by cases V; exact ⟨_, .nil⟩) (fun _ _ _ _ _ r _ ih _ V => by obtain ⟨y, ys, rfl, a, b⟩ := V.cons_inv; obtain ⟨as, q⟩ := r.reads X a; obtain ⟨bs, q'⟩ := ih _ b; exact ⟨_, .cons q q'⟩) r x V

noncomputable def isNone : AV → Bool
  | .none => true
  | _ => false
noncomputable def isBool (c : Bool) : AV → Bool
  | .bool b => b == c
  | _ => false
/-- a sequence's items -/
noncomputable def AV.seq? (H : AH) : AV → Option (List AV)
  | .tup vs => some vs
  | v => v.items? H

noncomputable def isOf (a b : AV) (k : Bool → Prop) : Prop := match b with
  | .none => k (isNone a)
  | .bool c => k (isBool c a)
  | _ => False
theorem isOf_of {a b : AV} {k : Bool → Prop} (h : isOf a b k) : (b = .none ∧ k (isNone a)) ∨ ∃ c, b = .bool c ∧ k (isBool c a) := by
  cases b <;> first | (exact False.elim h) | exact .inl ⟨rfl, h⟩ | exact .inr ⟨_, rfl, h⟩
noncomputable def eqOf (a b : AV) (H : AH) (k : Bool → Prop) : Prop := ∃ da db, Rd H 9 a da ∧ Rd H 9 b db ∧ k (da.eqv db)
noncomputable def eqOf' (a b : AV) (H : AH) (k : Bool → Prop) : Prop := match a with
  | .int i => (match b with
    | .int j => k (decide (i = j))
    | b => eqOf (.int i) b H k)
  | a => eqOf a b H k
theorem eqOf_of {a b : AV} {H : AH} {k : Bool → Prop} (h : eqOf' a b H k) : eqOf a b H k := by
  cases a with
  | int i =>
    cases b with
    | int j => exact ⟨_, _, .int i, .int j, by have h : k (decide (i = j)) := h; rwa [show (PyData.int i).eqv (PyData.int j) = decide (i = j) from by simp [PyData.eqv]; rfl]⟩
    | _ => exact h
  | _ => exact h
noncomputable def inOf (a b : AV) (H : AH) (k : Bool → Prop) : Prop := ∃ da vs ds, Rd H 9 a da ∧ b.seq? H = some vs ∧ Rds H 9 vs ds ∧ k (ds.any fun d => d.eqv da)
noncomputable def strIn (x y : Str) : Bool := !(Builtin.Str.occurrences y x 0 y.length 1).isEmpty
noncomputable def inOf' (a b : AV) (H : AH) (k : Bool → Prop) : Prop := match b with
  | .str y => (match a with
    | .str x => k (strIn x y)
    | _ => False)
  | b => inOf a b H k
theorem inOf_of {a b : AV} {H : AH} {k : Bool → Prop} (h : inOf' a b H k) : (∃ x y, a = .str x ∧ b = .str y ∧ k (strIn x y)) ∨ inOf a b H k := by
  cases b <;> first | exact .inr h | skip
  cases a <;> first | (exact False.elim h) | exact .inl ⟨_, _, rfl, rfl, h⟩
noncomputable def opCmp (op : CmpOp) (a b : AV) (H : AH) (Q : AV → AH → Prop) : Prop :=
  match op with
  | .Lt => onInts a b fun i j => Q (.bool (decide (i < j))) H
  | .LtE => onInts a b fun i j => Q (.bool (decide (i ≤ j))) H
  | .Gt => onInts a b fun i j => Q (.bool (decide (j < i))) H
  | .GtE => onInts a b fun i j => Q (.bool (decide (j ≤ i))) H
  | .Eq => eqOf' a b H fun c => Q (.bool c) H
  | .NotEq => eqOf' a b H fun c => Q (.bool (!c)) H
  | .Is => isOf a b fun c => Q (.bool c) H
  | .IsNot => isOf a b fun c => Q (.bool (!c)) H
  | .In => inOf' a b H fun c => Q (.bool c) H
  | .NotIn => inOf' a b H fun c => Q (.bool (!c)) H

open Classical in
/-- is a value of the heap equal to da -/
noncomputable def eqIn (h : Heap) (da : PyData) (y : Value) : Bool := decide (∃ d as, Reads h y d as ∧ d.canLay0 = true ∧ PyData.eqv d da = true)
open Classical in
theorem eqIn_of {h : Heap} {da d : PyData} {y : Value} {as : List Addr} (r : Reads h y d as) (hc : d.canLay0 = true) : eqIn h da y = PyData.eqv d da := by
  unfold eqIn
  cases e : PyData.eqv d da with
  | true => exact decide_eq_true ⟨d, as, r, hc, e⟩
  | false =>
    refine decide_eq_false ?_
    rintro ⟨d', as', r', hc', e'⟩
    have := Reads.unique d d' y as as' hc r r'
    subst this
    rw [e] at e'; cases e'
theorem ReadsAll.ind {h : Heap} {M : List Value → List PyData → Prop} (hn : M [] []) (hc : ∀ v vs d ds as, Reads h v d as → M vs ds → M (v :: vs) (d :: ds)) {vs : List Value} {ds : List PyData} {as : List Addr} (r : ReadsAll h vs ds as) : M vs ds := by
  induction vs generalizing ds as with
  | nil => cases r; exact hn
  | cons v vs ih => cases r with | cons a b => exact hc _ _ _ _ _ a (ih b)
theorem readsAll_any {h : Heap} {da : PyData} {ys : List Value} {ds : List PyData} {as : List Addr} (r : ReadsAll h ys ds as) (hc : PyData.canLayAll0 ds = true) : ys.any (eqIn h da) = ds.any fun d => d.eqv da :=
  ReadsAll.ind (M := fun ys ds => PyData.canLayAll0 ds = true → ys.any (eqIn h da) = ds.any fun d => d.eqv da) (fun _ => rfl) (fun _ _ _ _ _ r ih hc => by
    simp [PyData.canLayAll0] at hc
    simp [eqIn_of (da := da) r hc.1, ih hc.2]) r hc
theorem readsAll_get {h : Heap} {ys : List Value} {ds : List PyData} {as : List Addr} (r : ReadsAll h ys ds as) {y : Value} (hm : y ∈ ys) : ∃ d bs, d ∈ ds ∧ Reads h y d bs :=
  ReadsAll.ind (M := fun ys ds => y ∈ ys → ∃ d bs, d ∈ ds ∧ Reads h y d bs) (fun hm => nomatch hm) (fun _ _ _ _ _ r ih hm => by
    rcases List.mem_cons.mp hm with rfl | hm
    · exact ⟨_, _, .head _, r⟩
    · obtain ⟨d, bs, hd, q⟩ := ih hm
      exact ⟨d, bs, .tail _ hd, q⟩) r hm
theorem canLay_mem : ∀ {ds : List PyData} {d : PyData}, PyData.canLayAll0 ds = true → d ∈ ds → d.canLay0 = true
  | _ :: _, _, h, .head _ => by simp [PyData.canLayAll0] at h; exact h.1
  | _ :: _, _, h, .tail _ hm => by simp [PyData.canLayAll0] at h; exact canLay_mem h.2 hm
theorem depth_mem : ∀ {ds : List PyData} {d : PyData} {k : Nat}, PyData.depthAll ds ≤ k → d ∈ ds → d.depth ≤ k
  | _ :: _, _, _, h, .head _ => by simp [PyData.depthAll] at h; omega
  | _ :: _, _, _, h, .tail _ hm => by simp [PyData.depthAll] at h; exact depth_mem (by omega) hm

section
variable {prog : Program} {w : World} {A : Around} {E : Value → Shared → Prop} {s : Shared} {S : Sx} {ρ : List Addr} {H : AH} {Q : AV → AH → Prop} {x y : Value} {a b : AV}
theorem seq_real {v : AV} {vs : List AV} (X : HSim S ρ H s.heap) (V : VRel S ρ s.heap v x) (e : v.seq? H = some vs) : ∃ l items, x = .ref l ∧ (s.heap.PlainList l items ∨ PT s.heap l items) ∧ VRels S ρ s.heap vs items.toList := by
  cases V with
  | tup ha hs hi hv => simp [AV.seq?] at e; subst e; exact ⟨_, _, rfl, .inr hi, hv⟩
  | fl ha hs hi hv => simp [AV.seq?, AV.items?] at e; subst e; exact ⟨_, _, rfl, .inl hi, hv⟩
  | ref hi => simp [AV.seq?, AV.items?] at e; obtain ⟨items, p, w⟩ := X.get e hi; exact ⟨_, _, rfl, .inl p, w⟩
  | _ => simp [AV.seq?, AV.items?] at e
theorem contains_ok (hu : A.units + 100 < cLine) (X : HSim S ρ H s.heap) (Va : VRel S ρ s.heap a x) (Vb : VRel S ρ s.heap b y) {da : PyData} {vs : List AV} {ds : List PyData} (ra : Rd H 9 a da) (e : b.seq? H = some vs) (rs : Rds H 9 vs ds) {Q : Value → Shared → Prop} :
    (Q (.bool (ds.any fun d => d.eqv da)) s → wpAny (model prog w) A (compareOp .In x y) Q E s) ∧ (Q (.bool (!ds.any fun d => d.eqv da)) s → wpAny (model prog w) A (compareOp .NotIn x y) Q E s) := by
  obtain ⟨l, items, rfl, hl, vv⟩ := seq_real X Vb e
  obtain ⟨as, qa⟩ := ra.reads X Va
  obtain ⟨bs, qb⟩ := rs.reads X vv
  have o1 := ra.ok
  have o2 := rs.ok
  have hany : items.any (eqIn s.heap da) = ds.any fun d => d.eqv da := by rw [← readsAll_any qb o2.1]; simp
  have he : ∀ z, z ∈ items → EqAt A.in1 s z x (eqIn s.heap da z) := fun z hz => by
    obtain ⟨d, cs, hd, q⟩ := readsAll_get qb (y := z) (by simpa using hz)
    rw [eqIn_of (da := da) q (canLay_mem o2.1 hd)]
    refine eqAt_reads d da A.in1 s z x cs as q qa (canLay_mem o2.1 hd) o1.1 ?_
    have := depth_mem o2.2 hd
    have e0 : A.in1.units = A.units + 1 := rfl
    have := o1.2
    omega
  refine ⟨fun h => ?_, fun h => ?_⟩
  · rcases hl with hl | hl
    · exact in_listAt _ (PL.isList hl) he (by rw [hany]; exact h)
    · exact in_tupleAt _ hl.isTuple he (by rw [hany]; exact h)
  · rcases hl with hl | hl
    · exact notIn_listAt _ (PL.isList hl) he (by rw [hany]; exact h)
    · exact notIn_tupleAt _ hl.isTuple he (by rw [hany]; exact h)
theorem is_none (V : VRel S ρ s.heap a x) : plainIs x .none = true ∧ (x == .none) = isNone a := by
  cases V <;> exact ⟨rfl, rfl⟩
theorem is_bool (V : VRel S ρ s.heap a x) (c : Bool) : plainIs x (.bool c) = true ∧ (x == .bool c) = isBool c a := by
  cases V <;> refine ⟨rfl, ?_⟩ <;> first | rfl | skip
  rename_i b
  cases b <;> cases c <;> rfl
theorem opCmp_ok (op : CmpOp) (hu : A.units + 100 < cLine) (X : HSim S ρ H s.heap) (Va : VRel S ρ s.heap a x) (Vb : VRel S ρ s.heap b y) (h : opCmp op a b H Q) : wpAny (model prog w) A (compareOp op x y) (EP S ρ H s Q) E s := by
  cases op with
  | Lt =>
    obtain ⟨i, j, rfl, rfl, q⟩ := onInts_of h
    obtain ⟨t1, rfl⟩ := Va.ofInt
    obtain ⟨t2, rfl⟩ := Vb.ofInt
    exact P.lt_int (EP.val0 X (.bool _) q)
  | LtE =>
    obtain ⟨i, j, rfl, rfl, q⟩ := onInts_of h
    obtain ⟨t1, rfl⟩ := Va.ofInt
    obtain ⟨t2, rfl⟩ := Vb.ofInt
    exact P.le_int (EP.val0 X (.bool _) q)
  | Gt =>
    obtain ⟨i, j, rfl, rfl, q⟩ := onInts_of h
    obtain ⟨t1, rfl⟩ := Va.ofInt
    obtain ⟨t2, rfl⟩ := Vb.ofInt
    exact P.gt_int (EP.val0 X (.bool _) q)
  | GtE =>
    obtain ⟨i, j, rfl, rfl, q⟩ := onInts_of h
    obtain ⟨t1, rfl⟩ := Va.ofInt
    obtain ⟨t2, rfl⟩ := Vb.ofInt
    exact P.ge_int (EP.val0 X (.bool _) q)
  | Eq =>
    obtain ⟨da, db, ra, rb, q⟩ := eqOf_of (show eqOf' a b H (fun c => Q (.bool c) H) from h)
    obtain ⟨as, qa⟩ := ra.reads X Va
    obtain ⟨bs, qb⟩ := rb.reads X Vb
    refine compareEq_reads qa qb ra.ok.1 rb.ok.1 ?_ (EP.val0 X (.bool _) q)
    have := ra.ok.2; omega
  | NotEq =>
    obtain ⟨da, db, ra, rb, q⟩ := eqOf_of (show eqOf' a b H (fun c => Q (.bool (!c)) H) from h)
    obtain ⟨as, qa⟩ := ra.reads X Va
    obtain ⟨bs, qb⟩ := rb.reads X Vb
    refine compareNe_reads qa qb ra.ok.1 rb.ok.1 ?_ (EP.val0 X (.bool _) q)
    have := ra.ok.2; omega
  | Is =>
    rcases isOf_of (show isOf a b (fun c => Q (.bool c) H) from h) with ⟨rfl, q⟩ | ⟨c, rfl, q⟩
    · cases Vb; have z := is_none Va; exact wpAny_is_plain z.1 (by rw [z.2]; exact EP.val0 X (.bool _) q)
    · cases Vb; have z := is_bool Va c; exact wpAny_is_plain z.1 (by rw [z.2]; exact EP.val0 X (.bool _) q)
  | IsNot =>
    rcases isOf_of (show isOf a b (fun c => Q (.bool (!c)) H) from h) with ⟨rfl, q⟩ | ⟨c, rfl, q⟩
    · cases Vb; have z := is_none Va; exact wpAny_isNot_plain z.1 (by rw [z.2]; exact EP.val0 X (.bool _) q)
    · cases Vb; have z := is_bool Va c; exact wpAny_isNot_plain z.1 (by rw [z.2]; exact EP.val0 X (.bool _) q)
  | In =>
    rcases inOf_of (show inOf' a b H (fun c => Q (.bool c) H) from h) with ⟨u, v, rfl, rfl, q⟩ | ⟨da, vs, ds, ra, e, rs, q⟩
    · obtain ⟨t1, rfl⟩ := Va.ofStr
      obtain ⟨t2, rfl⟩ := Vb.ofStr
      exact P.in_str (EP.val0 X (.bool _) q)
    · exact (contains_ok hu X Va Vb ra e rs).1 (EP.val0 X (.bool _) q)
  | NotIn =>
    rcases inOf_of (show inOf' a b H (fun c => Q (.bool (!c)) H) from h) with ⟨u, v, rfl, rfl, q⟩ | ⟨da, vs, ds, ra, e, rs, q⟩
    · obtain ⟨t1, rfl⟩ := Va.ofStr
      obtain ⟨t2, rfl⟩ := Vb.ofStr
      exact P.notIn_str (EP.val0 X (.bool _) q)
    · exact (contains_ok hu X Va Vb ra e rs).2 (EP.val0 X (.bool _) q)
end

noncomputable def idxAt (k : Int) (vs : List AV) : Option AV := if vs.length ≤ smallN then (seqIndex? k vs.length).bind fun j => vs[j]? else Option.none
theorem idxAt_of {k : Int} {vs : List AV} {v : AV} (h : idxAt k vs = some v) : ∃ j, vs.length ≤ smallN ∧ seqIndex? k vs.length = some j ∧ vs[j]? = some v := by
  unfold idxAt at h
  split at h
  · rename_i hl
    obtain ⟨j, e, e'⟩ := Option.bind_eq_some_iff.mp h
    exact ⟨j, hl, e, e'⟩
  · cases h
theorem idxAt_some {k : Int} {vs : List AV} {v : AV} {j : Nat} (hl : vs.length ≤ smallN) (e : seqIndex? k vs.length = some j) (e' : vs[j]? = some v) : idxAt k vs = some v := by
  unfold idxAt
  rw [if_pos hl, e]
  exact e'
/-- a text's signs -/
noncomputable def signs (x : Str) : List AV := x.cps.toList.map fun c => .str ⟨#[c]⟩
noncomputable def AV.iseq? (H : AH) : AV → Option (List AV)
  | .str x => some (signs x)
  | v => v.seq? H
theorem iseq_of {H : AH} {o : AV} {vs : List AV} (h : o.iseq? H = some vs) : (∃ x, o = .str x ∧ vs = signs x) ∨ o.seq? H = some vs := by
  cases o <;> first | exact .inr h | exact .inl ⟨_, rfl, (Option.some.inj h).symm⟩
theorem iseq_is {H : AH} {o : AV} {vs : List AV} (h : o.seq? H = some vs) : o.iseq? H = some vs := by
  cases o <;> first | exact h | cases h
/-- an item -/
noncomputable def opIdx (o i : AV) (H : AH) (Q : AV → AH → Prop) : Prop :=
  match i with
  | .int k => opt (o.iseq? H) fun vs => opt (idxAt k vs) fun v => Q v H
  | .str x => ∃ ks vs v, o = .dict ks vs ∧ (ks.zip vs).lookup x = some v ∧ Q v H
  | _ => False
noncomputable def optInt : AV → Option (Option Int)
  | .none => some Option.none
  | .int i => some (some i)
  | _ => Option.none
/-- the places of a slice -/
noncomputable def slPick {α : Type} (xs : List α) (lo hi st : Option Int) : List α := let (a, b, c) := sliceBounds lo hi st xs.length; (sliceRange a b c).filterMap (xs[·]?)
noncomputable def slcL (o lo hi st : AV) (H : AH) (Q : AV → AH → Prop) : Prop :=
  ∃ vs l u t, o.items? H = some vs ∧ vs.length ≤ smallN ∧ optInt lo = some l ∧ optInt hi = some u ∧ optInt st = some t ∧ t ≠ some 0 ∧ Q (.ref H.length) (H ++ [slPick vs l u t])
/-- the rest of a tuple -/
noncomputable def slcT (vs : List AV) (lo hi st : AV) (H : AH) (Q : AV → AH → Prop) : Prop := match lo, hi, st with
  | .int a, .none, .none => (1 ≤ a ∧ a ≤ vs.length ∧ vs.length ≤ smallN) ∧ Q (.tup (vs.drop a.toNat)) H
  | _, _, _ => False
theorem slcT_of {vs : List AV} {lo hi st : AV} {H : AH} {Q : AV → AH → Prop} (h : slcT vs lo hi st H Q) : ∃ a, lo = .int a ∧ hi = .none ∧ st = .none ∧ (1 ≤ a ∧ a ≤ vs.length ∧ vs.length ≤ smallN) ∧ Q (.tup (vs.drop a.toNat)) H := by
  cases lo <;> first | (exact False.elim h) | skip
  cases hi <;> first | (exact False.elim h) | skip
  cases st <;> first | (exact False.elim h) | skip
  exact ⟨_, rfl, rfl, rfl, h⟩
/-- a part of a text -/
noncomputable def slcS (x : Str) (lo hi st : AV) (H : AH) (Q : AV → AH → Prop) : Prop := match st with
  | .none => x.length ≤ smallN ∧ opt (optInt lo) fun l => opt (optInt hi) fun u => Q (.str (Txt.slice x l u)) H
  | _ => False
theorem slcS_of {x : Str} {lo hi st : AV} {H : AH} {Q : AV → AH → Prop} (h : slcS x lo hi st H Q) : ∃ l u, st = .none ∧ x.length ≤ smallN ∧ optInt lo = some l ∧ optInt hi = some u ∧ Q (.str (Txt.slice x l u)) H := by
  cases st <;> first | (exact False.elim h) | skip
  obtain ⟨h0, h⟩ := h
  obtain ⟨l, e1, h⟩ := opt_of h
  obtain ⟨u, e2, h⟩ := opt_of h
  exact ⟨l, u, rfl, h0, e1, e2, h⟩
noncomputable def opSlc (o lo hi st : AV) (H : AH) (Q : AV → AH → Prop) : Prop := match o with
  | .tup vs => slcT vs lo hi st H Q
  | .str x => slcS x lo hi st H Q
  | o => slcL o lo hi st H Q
theorem opSlc_of {o lo hi st : AV} {H : AH} {Q : AV → AH → Prop} (h : opSlc o lo hi st H Q) : (∃ vs, o = .tup vs ∧ slcT vs lo hi st H Q) ∨ (∃ x, o = .str x ∧ slcS x lo hi st H Q) ∨ slcL o lo hi st H Q := by
  cases o <;> first | exact .inl ⟨_, rfl, h⟩ | exact .inr (.inl ⟨_, rfl, h⟩) | exact .inr (.inr h)
theorem opSlc_l {o lo hi st : AV} {H : AH} {Q : AV → AH → Prop} {vs : List AV} (e : o.items? H = some vs) (h : slcL o lo hi st H Q) : opSlc o lo hi st H Q := by
  cases o <;> first | exact h | cases e

theorem VRels.none_iff {S : Sx} {ρ : List Addr} {h : Heap} {vs : List AV} {xs : List Value} (V : VRels S ρ h vs xs) (i : Nat) : vs[i]? = Option.none ↔ xs[i]? = Option.none := by
  simp [V.length]
theorem VRels.picks {S : Sx} {ρ : List Addr} {h : Heap} {vs : List AV} {xs : List Value} (V : VRels S ρ h vs xs) : ∀ l : List Nat, VRels S ρ h (l.filterMap (vs[·]?)) (l.filterMap (xs[·]?))
  | [] => .nil
  | i :: l => by
    have ih := V.picks l
    rw [List.filterMap_cons, List.filterMap_cons]
    cases e : vs[i]? with
    | none => rw [(V.none_iff i).mp e]; exact ih
    | some v =>
      obtain ⟨x, ex, hv⟩ := V.get e
      rw [ex]
      exact .cons hv ih
theorem VRels.slPick {S : Sx} {ρ : List Addr} {h : Heap} {vs : List AV} {items : Array Value} (V : VRels S ρ h vs items.toList) (lo hi st : Option Int) : VRels S ρ h (slPick vs lo hi st) (slicePick items lo hi st).toList := by
  have e := V.length
  simp only [Array.length_toList] at e
  unfold Mine.slPick slicePick
  rw [e]
  simpa using V.picks (sliceRange (sliceBounds lo hi st items.size).1 (sliceBounds lo hi st items.size).2.1 (sliceBounds lo hi st items.size).2.2)
theorem optInt_part {S : Sx} {ρ : List Addr} {h : Heap} {v : AV} {x : Value} {k : Option Int} (V : VRel S ρ h v x) (e : optInt v = some k) : IsPart x k := by
  cases V <;> simp [optInt] at e <;> subst e
  · exact .none
  · exact .int _ _

section
variable {prog : Program} {w : World} {A : Around} {E : Value → Shared → Prop} {s : Shared} {S : Sx} {ρ : List Addr} {H : AH} {Q : AV → AH → Prop} {x y : Value} {o i : AV}
theorem VRels.lookup {h : Heap} {x : Str} {ks : List Str} {vs : List AV} {xs : List Value} {v : AV} (V : VRels S ρ h vs xs) (e : (ks.zip vs).lookup x = some v) : ∃ z, (ks.zip xs).lookup x = some z ∧ VRel S ρ h v z := by
  induction ks generalizing vs xs with
  | nil => simp at e
  | cons k ks ih =>
    cases vs with
    | nil => simp at e
    | cons u vs =>
      obtain ⟨z, zs, rfl, hv, hr⟩ := V.cons_inv
      simp only [List.zip_cons_cons, List.lookup_cons] at e ⊢
      split at e
      · cases e; exact ⟨z, rfl, hv⟩
      · exact ih hr e
theorem idx_fits {k : Int} {n j : Nat} (hs : n ≤ smallN) (h : seqIndex? k n = some j) : -(2 ^ 63) ≤ k ∧ k < 2 ^ 63 := by
  unfold smallN at hs
  unfold seqIndex? at h
  by_cases hk : k < 0
  · simp [hk] at h
    omega
  · simp [hk] at h
    omega
theorem getItem_ok (hp : S.prog = prog) (hw : S.w = w) (X : HSim S ρ H s.heap) (Vo : VRel S ρ s.heap o x) (Vi : VRel S ρ s.heap i y) (h : opIdx o i H Q) : (s.TypeIs x "list" ∨ s.TypeIs x "tuple" ∨ s.TypeIs x "dict" ∨ s.TypeIs x "str") ∧ wpAny (model prog w) A (getItem x y) (EP S ρ H s Q) E s := by
  unfold opIdx at h
  split at h
  · obtain ⟨vs, e0, h⟩ := opt_of h
    obtain ⟨v, ev0, q⟩ := opt_of h
    obtain ⟨j, hsm, ej, ev⟩ := idxAt_of ev0
    clear ev0 h
    cases Vi
    rename_i k t
    have hb0 : -(2 ^ 63) ≤ k ∧ k < 2 ^ 63 := idx_fits hsm ej
    rcases iseq_of e0 with ⟨z, rfl, rfl⟩ | e
    · obtain ⟨t1, rfl⟩ := Vo.ofStr
      unfold signs at ej ev
      rw [List.length_map] at ej
      rw [List.getElem?_map] at ev
      obtain ⟨c, ec, rfl⟩ := Option.map_eq_some_iff.mp ev
      refine ⟨.inr (.inr (.inr (typeIs_str _ _ _))), P.getItem_str (c := c) (by simp; omega) ?_ (EP.val X (.str _ _) q _)⟩
      rw [show z.length = z.cps.toList.length from by simp [Str.length], ej]
      simpa using ec
    obtain ⟨l, items, rfl, hl, vv⟩ := seq_real X Vo e
    have e1 := vv.length
    simp only [Array.length_toList] at e1
    rw [e1] at ej
    obtain ⟨z, ez, hz⟩ := vv.get ev
    have ez' : items[j]? = some z := by simpa using ez
    have hb : -(2 ^ 63) ≤ k ∧ k < 2 ^ 63 ∧ (0 ≤ k → j = k.toNat ∧ k < items.size) ∧ (k < 0 → j = (k + items.size).toNat ∧ -(items.size : Int) ≤ k) := by
      unfold smallN at hsm
      rw [e1] at hsm
      unfold seqIndex? at ej
      by_cases hk : k < 0
      · simp [hk] at ej
        omega
      · simp [hk] at ej
        omega
    rcases hl with hl | ⟨n, hl⟩
    · refine ⟨.inl (PL.isList hl).typeIs, ?_⟩
      by_cases h0 : 0 ≤ k
      · exact wpAny_getItem_list (PL.isList hl) h0 hb.2.1 (by rw [← (hb.2.2.1 h0).1]; exact ez') (EP.val0 X hz q)
      · exact wpAny_getItem_list_neg (PL.isList hl) (by omega) (hb.2.2.2 (by omega)).2 hb.1 (by rw [← (hb.2.2.2 (by omega)).1]; exact ez') (EP.val0 X hz q)
    · refine ⟨.inr (.inl ⟨_, hl, rfl⟩), ?_⟩
      exact P.getItem_tuple hl hb.1 hb.2.1 ej ez' (EP.val0 X hz q)
  · obtain ⟨ks, vs, v, rfl, e, q⟩ := h
    cases Vi
    cases Vo with
    | dict ha hs hm he hv =>
    obtain ⟨z, ez, Vz⟩ := hv.lookup e
    rw [hp, hw] at hm
    obtain ⟨_, hm⟩ := hm
    exact ⟨.inr (.inr (.inl hm.typeIs)), wpAny_getItem_of (strKind_is prog w _ _) hm ((he _).trans ez) (EP.val X Vz q _)⟩
  · exact h.elim
end

open PySem PyProof.Rows PySem.SeqAt

set_option genInjectivity false in
/-- the built-in functions that are used -/
inductive Pr where
  | len | all | sorted | min | max | int | list | tuple | range | str
  deriving DecidableEq
noncomputable def Pr.val : Pr → Value
  | .len => .builtin "len"
  | .all => .builtin "all"
  | .sorted => .builtin "sorted"
  | .min => .builtin "min"
  | .max => .builtin "max"
  | .int => .type "int"
  | .list => .type "list"
  | .tuple => .type "tuple"
  | .range => .type "range"
  | .str => .type "str"
set_option genInjectivity false in
/-- the types that isinstance asks for -/
inductive Ty where
  | int | bool | str | list | tuple
  deriving DecidableEq
noncomputable def Ty.name : Ty → String
  | .int => "int"
  | .bool => "bool"
  | .str => "str"
  | .list => "list"
  | .tuple => "tuple"
noncomputable def isInst (t : Ty) : AV → Bool
  | .int _ => t == .int
  | .bool _ => t == .int || t == .bool
  | .str _ => t == .str
  | .tup _ => t == .tuple
  | .fl _ => t == .list
  | .ref _ => t == .list
  | _ => false
theorem isI_int (t : Ty) (n : Int) : isInst t (.int n) = (t == .int) := rfl
theorem isI_bool (t : Ty) (n : Bool) : isInst t (.bool n) = (t == .int || t == .bool) := rfl
theorem isI_str (t : Ty) (n : Str) : isInst t (.str n) = (t == .str) := rfl
theorem isI_tup (t : Ty) (n : List AV) : isInst t (.tup n) = (t == .tuple) := rfl
theorem isI_fl (t : Ty) (n : List AV) : isInst t (.fl n) = (t == .list) := rfl
theorem isI_ref (t : Ty) (n : Nat) : isInst t (.ref n) = (t == .list) := rfl
noncomputable def lenOf (H : AH) : AV → Option Nat
  | .str x => some x.length
  | v => (v.seq? H).map List.length
/-- the ints of a range -/
noncomputable def rngList (a b c : Int) : List Int := (List.range (Builtin.Range.rangeSize a b c).toNat).map fun (i : Nat) => a + (i : Int) * c

noncomputable def on1 (vs : List AV) (k : AV → Prop) : Prop := match vs with
  | [v] => k v
  | _ => False
theorem on1_of {vs : List AV} {k : AV → Prop} (h : on1 vs k) : ∃ v, vs = [v] ∧ k v := by
  rcases vs with _ | ⟨v, _ | ⟨u, r⟩⟩
  · exact False.elim h
  · exact ⟨v, rfl, h⟩
  · exact False.elim h
noncomputable def onBool (v : AV) (k : Bool → Prop) : Prop := match v with
  | .bool c => k c
  | _ => False
theorem onBool_of {v : AV} {k : Bool → Prop} (h : onBool v k) : ∃ c, v = .bool c ∧ k c := by
  cases v <;> first | (exact False.elim h) | exact ⟨_, rfl, h⟩
noncomputable def onInt (v : AV) (k : Int → Prop) : Prop := match v with
  | .int c => k c
  | _ => False
theorem onInt_of {v : AV} {k : Int → Prop} (h : onInt v k) : ∃ c, v = .int c ∧ k c := by
  cases v <;> first | (exact False.elim h) | exact ⟨_, rfl, h⟩
noncomputable def lstOf (v : AV) (H : AH) (Q : AV → AH → Prop) : Prop := match v with
  | .rng a b c => rngOk a b c ∧ Q (.ref H.length) (H ++ [(rngList a b c).map AV.int])
  | v => opt (v.seq? H) fun xs => xs.length ≤ smallN ∧ Q (.ref H.length) (H ++ [xs])
theorem lstOf_of {v : AV} {H : AH} {Q : AV → AH → Prop} (h : lstOf v H Q) : (∃ a b c, v = .rng a b c ∧ rngOk a b c ∧ Q (.ref H.length) (H ++ [(rngList a b c).map AV.int])) ∨ ∃ xs, v.seq? H = some xs ∧ xs.length ≤ smallN ∧ Q (.ref H.length) (H ++ [xs]) := by
  cases v <;> first | exact .inl ⟨_, _, _, rfl, h⟩ | exact .inr (opt_of h)
noncomputable def rngOf (vs : List AV) (k : Int → Int → Int → Prop) : Prop := match vs with
  | [v] => onInt v fun b => k 0 b 1
  | [u, v] => onInts u v fun a b => k a b 1
  | [u, v, w] => onInts u v fun a b => onInt w fun c => k a b c
  | _ => False
/-- int(v) -/
noncomputable def intOf (v : AV) (k : Int → Prop) : Prop := match v with
  | .bool c => k (if c then 1 else 0)
  | .str x => x.length ≤ 640 ∧ opt (PySem.intText? x) k
  | _ => False
noncomputable def numStr (i : Int) : Str := Str.ofString (toString i)
noncomputable def opPrim (b : Pr) (vs : List AV) (H : AH) (Q : AV → AH → Prop) : Prop :=
  match b with
  | .len => on1 vs fun v => opt (lenOf H v) fun n => n ≤ smallN ∧ Q (.int n) H
  | .int => on1 vs fun v => intOf v fun i => Q (.int i) H
  | .list => on1 vs fun v => lstOf v H Q
  | .tuple => False
  | .sorted => False
  | .all => on1 vs fun v => ∃ bs : List Bool, v.items? H = some (bs.map AV.bool) ∧ Q (.bool (bs.all id)) H
  | .min => False
  | .max => False
  | .range => rngOf vs fun a b c => rngOk a b c ∧ Q (.rng a b c) H
  | .str => on1 vs fun v => onInt v fun i => i.natAbs.log2 < 1920 ∧ Q (.str (numStr i)) H

theorem rng_e {a b c : Int} (h : rngOk a b c) : c > 0 ∧ Builtin.Range.rangeSize a b c ≥ 0 ∧ Builtin.Range.rangeSize a b c ≤ 2000001 := by
  obtain ⟨⟨a1, a2⟩, ⟨b1, b2⟩, c1, c2⟩ := h
  have hc : c > 0 := by omega
  refine ⟨hc, ?_⟩
  unfold Builtin.Range.rangeSize
  rw [if_pos hc]
  split
  · rename_i hab
    have h0 : 0 ≤ b - a - 1 := by omega
    have h1 : (b - a - 1) / c ≤ b - a - 1 := Int.ediv_le_self _ h0
    have h2 : 0 ≤ (b - a - 1) / c := Int.ediv_nonneg h0 (by omega)
    omega
  · exact ⟨Int.le_refl 0, by decide⟩
theorem rng_small {a b c : Int} (h : rngOk a b c) : Builtin.Range.small a b c = true := by
  obtain ⟨hc, e1, e2⟩ := rng_e h
  obtain ⟨⟨a1, a2⟩, ⟨b1, b2⟩, c1, c2⟩ := h
  unfold Builtin.Range.small
  simp only [Builtin.Range.rangeFitsLong, Bool.and_eq_true, Bool.or_eq_true, decide_eq_true_eq, beq_iff_eq, hc, if_true]
  omega
theorem rng_size {a b c : Int} (h : rngOk a b c) : Builtin.Range.rangeSize a b c = ((Builtin.Range.rangeSize a b c).toNat : Int) ∧ (Builtin.Range.rangeSize a b c).toNat ≤ 2000001 := by
  obtain ⟨hc, e1, e2⟩ := rng_e h
  exact ⟨(Int.toNat_of_nonneg e1).symm, Int.toNat_le.mpr e2⟩
theorem VRels.ints {S : Sx} {ρ : List Addr} {h : Heap} {ns : List Int} {xs : List Value} (V : VRels S ρ h (ns.map AV.int) xs) : IntsAre xs ns := by
  induction ns generalizing xs with
  | nil => cases V.of0; exact .nil
  | cons n ns ih =>
    obtain ⟨z, zs, rfl, hv, hr⟩ := V.cons_inv
    obtain ⟨t, rfl⟩ := hv.ofInt
    exact .cons _ t (ih hr)
theorem VRels.ofIdx {S : Sx} {ρ : List Addr} {h : Heap} (g : Nat → AV) : ∀ {xs : List Value} (k : Nat), (∀ j x, xs[j]? = some x → VRel S ρ h (g (k + j)) x) → VRels S ρ h ((List.range' k xs.length).map g) xs
  | [], _, _ => by simpa using VRels.nil
  | x :: xs, k, hx => by
    simp only [List.length_cons, List.range'_succ, List.map_cons]
    refine .cons (by simpa using hx 0 x rfl) (VRels.ofIdx g (k + 1) fun j y hy => ?_)
    have := hx (j + 1) y (by simpa using hy)
    rwa [show k + 1 + j = k + (j + 1) by omega]

section
variable {prog : Program} {w : World} {A : Around} {E : Value → Shared → Prop} {s : Shared} {S : Sx} {ρ : List Addr} {H : AH} {Q : AV → AH → Prop} {x y : Value} {v : AV}
theorem len_ok (X : HSim S ρ H s.heap) (V : VRel S ρ s.heap v x) (h : opPrim .len [v] H Q) : wpAny (model prog w) A (call (.builtin "len") [x]) (EP S ρ H s Q) E s := by
  obtain ⟨n, e, hn, q⟩ := opt_of h
  unfold smallN at hn
  have seqc : ∀ vs, v.seq? H = some vs → vs.length = n → wpAny (model prog w) A (call (.builtin "len") [x]) (EP S ρ H s Q) E s := fun vs e1 e2 => by
    obtain ⟨l, items, rfl, hl, vv⟩ := seq_real X V e1
    have e3 := vv.length
    simp only [Array.length_toList] at e3
    have e4 : (items.size : Int) = n := by omega
    rcases hl with hl | ⟨m, hl⟩
    · refine Calls.call_len_list (PL.isList hl) (by omega) ?_
      rw [e4]; exact EP.val X (.int _ _) q _
    · refine P.len_tuple hl (by omega) ?_
      rw [e4]; exact EP.val X (.int _ _) q _
  cases V with
  | str z t => simp [lenOf] at e; subst e; exact P.len_str (by omega) (EP.val X (.int _ _) q _)
  | tup ha hs hi hv => simp [lenOf, AV.seq?] at e; exact seqc _ rfl e
  | fl ha hs hi hv => simp [lenOf, AV.seq?, AV.items?] at e; exact seqc _ rfl e
  | ref hi =>
    simp [lenOf, AV.seq?, AV.items?] at e
    obtain ⟨a, e1, e2⟩ := e
    exact seqc a e1 e2
  | _ => simp [lenOf, AV.seq?, AV.items?] at e
noncomputable def AV.offX : AV → Bool
  | .rng _ _ _ => false
  | .exc _ => false
  | _ => true
theorem isinst_ok (t : Ty) (X : HSim S ρ H s.heap) (V : VRel S ρ s.heap v x) (h : Q (.bool (isInst t v)) H) (hok : v.offX = true) : wpAny (model prog w) A (call (.builtin "isinstance") [x, .type t.name]) (EP S ρ H s Q) E s := by
  have yes : isInst t v = true → ∀ tk, EP S ρ H s Q (.bool true) { s with toks := tk } := fun e tk => EP.val X (.bool _) (e ▸ h) tk
  have no : isInst t v = false → ∀ tk, EP S ρ H s Q (.bool false) { s with toks := tk } := fun e tk => EP.val X (.bool _) (e ▸ h) tk
  cases V with
  | none => cases t <;> first | exact IsiPair.NoneType_int (no rfl _) | exact IsiPair.NoneType_bool (no rfl _) | exact IsiPair.NoneType_str (no rfl _) | exact IsiPair.NoneType_list (no rfl _) | exact IsiPair.NoneType_tuple (no rfl _)
  | bool b => cases t <;> first | exact IsiPair.bool_int (yes rfl s.toks) | exact IsiPair.bool_bool (yes rfl s.toks) | exact IsiPair.bool_str (no rfl _) | exact IsiPair.bool_list (no rfl _) | exact IsiPair.bool_tuple (no rfl _)
  | int i u => cases t <;> first | exact IsiPair.int_int (yes rfl s.toks) | exact IsiPair.int_bool (no rfl _) | exact IsiPair.int_str (no rfl _) | exact IsiPair.int_list (no rfl _) | exact IsiPair.int_tuple (no rfl _)
  | str i u => cases t <;> first | exact IsiPair.str_int (no rfl _) | exact IsiPair.str_bool (no rfl _) | exact IsiPair.str_str (yes rfl s.toks) | exact IsiPair.str_list (no rfl _) | exact IsiPair.str_tuple (no rfl _)
  | tup ha hs hi hv =>
    obtain ⟨n, hi⟩ := hi
    cases t <;> first | exact IsiPair.tuple_int hi rfl (no rfl _) | exact IsiPair.tuple_bool hi rfl (no rfl _) | exact IsiPair.tuple_str hi rfl (no rfl _) | exact IsiPair.tuple_list hi rfl (no rfl _) | exact IsiPair.tuple_tuple hi rfl (yes rfl s.toks)
  | fl ha hs hi hv =>
    obtain ⟨n, hi⟩ := hi
    cases t <;> first | exact IsiPair.list_int hi rfl (no rfl _) | exact IsiPair.list_bool hi rfl (no rfl _) | exact IsiPair.list_str hi rfl (no rfl _) | exact IsiPair.list_list hi rfl (yes rfl s.toks) | exact IsiPair.list_tuple hi rfl (no rfl _)
  | ref hi =>
    obtain ⟨items, p, _⟩ := X.mem' hi
    obtain ⟨n, hi⟩ := p
    cases t <;> first | exact IsiPair.list_int hi rfl (no rfl _) | exact IsiPair.list_bool hi rfl (no rfl _) | exact IsiPair.list_str hi rfl (no rfl _) | exact IsiPair.list_list hi rfl (yes rfl s.toks) | exact IsiPair.list_tuple hi rfl (no rfl _)
  | rng hr ha hs hi => cases hok
  | exc ha hs hi => cases hok
  | dict ha hs hm he hv =>
    obtain ⟨_, o, es, ep, e, hx, hd, _⟩ := hm
    have hc : o.cls = .type "dict" := hx.1
    cases t <;> first | exact IsiPair.dict_int e hc (no rfl _) | exact IsiPair.dict_bool e hc (no rfl _) | exact IsiPair.dict_str e hc (no rfl _) | exact IsiPair.dict_list e hc (no rfl _) | exact IsiPair.dict_tuple e hc (no rfl _)
theorem all_bools {bs : List Bool} {xs : List Value} {h : Heap} (V : VRels S ρ h (bs.map AV.bool) xs) (i : Nat) (x : Value) (e : xs[i]? = some x) : ∃ b, bs[i]? = some b ∧ x = .bool b := by
  obtain ⟨v, ev, hv⟩ := V.getR e
  rw [List.getElem?_map] at ev
  obtain ⟨b, eb, rfl⟩ := Option.map_eq_some_iff.mp ev
  exact ⟨b, eb, hv.ofBool⟩
theorem range_all (bs : List Bool) : (List.range bs.length).all (fun i => bs.getD i true) = bs.all id := by
  rw [Bool.eq_iff_iff, List.all_eq_true, List.all_eq_true]
  constructor
  · intro h b hb
    obtain ⟨i, hi, rfl⟩ := List.mem_iff_getElem.mp hb
    have := h i (List.mem_range.mpr hi)
    simpa [hi] using this
  · intro h i hi
    have hi' := List.mem_range.mp hi
    have := h bs[i] (List.getElem_mem hi')
    simpa [hi'] using this
theorem opPrim_ok (b : Pr) {vs : List AV} {xs : List Value} (hh : A.handled = none) (X : HSim S ρ H s.heap) (D : SD S s.heap) (V0 : VRels S ρ s.heap vs xs) (h0 : opPrim b vs H Q) : wpAny (model prog w) A (call b.val xs) (EP S ρ H s Q) E s := by
  cases b with
  | len =>
    obtain ⟨v, ev, h⟩ := on1_of h0
    clear h0
    subst ev
    obtain ⟨y, ey, V⟩ := V0.of1
    clear V0
    subst ey
    exact len_ok X V h
  | int =>
    obtain ⟨v, ev, h⟩ := on1_of h0
    clear h0
    subst ev
    obtain ⟨y, ey, V⟩ := V0.of1
    clear V0
    subst ey
    cases v with
    | bool c => cases V.ofBool; exact call_int_bool (EP.val X (.int _ _) h _)
    | str z =>
      obtain ⟨t1, rfl⟩ := V.ofStr
      obtain ⟨hl, h⟩ := h
      obtain ⟨n, e, q⟩ := opt_of h
      exact PySem.W.KIN.call_text e hl (EP.val X (.int _ _) q _)
    | _ => exact False.elim h
  | list =>
    obtain ⟨v, ev, h⟩ := on1_of h0
    clear h0
    subst ev
    obtain ⟨y, ey, V⟩ := V0.of1
    clear V0
    subst ey
    replace h := lstOf_of h
    rcases h with ⟨ra, rb, rc, rfl, h⟩ | h
    · cases V with | rng _ ha hsS hi =>
      obtain ⟨hr, q⟩ := h
      have hs := rng_size hr
      refine call_list_range hh hi (rng_small hr) hs.1 (by omega) fun h' tk acc c' hk hn hI => ?_
      refine EP.newL X D hk (size_none _) ⟨c', hn⟩ ?_ q
      have := VRels.ofIdx (S := S) (ρ := ρ) (h := s.heap) (fun (i : Nat) => AV.int (_ + (i : Int) * _)) (xs := acc.toList) 0 (fun j x hx => by
        obtain ⟨t, rfl⟩ := hI.2 j x (by simpa using hx)
        rw [Nat.zero_add]
        exact .int _ t)
      rw [Array.length_toList, hI.1, ← List.range_eq_range'] at this
      unfold rngList
      rw [List.map_map]
      exact this
    · obtain ⟨ys, e, hs, q⟩ := h
      obtain ⟨l, items, rfl, hl, vv⟩ := seq_real X V e
      have e1 := vv.length
      simp only [Array.length_toList] at e1
      have hsz : items.size ≤ sizeLine := by unfold smallN at hs; have : sizeLine = 2 ^ 24 := rfl; omega
      rcases hl with ⟨n, hl⟩ | ⟨n, hl⟩
      · exact call_list_seq (hsz := hsz) l (.inl rfl) hl rfl rfl fun h' c' hk hn => EP.newL (tk := s.toks) X D hk (size_none _) ⟨c', hn⟩ vv q
      · exact call_list_seq (hsz := hsz) l (.inr rfl) hl rfl rfl fun h' c' hk hn => EP.newL (tk := s.toks) X D hk (size_none _) ⟨c', hn⟩ vv q
  | tuple => exact False.elim h0
  | sorted => exact False.elim h0
  | all =>
    obtain ⟨v, ev, h⟩ := on1_of h0
    clear h0
    subst ev
    obtain ⟨y, ey, V⟩ := V0.of1
    clear V0
    subst ey
    obtain ⟨bs, e, q⟩ := h
    obtain ⟨l, items, rfl, hl, vv⟩ := items_real X V e
    have e1 := vv.length
    simp only [Array.length_toList, List.length_map] at e1
    refine call_all_walk (wpAny_pyIter_list (PL.isList hl) ?_)
    have hlt : l < s.heap.objs.size := by obtain ⟨n, hl⟩ := hl; exact Heap.lt_size hl
    refine ⟨_, _, _, _, _, _, fun i => bs.getD i true, rfl, Walks.list (A := A.in1) hh s.heap.objs.size l (Nat.ne_of_lt hlt) items, ⟨⟨_, Heap.get?_push_size _ rfl, rfl, rfl⟩, (PL.isList hl).at fun o e => Heap.get?_push_of_some _ e⟩, ?_, fun h' tk hk => ?_⟩
    · intro i v s₁ Q₁ E₁ hP hq
      obtain ⟨b, eb, rfl⟩ := all_bools vv i v (by simpa using hP)
      have e2 : bs.getD i true = b := by simp [List.getD, eb]
      have hq' : Q₁ b s₁ := e2 ▸ hq
      exact wpAny_truthy_bool hq'
    · rw [← e1, range_all]
      refine EP.grow X (fun b o e => hk b o (fun hm => ?_) (Heap.get?_push_of_some _ e)) (.bool _) q
      simp at hm; subst hm
      exact absurd (Heap.lt_size e) (Nat.lt_irrefl _)
  | min => exact False.elim h0
  | max => exact False.elim h0
  | range =>
    have n1 : s.heap.objs.size ∉ ρ := fun hm => by obtain ⟨o, ho⟩ := X.mem hm; rw [size_none] at ho; cases ho
    have n2 : s.heap.objs.size ∉ S.ad := fun hm => by obtain ⟨o, ho⟩ := D _ hm; rw [size_none] at ho; cases ho
    rcases vs with _ | ⟨v, _ | ⟨u, _ | ⟨u2, _ | ⟨u3, r⟩⟩⟩⟩
    · exact False.elim h0
    · obtain ⟨y, rfl, V⟩ := V0.of1
      obtain ⟨j, rfl, h⟩ := onInt_of h0
      clear h0 V0
      obtain ⟨t1, rfl⟩ := V.ofInt
      exact call_range_1 (EP.grow X (push_kp _ _) (.rng h.1 n1 n2 (Heap.get?_push_size _ rfl)) h.2)
    · obtain ⟨i, j, rfl, rfl, h⟩ := onInts_of h0
      clear h0
      obtain ⟨y, z, rfl, V, W⟩ := V0.of2
      obtain ⟨t1, rfl⟩ := V.ofInt
      obtain ⟨t2, rfl⟩ := W.ofInt
      exact call_range_2 (EP.grow X (push_kp _ _) (.rng h.1 n1 n2 (Heap.get?_push_size _ rfl)) h.2)
    · obtain ⟨i, j, rfl, rfl, h1⟩ := onInts_of h0
      clear h0
      obtain ⟨k, rfl, h⟩ := onInt_of h1
      clear h1
      obtain ⟨y, z, y3, rfl, V, W, U⟩ := V0.of3
      obtain ⟨t1, rfl⟩ := V.ofInt
      obtain ⟨t2, rfl⟩ := W.ofInt
      obtain ⟨t3, rfl⟩ := U.ofInt
      have hc := h.1.2.2
      exact call_range_3 (by omega) (EP.grow X (push_kp _ _) (.rng h.1 n1 n2 (Heap.get?_push_size _ rfl)) h.2) (Or.inl (PyProof.noPylong_small (by omega)))
    · exact False.elim h0
  | str =>
    obtain ⟨v, ev, h⟩ := on1_of h0
    clear h0
    subst ev
    obtain ⟨y, ey, V⟩ := V0.of1
    clear V0
    subst ey
    obtain ⟨i, rfl, hi, q⟩ := onInt_of h
    obtain ⟨t1, rfl⟩ := V.ofInt
    exact P.str_of_int hi (EP.val X (.str _ _) q _)
end

open PySem PyProof.Rows PySem.SeqAt

set_option genInjectivity false in
/-- pure methods -/
inductive Mt where
  | count | index | split | join | get
  deriving DecidableEq
set_option genInjectivity false in
/-- methods that change a list -/
inductive Mu where
  | append | insert | clear | extend | reverse | pop
  deriving DecidableEq
set_option genInjectivity false in
/-- what a for with several targets goes over -/
inductive It where
  | enumerate | zip | rows
  deriving DecidableEq

set_option genInjectivity false in
inductive CE where
  | const (v : AV)
  | var (i : Nat)
  | bin (op : Operator) (l r : CE)
  | neg (e : CE)
  | not (e : CE)
  | and (l r : CE)
  | or (l r : CE)
  | cmp (op : CmpOp) (l r : CE)
  | chain (op1 op2 : CmpOp) (l m r : CE)
  | idx (o i : CE)
  | slc (o lo hi st : CE)
  | tup (es : List CE)
  | lst (es : List CE)
  | dct (ks : List Str) (es : List CE)
  | call (f : Nat) (es : List CE)
  | prim (b : Pr) (es : List CE)
  | isin (t : Ty) (e : CE)
  | isown (c : Str) (e : CE)
  | meth (m : Mt) (o : CE) (es : List CE)
  | comp (elt : CE) (cs : List CE) (cap : List Nat) (nv : Nat) (it : CE)

set_option genInjectivity false in
inductive CS where
  | assign (x : Nat) (e : CE)
  | assignT (xs : List Nat) (e : CE)
  | setIdx (o i v : CE)
  | mut (m : Mu) (o : CE) (es : List CE)
  | popTo (x : Nat) (o : CE) (es : List CE)
  | expr (e : CE)
  | ite (c : CE) (a b : List CS)
  | for1 (x : Nat) (it : CE) (body : List CS)
  | forT (xs : List Nat) (k : It) (es : List CE) (body : List CS)
  | while (c : CE) (body : List CS)
  | ret (e : CE)
  | pass
  | raise (c : Str)
  | try (body : List CS) (c : Str) (x : Nat) (h : List CS)

/-- the names of the module -/
structure NT where
  fns : List Str
  consts : List (Str × AV)

noncomputable def prNames : List (Str × Pr) := [("len", .len), ("all", .all), ("sorted", .sorted), ("min", .min), ("max", .max), ("int", .int), ("list", .list), ("tuple", .tuple), ("range", .range), ("str", .str)]
noncomputable def tyNames : List (Str × Ty) := [("int", .int), ("bool", .bool), ("str", .str), ("list", .list), ("tuple", .tuple)]
/-- the built-in names that are used, and what they hold -/
noncomputable def biOf (x : Str) : Option Value :=
  (([("isinstance", Value.builtin "isinstance"), ("enumerate", Value.type "enumerate"), ("zip", Value.type "zip"), ("bool", Value.type "bool")] : List (Str × Value)) ++ prNames.map fun p => (p.1, p.2.val)).lookup x
noncomputable def mtNames : List (Str × Mt) := [("count", .count), ("index", .index), ("split", .split), ("join", .join), ("get", .get)]
noncomputable def muNames : List (Str × Mu) := [("append", .append), ("insert", .insert)]

noncomputable def constOf : Const → Option AV
  | .none => some .none
  | .bool b => some (.bool b)
  | .int i => some (.int i)
  | .str x => some (.str x)
  | _ => Option.none
noncomputable def isLoc : Option NameKind → Bool
  | some .local => true
  | some .cell => true
  | _ => false
noncomputable def idxOf (x : Str) : List Str → Option Nat
  | [] => Option.none
  | y :: r => if y = x then some 0 else (idxOf x r).map (· + 1)
theorem idxOf_get {x : Str} : ∀ {l : List Str} {i : Nat}, idxOf x l = some i → l[i]? = some x
  | y :: r, i, e => by
    unfold idxOf at e
    split at e
    · rename_i h; cases e; simp [h]
    · cases q : idxOf x r with
      | none => rw [q] at e; cases e
      | some j => rw [q] at e; cases e; simpa using idxOf_get q
  | [], _, e => by cases e
noncomputable def slotOf (kd : Str → Option NameKind) (names : List Str) (x : Str) : Option Nat := if isLoc (kd x) && x != ("__debug__" : Str) then idxOf x names else Option.none
noncomputable def isGlob (kd : Str → Option NameKind) (x : Str) : Bool := kd x == some .globalImplicit && x != ("__debug__" : Str)
noncomputable def nameOf (e : PySem.Expr) : Option Str := match e with
  | .Name x _ => some x
  | _ => Option.none
noncomputable def allSome {α : Type} : List (Option α) → Option (List α)
  | [] => some []
  | Option.none :: _ => Option.none
  | some a :: r => (allSome r).map (a :: ·)
/-- the kinds of a comprehension's names -/
noncomputable def compKd (scope : Scope) (kd : Str → Option NameKind) (x : Str) : Option NameKind := match scope.names.lookup x with
  | some .free => if kd x = some .cell then some .cell else some .free
  | k => k
noncomputable def freeNames (scope : Scope) : List Str := (scope.names.filter fun p => p.2 == .free).map (·.1)
/-- a comprehension's block is of the plain sort -/
noncomputable def compOk (scope : Scope) (kd : Str → Option NameKind) (xs : List Str) : Bool :=
  scope.kind == .function && scope.names.all (fun p => p.2 != .cell) && scope.names.all (fun p => p.2 != .local || scope.names.lookup p.1 == some .local) && xs.all (fun x => scope.names.lookup x == some .local) && (freeNames scope).all (fun x => kd x == some .cell) && (scope.names.map (·.1)).all fun x => !(freeNames scope).contains x || scope.names.lookup x == some .free
noncomputable def strKey : Option PySem.Expr → Option Str
  | some (.Constant (.str x) _ _) => some x
  | _ => Option.none
noncomputable def tgtNames : PySem.Expr → Option (Nat × List Str)
  | .Name x _ => some (0, [x])
  | _ => Option.none

noncomputable def boolNest (op : BoolOp) : List CE → Option CE
  | [] => Option.none
  | [a] => some a
  | a :: r => (boolNest op r).map (match op with | .And => CE.and a | .Or => CE.or a)

noncomputable def compName (nt : NT) (kd : Str → Option NameKind) (names : List Str) (x : Str) : Option CE := match slotOf kd names x with
  | some i => some (.var i)
  | Option.none => if isGlob kd x then (nt.consts.lookup x).map .const else Option.none
noncomputable def compUn (op : UnaryOp) (c : Option CE) : Option CE := match op with
  | .USub => c.map .neg
  | .Not => c.map .not
  | _ => Option.none
noncomputable def compCmp (r : PySem.Expr → Option CE) (l : PySem.Expr) (ops : List CmpOp) (rs : List PySem.Expr) : Option CE := match ops, rs with
  | [op], [e] => do
    let a ← r l
    let b ← r e
    some (.cmp op a b)
  | [op1, op2], [m, e] => do
    let a ← r l
    let b ← r m
    let c ← r e
    some (.chain op1 op2 a b c)
  | _, _ => Option.none
noncomputable def compOpt (r : PySem.Expr → Option CE) : Option PySem.Expr → Option CE
  | some e => r e
  | Option.none => some (.const .none)
noncomputable def isSlice : PySem.Expr → Option (Option PySem.Expr × Option PySem.Expr × Option PySem.Expr)
  | .Slice lo hi st _ => some (lo, hi, st)
  | _ => Option.none
noncomputable def compSub (r : PySem.Expr → Option CE) (o i : PySem.Expr) : Option CE := match isSlice i with
  | some (lo, hi, st) => do
    let a ← r o
    let b ← compOpt r lo
    let c ← compOpt r hi
    let d ← compOpt r st
    some (.slc a b c d)
  | Option.none => do
    let a ← r o
    let b ← r i
    some (.idx a b)
noncomputable def compDct (r : PySem.Expr → Option CE) (ks : List (Option PySem.Expr)) (es : List PySem.Expr) : Option CE := do
  let l ← allSome (ks.map strKey)
  let q ← allSome (es.map r)
  if l.length = q.length ∧ l.Nodup ∧ l.length < 15 then some (.dct l q) else Option.none
noncomputable def isiArgs (kd : Str → Option NameKind) (args : List PySem.Expr) : Option (PySem.Expr × Str) := match args with
  | [e, t] => match nameOf t with
    | some t => if isGlob kd t then some (e, t) else Option.none
    | Option.none => Option.none
  | _ => Option.none
noncomputable def isiEnd (nt : NT) (t : Str) (a : CE) : Option CE := match tyNames.lookup t with
  | some ty => some (.isin ty a)
  | Option.none => if nt.fns.contains t then Option.none else some (.isown t a)
noncomputable def compIsi (nt : NT) (r : PySem.Expr → Option CE) (kd : Str → Option NameKind) (args : List PySem.Expr) : Option CE := (isiArgs kd args).bind fun q => (r q.1).bind fun a => isiEnd nt q.2 a
noncomputable def compFn (nt : NT) (r : PySem.Expr → Option CE) (x : Str) (args : List PySem.Expr) : Option CE := do
  let l ← allSome (args.map r)
  if l.isEmpty then Option.none else
  match idxOf x nt.fns with
  | some f => some (.call f l)
  | Option.none => (prNames.lookup x).map fun b => .prim b l
noncomputable def compMeth (r : PySem.Expr → Option CE) (o : PySem.Expr) (m : Str) (ap : Pos) (args : List PySem.Expr) (p : Pos) : Option CE := do
  let a ← r o
  let l ← allSome (args.map r)
  if ap.endLine == p.line && l.length == 1 then (mtNames.lookup m).map fun b => .meth b a l else Option.none
noncomputable def attrOf : PySem.Expr → Option (PySem.Expr × Str × Pos)
  | .Attribute o m ap => some (o, m, ap)
  | _ => Option.none
noncomputable def compCall (nt : NT) (r : PySem.Expr → Option CE) (kd : Str → Option NameKind) (f : PySem.Expr) (args : List PySem.Expr) (p : Pos) : Option CE := match nameOf f with
  | some x => if isGlob kd x then (if x = ("isinstance" : Str) then compIsi nt r kd args else compFn nt r x args) else Option.none
  | Option.none => match attrOf f with
    | some q => compMeth r q.1 q.2.1 q.2.2 args p
    | Option.none => Option.none
noncomputable def genOf (gens : List Comprehension) : Option (PySem.Expr × (Nat × List Str) × PySem.Expr × List PySem.Expr) := match gens with
  | [g] => match tgtNames g.target with
    | some q => if g.is_async = 0 ∧ q.2.Nodup then some (g.target, q, g.iter, g.ifs) else Option.none
    | Option.none => Option.none
  | _ => Option.none
noncomputable def compLC (r : (Str → Option NameKind) → List Str → PySem.Expr → Option CE) (kd : Str → Option NameKind) (names : List Str) (elt : PySem.Expr) (gens : List Comprehension) (scope : Scope) : Option CE := do
  let g ← genOf gens
  let i ← r kd names g.2.2.1
  let cap ← allSome ((freeNames scope).map fun x => idxOf x names)
  let c ← r (compKd scope kd) (freeNames scope ++ g.2.1.2) elt
  let l ← allSome (g.2.2.2.map (r (compKd scope kd) (freeNames scope ++ g.2.1.2)))
  if compOk scope kd g.2.1.2 && l.length ≤ 1 then some (.comp c l cap g.2.1.1 i) else Option.none
noncomputable def compE1 (nt : NT) (r : (Str → Option NameKind) → List Str → PySem.Expr → Option CE) (kd : Str → Option NameKind) (names : List Str) (e : PySem.Expr) : Option CE := match e with
  | .Constant c _ _ => (constOf c).map .const
  | .Name x _ => compName nt kd names x
  | .BinOp l op rr _ => do
    let a ← r kd names l
    let b ← r kd names rr
    some (.bin op a b)
  | .UnaryOp op x _ => compUn op (r kd names x)
  | .BoolOp op es _ => (allSome (es.map (r kd names))).bind (boolNest op)
  | .Compare l ops rs _ => compCmp (r kd names) l ops rs
  | .Subscript o i _ => compSub (r kd names) o i
  | .Tuple es _ _ => (allSome (es.map (r kd names))).map .tup
  | .List es _ => (allSome (es.map (r kd names))).map .lst
  | .Dict ks es _ => compDct (r kd names) ks es
  | .Call f args kws p => if kws.isEmpty then compCall nt (r kd names) kd f args p else Option.none
  | .ListComp elt gens scope _ => compLC r kd names elt gens scope
  | _ => Option.none
noncomputable def compE (nt : NT) : Nat → (Str → Option NameKind) → List Str → PySem.Expr → Option CE
  | 0, _, _, _ => Option.none
  | n + 1, kd, names, e => compE1 nt (compE nt n) kd names e
theorem nameOf_name (x : Str) (p : Pos) : nameOf (.Name x p) = some x := rfl
noncomputable def callOf (e : PySem.Expr) : Option (PySem.Expr × List PySem.Expr × Bool × Pos) := match e with
  | .Call f args kws p => some (f, args, kws.isEmpty, p)
  | _ => Option.none
theorem callOf_some {e : PySem.Expr} {q : PySem.Expr × List PySem.Expr × Bool × Pos} (h : callOf e = some q) (hb : q.2.2.1 = true) : e = .Call q.1 q.2.1 [] q.2.2.2 := by
  cases e <;> cases h
  rename_i kws _
  cases kws with
  | nil => rfl
  | cons a r => cases hb
noncomputable def tupOf (e : PySem.Expr) : Option (List PySem.Expr × Nat × Pos) := match e with
  | .Tuple es k p => some (es, k, p)
  | _ => Option.none
theorem tupOf_some {e : PySem.Expr} {q : List PySem.Expr × Nat × Pos} (h : tupOf e = some q) : e = .Tuple q.1 q.2.1 q.2.2 := by
  cases e <;> cases h
  rfl
theorem nameOf_some {e : PySem.Expr} {x : Str} (h : nameOf e = some x) : ∃ p, e = .Name x p := by
  cases e <;> cases h
  exact ⟨_, rfl⟩
theorem attrOf_some {e : PySem.Expr} {q : PySem.Expr × Str × Pos} (h : attrOf e = some q) : e = .Attribute q.1 q.2.1 q.2.2 := by
  cases e <;> cases h
  rfl
theorem isSlice_some {e : PySem.Expr} {q : Option PySem.Expr × Option PySem.Expr × Option PySem.Expr} (h : isSlice e = some q) : ∃ p, e = .Slice q.1 q.2.1 q.2.2 p := by
  cases e <;> cases h
  exact ⟨_, rfl⟩
theorem genOf_some {gens : List Comprehension} {g : PySem.Expr × (Nat × List Str) × PySem.Expr × List PySem.Expr} (h : genOf gens = some g) : gens = [⟨g.1, g.2.2.1, g.2.2.2, 0⟩] ∧ tgtNames g.1 = some g.2.1 ∧ g.2.1.2.Nodup := by
  rcases gens with _ | ⟨⟨tg, it, ifs, as⟩, _ | ⟨q', r⟩⟩
  · cases h
  · unfold genOf at h
    cases e : tgtNames tg with
    | none => simp [e] at h
    | some x =>
      simp only [e] at h
      split at h
      · rename_i ha
        obtain ⟨ha, hn⟩ := ha
        subst ha
        cases h
        exact ⟨rfl, e, hn⟩
      · cases h
  · cases h
theorem isiArgs_some {kd : Str → Option NameKind} {args : List PySem.Expr} {q : PySem.Expr × Str} (h : isiArgs kd args = some q) : ∃ p, args = [q.1, .Name q.2 p] ∧ isGlob kd q.2 = true := by
  rcases args with _ | ⟨a, _ | ⟨b, _ | ⟨c, r⟩⟩⟩
  · cases h
  · cases h
  · unfold isiArgs at h
    cases e : nameOf b with
    | none => simp [e] at h
    | some x =>
      simp only [e] at h
      split at h
      · rename_i ha
        cases h
        obtain ⟨p, hp⟩ := nameOf_some e
        exact ⟨p, by rw [hp], ha⟩
      · cases h
  · cases h

open PySem PyProof.Rows PySem.SeqAt

/-- a program's context -/
structure PC where
  prog : Program
  w : World
  mg : Str → Option Value
  mb : Str → Option Value
  nt : NT
  /-- the module's defs, in the order of their names -/
  defs : List DefRec
  /-- of the exception classes: is an object of that class one of the name -/
  own : Str → Addr → Option Bool
  /-- the class right above them -/
  sup : Addr

/-- how deep, and whether no exception is being handled -/
structure Lv where
  k : Nat
  q : Bool
noncomputable def Aok (l : Lv) (A : Around) : Prop := (l.q = true → A.handled = none) ∧ A.depth + l.k < recursionLimit ∧ A.units + 10 * l.k + 200 < cLine

/-- what isinstance is to find -/
noncomputable def OwnIs (P : PC) (h : Heap) (t : Str) (c : Addr) (b : Bool) : Prop :=
  XCls h c P.sup ∧ ((P.mg t = none ∧ P.mb t = some (.type "ValueError") ∧ b = true) ∨ (P.mg t = some (.ref c) ∧ b = true) ∨ ∃ D, P.mg t = some (.ref D) ∧ XCls h D P.sup ∧ c ≠ D ∧ P.sup ≠ D ∧ b = false)
/-- what the module's top has left -/
structure GOk (P : PC) (h : Heap) : Prop where
  g : h.Ns mainGlobals P.mg
  b : h.Ns builtinsNs P.mb
  nolimit : h.NoLimit
  bi : ∀ x v, biOf x = some v → P.mg x = none ∧ P.mb x = some v
  cst : ∀ x v, P.nt.consts.lookup x = some v → ∃ rv, P.mg x = some rv ∧ ∀ S ρ h, VRel S ρ h v rv
  ow : ∀ (t : Str) (c : Addr) (b : Bool), P.own t c = some b → OwnIs P h t c b
  fn : ∀ (f : Nat) (x : Str), P.nt.fns[f]? = some x → ∃ a o, P.mg x = some (.ref a) ∧ h.get? a = some o ∧ ∃ fd, o.data = .func fd
  df : ∀ (f : Nat) (x : Str) (d : DefRec), P.nt.fns[f]? = some x → P.defs[f]? = some d → ∃ a o pm code doc, P.mg x = some (.ref a) ∧ h.get? a = some o ∧ o.data = .func (Calls.docDef d.name d.params d.body d.scope pm code doc) ∧ h.CodeRec code d.name
theorem GOk.kp {P : PC} {h h' : Heap} (x : GOk P h) (k : Kp h h') : GOk P h' where
  g := x.g.keeps k
  b := x.b.keeps k
  nolimit := x.nolimit.keeps k
  bi := x.bi
  cst := x.cst
  fn := fun f y e => let ⟨a, o, h1, h2, h3⟩ := x.fn f y e; ⟨a, o, h1, k _ _ h2, h3⟩
  ow := fun t c b e => let ⟨x1, x2⟩ := x.ow t c b e; ⟨x1.keeps k, x2.imp id fun q => q.imp id fun ⟨D, y1, y2, y3⟩ => ⟨D, y1, y2.keeps k, y3⟩⟩
  df := fun f y d e e' => let ⟨a, o, pm, code, doc, h1, h2, h3, h4⟩ := x.df f y d e e'; ⟨a, o, pm, code, doc, h1, k _ _ h2, h3, h4.keeps k⟩

/-- an exception that leaves a call -/
noncomputable def ExcC (_P : PC) (_A : Around) (_s : Shared) (_X : Str → Prop) (_e : Value) (_s' : Shared) : Prop := False

/-- a call of a def of the module -/
noncomputable def CallJ (P : PC) (l : Lv) (f : Nat) (vs : List AV) (Q : AV → AH → Prop) (X : Str → Prop) : Prop :=
  ∀ (A : Around) (s : Shared) (S : Sx) (xs : List Value) (x : Str) (a : Addr), Aok l A → GOk P s.heap → P.nt.fns[f]? = some x → P.mg x = some (.ref a) → S.prog = P.prog → S.w = P.w → SD S s.heap → VRels S [] s.heap vs xs →
    codeAny (model P.prog P.w) A (.call (.ref a) ⟨xs, []⟩) (fun r s' => match r with
      | .ok fl => ∃ rv h' tk ρ v Hc, fl = .ret rv ∧ s' = { s with heap := h', toks := tk } ∧ Kp s.heap h' ∧ Fresh s.heap ρ ∧ HSim S ρ Hc h' ∧ VRel S ρ h' v rv ∧ Q v Hc
      | .error e => ExcC P A s X e s') s

theorem CallJ.mono {P : PC} {l : Lv} {f : Nat} {vs : List AV} {Q Q' : AV → AH → Prop} {X X' : Str → Prop} (h : CallJ P l f vs Q X) (hq : ∀ v H, Q v H → Q' v H) : CallJ P l f vs Q' X' :=
  fun A s S xs x a h1 h2 h3 h4 h5 h6 h7 h8 => codeAny_mono (h A s S xs x a h1 h2 h3 h4 h5 h6 h7 h8) fun r s' hr => by
    cases r with
    | ok fl => obtain ⟨rv, h', tk, ρ, v, Hc, e1, e2, k, fr, X, V, q⟩ := hr; exact ⟨rv, h', tk, ρ, v, Hc, e1, e2, k, fr, X, V, hq _ _ q⟩
    | error e => exact hr.elim

/-- a call as an expression sees it -/
noncomputable def CallP (P : PC) (l : Lv) (f : Nat) (vs : List AV) (H : AH) (Q : AV → AH → Prop) (X : Str → Prop) : Prop :=
  ∃ vs', Rens [] H vs vs' ∧ CallJ P l f vs' (fun v Hc => (vs' = vs ∨ (NoFl v ∧ ∀ xs ∈ Hc, NoFls xs)) ∧ Q (v.shift H.length) (H ++ Hc.map (AV.shifts H.length))) X

/-- a comprehension's turns -/
noncomputable def compItems (test : AV → (Bool → Prop) → Prop) (el : AV → (AV → Prop) → Prop) : List AV → (List AV → Prop) → Prop
  | [], K => K []
  | x :: r, K => test x fun b => if b then el x fun v => compItems test el r fun vs => K (v :: vs) else compItems test el r K

/-- a list -/
noncomputable def AV.isL : AV → Bool
  | .fl _ => true
  | .ref _ => true
  | _ => false
noncomputable def onL (v : AV) (K : Prop) : Prop := match v with
  | .fl _ => K
  | .ref _ => K
  | _ => False
theorem onL_of {v : AV} {K : Prop} (h : onL v K) : v.isL = true ∧ K := by cases v <;> first | (exact False.elim h) | exact ⟨rfl, h⟩
noncomputable def offRng (v : AV) (K : Prop) : Prop := match v with
  | .rng _ _ _ => False
  | .exc _ => False
  | _ => K
theorem offRng_of {v : AV} {K : Prop} (h : offRng v K) : v.offX = true ∧ K := by cases v <;> first | (exact False.elim h) | exact ⟨rfl, h⟩
/-- of an exception, whether it is of the class of that name -/
noncomputable def onExc (P : PC) (t : Str) (v : AV) (K : Bool → Prop) : Prop := match v with
  | .exc c => opt (P.own t c) K
  | _ => False
theorem onExc_of {P : PC} {t : Str} {v : AV} {K : Bool → Prop} (h : onExc P t v K) : ∃ c b, v = .exc c ∧ P.own t c = some b ∧ K b := by
  cases v <;> first | (exact False.elim h) | skip
  obtain ⟨b, e, q⟩ := opt_of h
  exact ⟨_, b, rfl, e, q⟩
/-- what a for goes over -/
noncomputable def iterOfC (H : AH) : AV → Option (List AV)
  | .rng a b c => some ((rngList a b c).map AV.int)
  | v => v.seq? H
noncomputable def iterOf (H : AH) : AV → Option (List AV)
  | .rng a b c => some ((rngList a b c).map AV.int)
  | .str x => some (signs x)
  | v => v.seq? H
/-- the targets' values -/
noncomputable def bindItem (nv : Nat) (v : AV) : Option (List (Option AV)) :=
  if nv = 0 then some [some v] else match v with
  | .tup vs => if vs.length = nv then some (vs.map some) else Option.none
  | _ => Option.none
noncomputable def listCount (H : AH) (o v : AV) (Q : AV → AH → Prop) : Prop := ∃ vs ds d, o.items? H = some vs ∧ Rds H 9 vs ds ∧ Rd H 9 v d ∧ vs.length ≤ smallN ∧ Q (.int ((ds.countP fun e => e.eqv d : Nat) : Int)) H
noncomputable def listIndex (H : AH) (o v : AV) (Q : AV → AH → Prop) : Prop := ∃ vs ds d j, o.items? H = some vs ∧ Rds H 9 vs ds ∧ Rd H 9 v d ∧ vs.length ≤ smallN ∧ ds.findIdx? (fun e => e.eqv d) = some j ∧ Q (.int (j : Int)) H
/-- a method's receiver -/
noncomputable def onStr (v : AV) (K : Prop) : Prop := match v with
  | .str _ => K
  | _ => False
noncomputable def onDict (v : AV) (K : Prop) : Prop := match v with
  | .dict _ _ => K
  | _ => False
noncomputable def onR (m : Mt) (v : AV) (K : Prop) : Prop := match m with
  | .count => onL v K
  | .index => onL v K
  | .split => onStr v K
  | .join => onStr v K
  | .get => onDict v K
noncomputable def strSplit (o v : AV) (H : AH) (Q : AV → AH → Prop) : Prop := match o with
  | .str x => (match v with
    | .str y => (y.length == 0) = false ∧ x.length + 1 ≤ smallN ∧ (Txt.split x y).length ≤ smallN ∧ Q (.ref H.length) (H ++ [(Txt.split x y).map AV.str])
    | _ => False)
  | _ => False
noncomputable def strJoin (o v : AV) (H : AH) (Q : AV → AH → Prop) : Prop := match o with
  | .str x => ∃ ws, v.items? H = some (ws.map AV.str) ∧ JoinOk x ws = true ∧ Q (.str (Str.join x ws)) H
  | _ => False
noncomputable def dictGet (o v : AV) (H : AH) (Q : AV → AH → Prop) : Prop := match o with
  | .dict ks vs => (match v with
    | .str x => Q (((ks.zip vs).lookup x).getD .none) H
    | _ => False)
  | _ => False
noncomputable def opMeth (m : Mt) (o : AV) (vs : List AV) (H : AH) (Q : AV → AH → Prop) : Prop :=
  match m with
  | .count => on1 vs fun v => listCount H o v Q
  | .index => on1 vs fun v => listIndex H o v Q
  | .split => on1 vs fun v => strSplit o v H Q
  | .join => on1 vs fun v => strJoin o v H Q
  | .get => on1 vs fun v => dictGet o v H Q

/-- what a comprehension sees of its block's names -/
inductive CapRel (H : AH) (loc : List (Option AV)) : List Nat → List (Option AV) → Prop
  | nil : CapRel H loc [] []
  | cons {i : Nat} {v v' : AV} {r : List Nat} {base : List (Option AV)} : loc[i]?.join = some v → Ren [] H v v' → CapRel H loc r base → CapRel H loc (i :: r) (some v' :: base)
  | skip {i : Nat} {r : List Nat} {base : List (Option AV)} : CapRel H loc r base → CapRel H loc (i :: r) (Option.none :: base)

mutual
noncomputable def wpE (P : PC) (l : Lv) (X : Str → Prop) : CE → List (Option AV) → AH → (AV → AH → Prop) → Prop
  | .const v, _, H, Q => Q v H
  | .var i, loc, H, Q => opt (loc[i]?.join) fun v => Q v H
  | .bin op a b, loc, H, Q => wpE P l X a loc H fun v H₁ => wpE P l X b loc H₁ fun u H₂ => opBin op v u H₂ Q
  | .neg a, loc, H, Q => wpE P l X a loc H fun v H₁ => onInt v fun i => Q (.int (-i)) H₁
  | .not a, loc, H, Q => wpE P l X a loc H fun v H₁ => onBool v fun b => Q (.bool (!b)) H₁
  | .and a b, loc, H, Q => wpE P l X a loc H fun v H₁ => onBool v fun c => if c = true then wpE P l X b loc H₁ Q else Q (.bool false) H₁
  | .or a b, loc, H, Q => wpE P l X a loc H fun v H₁ => onBool v fun c => if c = true then Q (.bool true) H₁ else wpE P l X b loc H₁ Q
  | .cmp op a b, loc, H, Q => wpE P l X a loc H fun v H₁ => wpE P l X b loc H₁ fun u H₂ => opCmp op v u H₂ Q
  | .chain op1 op2 a b c, loc, H, Q => wpE P l X a loc H fun v H₁ => wpE P l X b loc H₁ fun u H₂ => opCmp op1 v u H₂ fun r H₃ => onBool r fun t =>
      if t = true then wpE P l X c loc H₃ fun z H₄ => opCmp op2 u z H₄ Q else Q (.bool false) H₃
  | .idx o i, loc, H, Q => wpE P l X o loc H fun v H₁ => wpE P l X i loc H₁ fun u H₂ => opIdx v u H₂ Q
  | .slc o a b c, loc, H, Q => wpE P l X o loc H fun v H₁ => wpE P l X a loc H₁ fun x H₂ => wpE P l X b loc H₂ fun y H₃ => wpE P l X c loc H₃ fun z H₄ => opSlc v x y z H₄ Q
  | .tup es, loc, H, Q => wpEs P l X es loc H fun vs H₁ => vs.length ≤ smallN ∧ Q (.tup vs) H₁
  | .lst es, loc, H, Q => wpEs P l X es loc H fun vs H₁ => vs.length ≤ smallN ∧ Q (.ref H₁.length) (H₁ ++ [vs])
  | .dct ks es, loc, H, Q => wpEs P l X es loc H fun vs H₁ => Q (.dict ks vs) H₁
  | .call f es, loc, H, Q => 0 < l.k ∧ wpEs P l X es loc H fun vs H₁ => CallP P l f vs H₁ Q X
  | .prim b es, loc, H, Q => l.q = true ∧ wpEs P l X es loc H fun vs H₁ => opPrim b vs H₁ Q
  | .isin t e, loc, H, Q => wpE P l X e loc H fun v H₁ => offRng v (Q (.bool (isInst t v)) H₁)
  | .isown t e, loc, H, Q => wpE P l X e loc H fun v H₁ => onExc P t v fun b => Q (.bool b) H₁
  | .meth m o es, loc, H, Q => wpE P l X o loc H fun v H₁ => onR m v <| wpEs P l X es loc H₁ fun vs H₂ => opMeth m v vs H₂ Q
  | .comp elt cs cap nv it, loc, H, Q => l.q = true ∧ wpE P l X it loc H fun v H₁ => ∃ its items base, iterOfC H₁ v = some its ∧ its.length ≤ smallN ∧ Rens [] H₁ its items ∧ CapRel H₁ loc cap base ∧
      compItems (fun x K => opt (bindItem nv x) fun bx => wpTests P l X cs (base ++ bx) K)
        (fun x K => opt (bindItem nv x) fun bx => wpE P l X elt (base ++ bx) [] fun r Hc => ∃ r', Ren [] Hc r r' ∧ ((items = its ∧ base = cap.map fun i => loc[i]?.join) ∨ NoFl r') ∧ K r') items
        fun vs => Q (.ref H₁.length) (H₁ ++ [vs])
noncomputable def wpEs (P : PC) (l : Lv) (X : Str → Prop) : List CE → List (Option AV) → AH → (List AV → AH → Prop) → Prop
  | [], _, H, Q => Q [] H
  | e :: r, loc, H, Q => wpE P l X e loc H fun v H₁ => wpEs P l X r loc H₁ fun vs H₂ => Q (v :: vs) H₂
noncomputable def wpTests (P : PC) (l : Lv) (X : Str → Prop) : List CE → List (Option AV) → (Bool → Prop) → Prop
  | [], _, K => K true
  | c :: _, loc, K => wpE P l X c loc [] fun v _ => onBool v K
end
section
variable {P : PC} {l : Lv} {X : Str → Prop} {loc : List (Option AV)} {H : AH} {Q : AV → AH → Prop}
theorem w_const (v : AV) : wpE P l X (.const v) loc H Q = (Q v H) := rfl
theorem w_var (i : Nat) : wpE P l X (.var i) loc H Q = (opt (loc[i]?.join) fun v => Q v H) := rfl
theorem w_bin (op : Operator) (a b : CE) : wpE P l X (.bin op a b) loc H Q = (wpE P l X a loc H fun v H₁ => wpE P l X b loc H₁ fun u H₂ => opBin op v u H₂ Q) := rfl
theorem w_neg (a : CE) : wpE P l X (.neg a) loc H Q = (wpE P l X a loc H fun v H₁ => onInt v fun i => Q (.int (-i)) H₁) := rfl
theorem w_not (a : CE) : wpE P l X (.not a) loc H Q = (wpE P l X a loc H fun v H₁ => onBool v fun b => Q (.bool (!b)) H₁) := rfl
theorem w_and (a b : CE) : wpE P l X (.and a b) loc H Q = (wpE P l X a loc H fun v H₁ => onBool v fun c => if c = true then wpE P l X b loc H₁ Q else Q (.bool false) H₁) := rfl
theorem w_or (a b : CE) : wpE P l X (.or a b) loc H Q = (wpE P l X a loc H fun v H₁ => onBool v fun c => if c = true then Q (.bool true) H₁ else wpE P l X b loc H₁ Q) := rfl
theorem w_cmp (op : CmpOp) (a b : CE) : wpE P l X (.cmp op a b) loc H Q = (wpE P l X a loc H fun v H₁ => wpE P l X b loc H₁ fun u H₂ => opCmp op v u H₂ Q) := rfl
theorem w_chain (op1 op2 : CmpOp) (a b c : CE) : wpE P l X (.chain op1 op2 a b c) loc H Q = (wpE P l X a loc H fun v H₁ => wpE P l X b loc H₁ fun u H₂ => opCmp op1 v u H₂ fun r H₃ => onBool r fun t =>
      if t = true then wpE P l X c loc H₃ fun z H₄ => opCmp op2 u z H₄ Q else Q (.bool false) H₃) := rfl
theorem w_idx (o i : CE) : wpE P l X (.idx o i) loc H Q = (wpE P l X o loc H fun v H₁ => wpE P l X i loc H₁ fun u H₂ => opIdx v u H₂ Q) := rfl
theorem w_slc (o a b c : CE) : wpE P l X (.slc o a b c) loc H Q = (wpE P l X o loc H fun v H₁ => wpE P l X a loc H₁ fun x H₂ => wpE P l X b loc H₂ fun y H₃ => wpE P l X c loc H₃ fun z H₄ => opSlc v x y z H₄ Q) := rfl
theorem w_tup (es : List CE) : wpE P l X (.tup es) loc H Q = (wpEs P l X es loc H fun vs H₁ => vs.length ≤ smallN ∧ Q (.tup vs) H₁) := rfl
theorem w_lst (es : List CE) : wpE P l X (.lst es) loc H Q = (wpEs P l X es loc H fun vs H₁ => vs.length ≤ smallN ∧ Q (.ref H₁.length) (H₁ ++ [vs])) := rfl
theorem w_dct (ks : List Str) (es : List CE) : wpE P l X (.dct ks es) loc H Q = (wpEs P l X es loc H fun vs H₁ => Q (.dict ks vs) H₁) := rfl
theorem w_call (f : Nat) (es : List CE) : wpE P l X (.call f es) loc H Q = (0 < l.k ∧ wpEs P l X es loc H fun vs H₁ => CallP P l f vs H₁ Q X) := rfl
theorem w_prim (b : Pr) (es : List CE) : wpE P l X (.prim b es) loc H Q = (l.q = true ∧ wpEs P l X es loc H fun vs H₁ => opPrim b vs H₁ Q) := rfl
theorem w_isin (t : Ty) (e : CE) : wpE P l X (.isin t e) loc H Q = (wpE P l X e loc H fun v H₁ => offRng v (Q (.bool (isInst t v)) H₁)) := rfl
theorem w_isown (t : Str) (e : CE) : wpE P l X (.isown t e) loc H Q = (wpE P l X e loc H fun v H₁ => onExc P t v fun b => Q (.bool b) H₁) := rfl
theorem w_meth (m : Mt) (o : CE) (es : List CE) : wpE P l X (.meth m o es) loc H Q = (wpE P l X o loc H fun v H₁ => onR m v <| wpEs P l X es loc H₁ fun vs H₂ => opMeth m v vs H₂ Q) := rfl
theorem w_comp (elt : CE) (cs : List CE) (cap : List Nat) (nv : Nat) (it : CE) : wpE P l X (.comp elt cs cap nv it) loc H Q = (l.q = true ∧ wpE P l X it loc H fun v H₁ => ∃ its items base, iterOfC H₁ v = some its ∧ its.length ≤ smallN ∧ Rens [] H₁ its items ∧ CapRel H₁ loc cap base ∧
      compItems (fun x K => opt (bindItem nv x) fun bx => wpTests P l X cs (base ++ bx) K)
        (fun x K => opt (bindItem nv x) fun bx => wpE P l X elt (base ++ bx) [] fun r Hc => ∃ r', Ren [] Hc r r' ∧ ((items = its ∧ base = cap.map fun i => loc[i]?.join) ∨ NoFl r') ∧ K r') items
        fun vs => Q (.ref H₁.length) (H₁ ++ [vs])) := rfl
theorem w_nil {Q : List AV → AH → Prop} : wpEs P l X [] loc H Q = Q [] H := rfl
theorem w_cons {Q : List AV → AH → Prop} (e : CE) (r : List CE) : wpEs P l X (e :: r) loc H Q = (wpE P l X e loc H fun v H₁ => wpEs P l X r loc H₁ fun vs H₂ => Q (v :: vs) H₂) := rfl
theorem w_t0 {K : Bool → Prop} : wpTests P l X [] loc K = K true := rfl
theorem w_t1 {K : Bool → Prop} (c : CE) (r : List CE) : wpTests P l X (c :: r) loc K = (wpE P l X c loc [] fun v _ => onBool v K) := rfl
end

open PySem PyProof.Rows PySem.SeqAt

noncomputable def EnvOk (env : Env) : Prop := env.scope.kind = .function ∧ env.globals = mainGlobals ∧ env.builtins = builtinsNs ∧ ∀ x, env.kindOf x = some .cell → ∃ c, env.cells.lookup x = some c
/-- a name's value -/
noncomputable def NameAt (env : Env) (h : Heap) (x : Str) (v : Value) : Prop :=
  (env.kindOf x = some .local ∧ ∃ m, h.Ns env.locals m ∧ m x = some v) ∨ (env.kindOf x = some .cell ∧ ∃ c, env.cells.lookup x = some c ∧ h.IsCell c (some v))
theorem NameAt.kp {env : Env} {h h' : Heap} {x : Str} {v : Value} (n : NameAt env h x v) (k : Kp h h') : NameAt env h' x v :=
  n.elim (fun ⟨a, m, b, c⟩ => .inl ⟨a, m, b.keeps k, c⟩) fun ⟨a, c, b, d⟩ => .inr ⟨a, c, b, d.keeps k⟩

structure Cx (P : PC) (l : Lv) (A : Around) (env : Env) (names : List Str) (S : Sx) (ρ : List Addr) (loc : List (Option AV)) (H : AH) (s : Shared) : Prop where
  aok : Aok l A
  gok : GOk P s.heap
  pp : S.prog = P.prog
  pw : S.w = P.w
  sd : SD S s.heap
  sim : HSim S ρ H s.heap
  loc : ∀ (i : Nat) (x : Str) (v : AV), names[i]? = some x → loc[i]?.join = some v → ∃ rv, NameAt env s.heap x rv ∧ VRel S ρ s.heap v rv
theorem Cx.kp {P : PC} {l : Lv} {A : Around} {env : Env} {names : List Str} {S : Sx} {ρ e : List Addr} {loc : List (Option AV)} {H G : AH} {s : Shared} {h' : Heap} {tk : Nat} (C : Cx P l A env names S ρ loc H s)
    (k : Kp s.heap h') (f : Fresh s.heap e) (X : HSim S (ρ ++ e) (H ++ G) h') : Cx P l A env names S (ρ ++ e) loc (H ++ G) { s with heap := h', toks := tk } where
  aok := C.aok
  gok := C.gok.kp k
  pp := C.pp
  pw := C.pw
  sd := C.sd.kp k
  sim := X
  loc := fun i x v en e => let ⟨rv, h2, h3⟩ := C.loc i x v en e; ⟨rv, h2.kp k, h3.kp k f⟩

/-- E takes what a call raises -/
noncomputable def ExOk (P : PC) (A : Around) (X : Str → Prop) (E : Value → Shared → Prop) (s : Shared) : Prop :=
  ∀ h tk e s', Kp s.heap h → ExcC P A { s with heap := h, toks := tk } X e s' → E e s'
theorem ExOk.kp {P : PC} {A : Around} {X : Str → Prop} {E : Value → Shared → Prop} {s : Shared} {h' : Heap} {tk : Nat} (x : ExOk P A X E s) (k : Kp s.heap h') : ExOk P A X E { s with heap := h', toks := tk } :=
  fun h tk' e s' k' q => x h tk' e s' (k.trans k') q

noncomputable def EvOk (P : PC) (l : Lv) (env : Env) (names : List Str) (e : PySem.Expr) (c : CE) : Prop :=
  ∀ (A : Around) (S : Sx) (ρ : List Addr) (loc : List (Option AV)) (H : AH) (s : Shared) (Q : AV → AH → Prop) (X : Str → Prop) (E : Value → Shared → Prop),
    Cx P l A env names S ρ loc H s → ExOk P A X E s → wpE P l X c loc H Q → wpAny (model P.prog P.w) A (eval e env) (EP S ρ H s Q) E s

/-- several values -/
noncomputable def EPs (S : Sx) (ρ : List Addr) (H : AH) (s : Shared) (Q : List AV → AH → Prop) (xs : List Value) (s' : Shared) : Prop :=
  ∃ h' tk e vs G, s' = { s with heap := h', toks := tk } ∧ Kp s.heap h' ∧ Fresh s.heap e ∧ HSim S (ρ ++ e) (H ++ G) h' ∧ VRels S (ρ ++ e) h' vs xs ∧ Q vs (H ++ G)
theorem EPs.then {M : Model} {A : Around} {S : Sx} {ρ : List Addr} {H : AH} {s : Shared} {Q : List AV → AH → Prop} {m : Sem (List Value)} {Q' : List Value → Shared → Prop} {E : Value → Shared → Prop} (h : wpAny M A m (EPs S ρ H s Q) E s)
    (k : ∀ y h' tk e v G, Kp s.heap h' → Fresh s.heap e → HSim S (ρ ++ e) (H ++ G) h' → VRels S (ρ ++ e) h' v y → Q v (H ++ G) → Q' y { s with heap := h', toks := tk }) : wpAny M A m Q' E s :=
  wpAny_mono h (fun _ _ hy => by
    obtain ⟨_, _, _, _, _, rfl, a, b, c, d, q⟩ := hy
    exact k _ _ _ _ _ _ a b c d q) fun _ _ y => y

section
variable {P : PC} {l : Lv} {A : Around} {env : Env} {names : List Str} {S : Sx} {ρ : List Addr} {loc : List (Option AV)} {H : AH} {s : Shared} {X : Str → Prop} {E : Value → Shared → Prop}

theorem fresh_trans {h h₁ : Heap} {e e' : List Addr} (k : Kp h h₁) (f : Fresh h e) (f' : Fresh h₁ e') : Fresh h (e ++ e') := fun a ha => by
  rcases List.mem_append.mp ha with q | q
  · exact f a q
  · cases q0 : h.get? a with
    | none => rfl
    | some o => have := f' a q; rw [k a o q0] at this; cases this

theorem not_starred {nt : NT} {n : Nat} {kd : Str → Option NameKind} {e : PySem.Expr} {c : CE} (h : compE nt n kd names e = some c) (rest : List PySem.Expr) : starEach (e :: rest) env = (false, eval e env) :: starEach rest env := by
  cases n with
  | zero => cases h
  | succ n => cases e <;> first | rfl | cases h
theorem not_marks {nt : NT} {n : Nat} {kd : Str → Option NameKind} {e : PySem.Expr} {c : CE} (h : compE nt n kd names e = some c) (op : CmpOp) : behindInMarks op e = false := by
  cases n with
  | zero => cases h
  | succ n => cases e <;> first | rfl | cases h

theorem allSome_cons {α β : Type} {f : α → Option β} {x : α} {r : List α} {l : List β} (h : allSome ((x :: r).map f) = some l) : ∃ a t, f x = some a ∧ allSome (r.map f) = some t ∧ l = a :: t := by
  rw [List.map_cons] at h
  cases e : f x with
  | none => rw [e] at h; cases h
  | some a =>
    rw [e] at h
    simp only [allSome] at h
    cases e' : allSome (r.map f) with
    | none => rw [e'] at h; cases h
    | some t => rw [e'] at h; cases h; exact ⟨a, t, rfl, rfl, rfl⟩

theorem args_ok {nt : NT} {n : Nat} {kd : Str → Option NameKind} {pos : Pos} (ih : ∀ (e : PySem.Expr) (c : CE), compE nt n kd names e = some c → EvOk P l env names e c) :
    ∀ (es : List PySem.Expr) (cs : List CE), allSome (es.map (compE nt n kd names)) = some cs → ∀ {ρ : List Addr} {H : AH} {s : Shared} {Q : List AV → AH → Prop}, Cx P l A env names S ρ loc H s → ExOk P A X E s → wpEs P l X cs loc H Q →
      wpAny (model P.prog P.w) A (spliced (backTo pos (starEach es env))) (EPs S ρ H s Q) E s
  | [], _, hc, ρ, H, s, Q, C, hE, h => by
    cases hc
    exact args_nil ⟨s.heap, s.toks, [], [], [], rfl, Kp.refl _, Fresh.nil _, by simpa using C.sim, .nil, by simpa [w_nil, w_cons] using h⟩
  | e :: r, cs, hc, ρ, H, s, Q, C, hE, h => by
    obtain ⟨a, t, e1, e2, rfl⟩ := allSome_cons hc
    refine args_cons (EP.then (ih e a e1 A S ρ loc H s _ X E C hE h) fun x h1 tk1 n1 v1 G1 k1 f1 X1 V1 q1 => ?_) (not_starred e1 r)
    refine EPs.then (args_ok ih r t e2 (C.kp k1 f1 X1) (hE.kp k1) q1) fun xs h2 tk2 n2 vs G2 k2 f2 X2 V2 q2 => ?_
    exact ⟨h2, tk2, n1 ++ n2, v1 :: vs, G1 ++ G2, rfl, k1.trans k2, fresh_trans k1 f1 f2, by simpa [List.append_assoc] using X2, by simpa [List.append_assoc] using VRels.cons (V1.kp k2 f2) V2, by simpa [List.append_assoc] using q2⟩

theorem name_ok (ho : EnvOk env) {x : Str} {p : Pos} {i : Nat} (e : slotOf env.kindOf names x = some i) : EvOk P l env names (.Name x p) (.var i) := by
  intro A S ρ loc H s Q X E C hE h
  unfold slotOf at e
  split at e
  · rename_i hc
    simp at hc
    simp only [w_const, w_var, w_bin, w_neg, w_not, w_and, w_or, w_cmp, w_chain, w_idx, w_slc, w_tup, w_lst, w_dct, w_call, w_prim, w_isin, w_isown, w_meth, w_comp] at h
    obtain ⟨v, ev, q⟩ := opt_of h
    obtain ⟨rv, h2, h3⟩ := C.loc i x v (idxOf_get e) ev
    have hd : (x == ("__debug__" : Str)) = false := by simpa using hc.2
    rcases h2 with ⟨hk, m, hn, hm⟩ | ⟨hk, c, hc', hm⟩
    · exact wpAny_Name (wpAny_loadName_local ho.1 hk hn hm (EP.val0 C.sim h3 q)) hd
    · exact wpAny_Name (wpAny_loadName_cell ho.1 hk hc' hm (EP.val0 C.sim h3 q)) hd
  · cases e
theorem glob_ok (ho : EnvOk env) {x : Str} {p : Pos} {v : AV} (e : isGlob env.kindOf x = true) (ec : P.nt.consts.lookup x = some v) : EvOk P l env names (.Name x p) (.const v) := by
  intro A S ρ loc H s Q X E C hE h
  unfold isGlob at e
  simp at e
  obtain ⟨rv, e1, V⟩ := C.gok.cst x v ec
  have hd : (x == ("__debug__" : Str)) = false := by simpa using e.2
  exact Calls.Name_function_global ho.1 e.1 (Calls.loadGlobal_global (by rw [ho.2.1]; exact C.gok.g) e1 (EP.val0 C.sim (V _ _ _) h)) hd
/-- a built-in's name -/
theorem bi_ok (ho : EnvOk env) {x : Str} {p : Pos} {v : Value} {Q : Value → Shared → Prop} (C : GOk P s.heap) (e : isGlob env.kindOf x = true) (eb : biOf x = some v) (h : Q v s) : wpAny (model P.prog P.w) A (eval (.Name x p) env) Q E s := by
  unfold isGlob at e
  simp at e
  have hd : (x == ("__debug__" : Str)) = false := by simpa using e.2
  have q := C.bi x v eb
  exact Calls.Name_function_global ho.1 e.1 (Calls.loadGlobal_builtin (by rw [ho.2.1]; exact C.g) q.1 (by rw [ho.2.2.1]; exact C.b) q.2 h) hd
end

open PySem PyProof.Rows PySem.SeqAt
section
variable {P : PC} {l : Lv} {A : Around} {env : Env} {names : List Str} {S : Sx} {ρ : List Addr} {loc : List (Option AV)} {H : AH} {s : Shared} {X : Str → Prop} {E : Value → Shared → Prop} {Q : AV → AH → Prop}

theorem const_ok {c : Const} {v : AV} {k : Nat} {p : Pos} (e : constOf c = some v) : EvOk P l env names (.Constant c k p) (.const v) := by
  intro A S ρ loc H s Q X E C hE h
  rw [eval_Constant]
  simp only [w_const, w_var, w_bin, w_neg, w_not, w_and, w_or, w_cmp, w_chain, w_idx, w_slc, w_tup, w_lst, w_dct, w_call, w_prim, w_isin, w_isown, w_meth, w_comp] at h
  cases c <;> simp [constOf] at e <;> subst e
  · exact wpAny_pure (EP.val0 C.sim .none h)
  · exact wpAny_pure (EP.val0 C.sim (.bool _) h)
  · exact wpAny_mkInt (EP.val C.sim (.int _ _) h _)
  · exact wpAny_mkText (EP.val C.sim (.str _ _) h _)

/-- two expressions, one behind the other -/
theorem two_ok {a b : PySem.Expr} {c d : CE} {R : AV → AV → AH → Prop} {t : Value → Value → Sem Value} (ia : EvOk P l env names a c) (ib : EvOk P l env names b d) (C : Cx P l A env names S ρ loc H s) (hE : ExOk P A X E s)
    (h : wpE P l X c loc H fun v H₁ => wpE P l X d loc H₁ fun u H₂ => R v u H₂)
    (fin : ∀ {ρ' : List Addr} {H' : AH} {s' : Shared} {v u : AV} {x y : Value}, Cx P l A env names S ρ' loc H' s' → VRel S ρ' s'.heap v x → VRel S ρ' s'.heap u y → R v u H' → wpAny (model P.prog P.w) A (t x y) (EP S ρ' H' s' Q) E s') :
    wpAny (model P.prog P.w) A (eval a env) (fun x s₁ => wpAny (model P.prog P.w) A (eval b env) (fun y s₂ => wpAny (model P.prog P.w) A (t x y) (EP S ρ H s Q) E s₂) E s₁) E s := by
  refine EP.then (ia A S ρ loc H s _ X E C hE h) fun x h1 tk1 n1 v1 G1 k1 f1 X1 V1 q1 => ?_
  refine EP.then (ib A S _ loc _ _ _ X E (C.kp k1 f1 X1) (hE.kp k1) q1) fun y h2 tk2 n2 v2 G2 k2 f2 X2 V2 q2 => ?_
  refine wpAny_mono (fin ((C.kp (tk := tk1) k1 f1 X1).kp (tk := tk2) k2 f2 X2) (V1.kp k2 f2) V2 q2) (fun z s₃ hz => EP.after k1 f1 (EP.after k2 f2 hz)) fun _ _ y => y

theorem bin_ok {a b : PySem.Expr} {op : Operator} {p : Pos} {c d : CE} (ia : EvOk P l env names a c) (ib : EvOk P l env names b d) : EvOk P l env names (.BinOp a op b p) (.bin op c d) := by
  intro A S ρ loc H s Q X E C hE h
  simp only [w_const, w_var, w_bin, w_neg, w_not, w_and, w_or, w_cmp, w_chain, w_idx, w_slc, w_tup, w_lst, w_dct, w_call, w_prim, w_isin, w_isown, w_meth, w_comp] at h
  exact wpAny_BinOp (two_ok (t := fun x y => binaryOp op x y) ia ib C hE h fun C' Va Vb q => opBin_ok op C'.sim C'.sd Va Vb q)
theorem units_ok {A : Around} (h : Aok l A) : A.units + 100 < cLine := by have := h.2.2; omega
theorem cmp_ok {a b : PySem.Expr} {op : CmpOp} {p : Pos} {c d : CE} (ia : EvOk P l env names a c) (ib : EvOk P l env names b d) (hm : behindInMarks op b = false) : EvOk P l env names (.Compare a [op] [b] p) (.cmp op c d) := by
  intro A S ρ loc H s Q X E C hE h
  simp only [w_const, w_var, w_bin, w_neg, w_not, w_and, w_or, w_cmp, w_chain, w_idx, w_slc, w_tup, w_lst, w_dct, w_call, w_prim, w_isin, w_isown, w_meth, w_comp] at h
  exact wpAny_Compare1 (two_ok (t := fun x y => compareOp op x y) ia ib C hE h fun C' Va Vb q => opCmp_ok op (units_ok C'.aok) C'.sim Va Vb q) hm
theorem neg_ok {a : PySem.Expr} {p : Pos} {c : CE} (ia : EvOk P l env names a c) : EvOk P l env names (.UnaryOp .USub a p) (.neg c) := by
  intro A S ρ loc H s Q X E C hE h
  simp only [w_const, w_var, w_bin, w_neg, w_not, w_and, w_or, w_cmp, w_chain, w_idx, w_slc, w_tup, w_lst, w_dct, w_call, w_prim, w_isin, w_isown, w_meth, w_comp] at h
  show wpAny _ A (do let v ← eval a env; standAt p; holding [v] (unaryOp .USub v)) _ _ s
  refine wpAny_bind (EP.then (ia A S ρ loc H s _ X E C hE h) fun x h1 tk1 n1 v1 G1 k1 f1 X1 V1 qz => ?_)
  obtain ⟨i, rfl, q⟩ := onInt_of qz
  cases V1
  refine wpAny_bind (wpAny_standAt (wpAny_holding (PySem.P.neg_int (EP.after (G := G1) (tk₁ := tk1) k1 f1 ?_))))
  exact EP.val X1 (.int _ _) q _
theorem unaryNot {M : Model} {A : Around} {b : Bool} {s : Shared} {Q : Value → Shared → Prop} (h : Q (.bool (!b)) s) : wpAny M A (unaryOp .Not (.bool b)) Q E s := by
  show wpAny M A (do return .bool (!(← truthy (.bool b)))) Q E s
  exact wpAny_bind (wpAny_truthy_bool (wpAny_pure h))
theorem not_ok {a : PySem.Expr} {p : Pos} {c : CE} (ia : EvOk P l env names a c) : EvOk P l env names (.UnaryOp .Not a p) (.not c) := by
  intro A S ρ loc H s Q X E C hE h
  simp only [w_const, w_var, w_bin, w_neg, w_not, w_and, w_or, w_cmp, w_chain, w_idx, w_slc, w_tup, w_lst, w_dct, w_call, w_prim, w_isin, w_isown, w_meth, w_comp] at h
  show wpAny _ A (do let v ← eval a env; standAt p; holding [v] (unaryOp .Not v)) _ _ s
  refine wpAny_bind (EP.then (ia A S ρ loc H s _ X E C hE h) fun x h1 tk1 n1 v1 G1 k1 f1 X1 V1 qz => ?_)
  obtain ⟨i, rfl, q⟩ := onBool_of qz
  cases V1
  refine wpAny_bind (wpAny_standAt (wpAny_holding (unaryNot (EP.after k1 f1 (EP.val0 X1 (.bool _) q)))))

theorem subscripted_eq (slice : PySem.Expr) (o i : Value) : ∃ ops, subscripted slice false o i = operate ops (getItem o i) := by
  cases slice <;> first | exact ⟨_, rfl⟩ | skip
  rename_i lo hi st p
  cases st <;> exact ⟨_, rfl⟩
theorem idx_ok {a b : PySem.Expr} {p : Pos} {c d : CE} (ia : EvOk P l env names a c) (ib : EvOk P l env names b d) : EvOk P l env names (.Subscript a b p) (.idx c d) := by
  intro A S ρ loc H s Q X E C hE h
  simp only [w_const, w_var, w_bin, w_neg, w_not, w_and, w_or, w_cmp, w_chain, w_idx, w_slc, w_tup, w_lst, w_dct, w_call, w_prim, w_isin, w_isown, w_meth, w_comp] at h
  refine Subscript_ (two_ok (t := fun x y => subscriptTail a b x y) ia ib C hE h @fun _ _ _ _ _ x y C' Va Vb q => ?_)
  obtain ⟨hT, hg⟩ := getItem_ok (prog := P.prog) (w := P.w) (A := A) (E := E) C'.pp C'.pw C'.sim Va Vb q
  obtain ⟨ops, e⟩ := subscripted_eq b x y
  rcases hT with hT | hT | hT | hT
  · exact tail_any hT slot_list_getitem.lookup hg e
  · exact tail_any hT slot_tuple_getitem.lookup hg e
  · exact tail_any hT slot_dict_getitem.lookup hg e
  · exact tail_any hT slot_str_getitem.lookup hg e

/-- an expression that may be left out -/
theorem optE_ok {nt : NT} {n : Nat} {kd : Str → Option NameKind} {lo : Option PySem.Expr} {c : CE} (ih : ∀ (e : PySem.Expr) (c : CE), compE nt n kd names e = some c → EvOk P l env names e c)
    (e : (match lo with | some e => compE nt n kd names e | Option.none => some (.const .none)) = some c) (C : Cx P l A env names S ρ loc H s) (hE : ExOk P A X E s) (h : wpE P l X c loc H Q) :
    wpAny (model P.prog P.w) A (valueOrNone (evalOpt lo env)) (EP S ρ H s Q) E s := by
  cases lo with
  | none =>
    cases e
    simp only [w_const, w_var, w_bin, w_neg, w_not, w_and, w_or, w_cmp, w_chain, w_idx, w_slc, w_tup, w_lst, w_dct, w_call, w_prim, w_isin, w_isown, w_meth, w_comp] at h
    exact wpAny_pure (EP.val0 C.sim .none h)
  | some a => exact ih a c e A S ρ loc H s Q X E C hE h
theorem strSlice_ok {h : Heap} {g : Array GenState} {d : Drawn} {tk : Nat} {os : OsState} {x : Str} {t : Tok} {vl vu : Value} {lo hi : Option Int} {QQ : Value → Shared → Prop} (p1 : IsPart vl lo) (p2 : IsPart vu hi) (hs : x.length ≤ smallN)
    (hq : ∀ t' k, QQ (.str (Txt.slice x lo hi) t') ⟨h.push { cls := .type "slice", data := .fields #[vl, vu, .none] }, g, d, k, os⟩) :
    wpAny (model P.prog P.w) A (getItem (.str x t) (.ref h.objs.size)) QQ E ⟨h.push { cls := .type "slice", data := .fields #[vl, vu, .none] }, g, d, tk, os⟩ := by
  have hsz : x.length ≤ sizeLine := Nat.le_trans hs (by decide)
  have sl := Nat.le_trans (Txt.slice_le x lo hi) hsz
  cases p1 with
  | none =>
    cases p2 with
    | none => exact wpAny_getItem_str_slice (l := none) (u := none) (st := none) ⟨_, Heap.get?_push_size _ rfl, rfl, rfl⟩ rfl (post_val_or_str ⟨sl, hq⟩)
    | int j u => exact wpAny_getItem_str_slice (l := none) (u := some (j, u)) (st := none) ⟨_, Heap.get?_push_size _ rfl, rfl, rfl⟩ rfl (post_val_or_str ⟨sl, hq⟩)
  | int i u' =>
    cases p2 with
    | none => exact wpAny_getItem_str_slice (l := some (i, u')) (u := none) (st := none) ⟨_, Heap.get?_push_size _ rfl, rfl, rfl⟩ rfl (post_val_or_str ⟨sl, hq⟩)
    | int j u => exact wpAny_getItem_str_slice (l := some (i, u')) (u := some (j, u)) (st := none) ⟨_, Heap.get?_push_size _ rfl, rfl, rfl⟩ rfl (post_val_or_str ⟨sl, hq⟩)
theorem slc_ok {nt : NT} {n : Nat} {kd : Str → Option NameKind} {o : PySem.Expr} {lo hi st : Option PySem.Expr} {p p' : Pos} {c c1 c2 c3 : CE} (ih : ∀ (e : PySem.Expr) (c : CE), compE nt n kd names e = some c → EvOk P l env names e c)
    (e0 : compE nt n kd names o = some c) (e1 : compOpt (compE nt n kd names) lo = some c1)
    (e2 : compOpt (compE nt n kd names) hi = some c2) (e3 : compOpt (compE nt n kd names) st = some c3) :
    EvOk P l env names (.Subscript o (.Slice lo hi st p) p') (.slc c c1 c2 c3) := by
  intro A S ρ loc H s Q X E C hE h
  simp only [w_const, w_var, w_bin, w_neg, w_not, w_and, w_or, w_cmp, w_chain, w_idx, w_slc, w_tup, w_lst, w_dct, w_call, w_prim, w_isin, w_isown, w_meth, w_comp] at h
  refine Subscript_ (EP.then (ih o c e0 A S ρ loc H s _ X E C hE h) fun x h1 tk1 n1 v1 G1 k1 f1 X1 V1 q1 => ?_)
  have C1 := C.kp (tk := tk1) k1 f1 X1
  have E1 := hE.kp (tk := tk1) k1
  show wpAny _ A (do let l ← valueOrNone (evalOpt lo env); let u ← holding [l] (valueOrNone (evalOpt hi env)); let s ← holding [l, u] (valueOrNone (evalOpt st env)); newFields "slice" [l, u, s]) _ _ _
  refine wpAny_bind (EP.then (optE_ok ih e1 C1 E1 q1) fun vl h2 tk2 n2 v2 G2 k2 f2 X2 V2 q2 => ?_)
  have C2 := C1.kp (tk := tk2) k2 f2 X2
  have E2 := E1.kp (tk := tk2) k2
  refine wpAny_bind (wpAny_holding (EP.then (optE_ok ih e2 C2 E2 q2) fun vu h3 tk3 n3 v3 G3 k3 f3 X3 V3 q3 => ?_))
  have C3 := C2.kp (tk := tk3) k3 f3 X3
  have E3 := E2.kp (tk := tk3) k3
  refine wpAny_bind (wpAny_holding (EP.then (optE_ok ih e3 C3 E3 q3) fun vs h4 tk4 n4 v4 G4 k4 f4 X4 V4 q4 => ?_))
  refine wpAny_newObj_type ?_
  have W1 := ((V1.kp k2 f2).kp k3 f3).kp k4 f4
  have W2 := (V2.kp k3 f3).kp k4 f4
  have W3 := V3.kp k4 f4
  have D4 := (C3.kp (tk := tk4) k4 f4 X4).sd
  have fresh : h4.get? (h4.push { cls := .type "slice", data := .fields #[vl, vu, vs] }).objs.size = none := by
    cases q0 : h4.get? (h4.push { cls := .type "slice", data := .fields #[vl, vu, vs] }).objs.size with
    | none => rfl
    | some o => exact absurd (Heap.lt_size q0) (by simp)
  rcases opSlc_of q4 with ⟨ws, rfl, qt⟩ | ⟨zx, rfl, qs⟩ | ⟨ws, lo', hi', st', ei, hsm, el, eu, es, h0, q⟩
  · obtain ⟨a, rfl, rfl, rfl, ⟨a1, a2, a3⟩, q⟩ := slcT_of qt
    cases W1 with
    | tup ha hs hpt hv =>
      rename_i la items
      cases W2
      cases W3
      cases V4
      have e1' := hv.length
      simp only [Array.length_toList] at e1'
      have hsz : items.size ≤ sizeLine := by unfold smallN at a3; have : sizeLine = 2 ^ 24 := rfl; omega
      obtain ⟨m, hpt⟩ := hpt
      rename_i tt
      have ht : IsTup (h4.push { cls := .type "slice", data := .fields #[.int a tt, .none, .none] }) la items := ⟨_, Heap.get?_push_of_some _ hpt, rfl, _, rfl⟩
      obtain ⟨ops, eo⟩ := subscripted_eq (.Slice lo hi st p) (.ref la) (.ref h4.objs.size)
      obtain ⟨j, rfl⟩ := Int.eq_ofNat_of_zero_le (Int.le_trans (by decide) a1)
      refine tail_any ht.typeIs slot_tuple_getitem.lookup (getItem_tuple_from ht (Heap.IsSliceOf.new ..) (by omega) (by omega) ?_ hsz) eo
      refine EP.after (G := G1) (tk₁ := tk1) k1 f1 (EP.after (G := G2) (tk₁ := tk2) k2 f2 (EP.after (G := G3) (tk₁ := tk3) k3 f3 (EP.after (G := G4) (tk₁ := tk4) k4 f4 ?_)))
      exact EP.newT X4 D4 ((push_kp _ _).trans (push_kp _ _)) fresh ⟨0, Heap.get?_push_size _ rfl⟩ (by simpa using hv.drop j) q
  · obtain ⟨lo', hi', rfl, hsm, el, eu, q⟩ := slcS_of qs
    obtain ⟨t1, rfl⟩ := W1.ofStr
    cases V4
    obtain ⟨ops, eo⟩ := subscripted_eq (.Slice lo hi st p) (.str zx t1) (.ref h4.objs.size)
    refine tail_any (typeIs_str _ _ _) slot_str_getitem.lookup (strSlice_ok (optInt_part W2 el) (optInt_part W3 eu) hsm fun t' k' => ?_) eo
    refine EP.after (G := G1) (tk₁ := tk1) k1 f1 (EP.after (G := G2) (tk₁ := tk2) k2 f2 (EP.after (G := G3) (tk₁ := tk3) k3 f3 (EP.after (G := G4) (tk₁ := tk4) k4 f4 ?_)))
    exact EP.grow X4 (push_kp _ _) (.str _ _) q
  obtain ⟨la, items, rfl, hl, vv⟩ := items_real X4 W1 ei
  have hl' : Heap.PlainList (h4.push { cls := .type "slice", data := .fields #[vl, vu, vs] }) la items := PlainList.at' hl fun o e => Heap.get?_push_of_some _ e
  obtain ⟨ops, eo⟩ := subscripted_eq (.Slice lo hi st p) (.ref la) (.ref h4.objs.size)
  have e1' := vv.length
  simp only [Array.length_toList] at e1'
  have hsz : items.size ≤ sizeLine := by unfold smallN at hsm; have : sizeLine = 2 ^ 24 := rfl; omega
  refine tail_any (PL.isList hl').typeIs slot_list_getitem.lookup (wpAny_getItem_list_slice (hsz := hsz) (PL.isList hl') (Heap.IsSliceOf.new ..) (optInt_part W2 el) (optInt_part W3 eu) (optInt_part V4 es) h0 ?_) eo
  refine EP.after (G := G1) (tk₁ := tk1) k1 f1 (EP.after (G := G2) (tk₁ := tk2) k2 f2 (EP.after (G := G3) (tk₁ := tk3) k3 f3 (EP.after (G := G4) (tk₁ := tk4) k4 f4 ?_)))
  exact EP.newL X4 D4 ((push_kp _ _).trans (push_kp _ _)) fresh ⟨0, Heap.get?_push_size _ rfl⟩ (vv.slPick lo' hi' st') q

theorem tup_ok {nt : NT} {n : Nat} {kd : Str → Option NameKind} {es : List PySem.Expr} {k : Nat} {p : Pos} {cs : List CE} (ih : ∀ (e : PySem.Expr) (c : CE), compE nt n kd names e = some c → EvOk P l env names e c)
    (e : allSome (es.map (compE nt n kd names)) = some cs) : EvOk P l env names (.Tuple es k p) (.tup cs) := by
  intro A S ρ loc H s Q X E C hE h
  simp only [w_const, w_var, w_bin, w_neg, w_not, w_and, w_or, w_cmp, w_chain, w_idx, w_slc, w_tup, w_lst, w_dct, w_call, w_prim, w_isin, w_isown, w_meth, w_comp] at h
  refine Tuple_ (EPs.then (args_ok ih es cs e C hE h) fun xs h1 tk1 n1 vs G1 k1 f1 X1 V1 qq => ?_)
  obtain ⟨hsm, q1⟩ := qq
  have e1 := V1.length
  refine wpAny_newObj_type (EP.after k1 f1 (EP.pushT (items := xs.toArray) X1 (C.kp (tk := tk1) k1 f1 X1).sd (by simpa using V1) q1 tk1)) ?_
  show xs.toArray.size ≤ sizeLine
  unfold smallN at hsm; have : sizeLine = 2 ^ 24 := rfl; simp only [List.size_toArray]; omega
theorem lst_ok {nt : NT} {n : Nat} {kd : Str → Option NameKind} {es : List PySem.Expr} {p : Pos} {cs : List CE} (ih : ∀ (e : PySem.Expr) (c : CE), compE nt n kd names e = some c → EvOk P l env names e c)
    (e : allSome (es.map (compE nt n kd names)) = some cs) : EvOk P l env names (.List es p) (.lst cs) := by
  intro A S ρ loc H s Q X E C hE h
  simp only [w_const, w_var, w_bin, w_neg, w_not, w_and, w_or, w_cmp, w_chain, w_idx, w_slc, w_tup, w_lst, w_dct, w_call, w_prim, w_isin, w_isown, w_meth, w_comp] at h
  refine List_ (EPs.then (args_ok ih es cs e C hE h) fun xs h1 tk1 n1 vs G1 k1 f1 X1 V1 qq => ?_)
  obtain ⟨hsm, q1⟩ := qq
  have e1 := V1.length
  refine wpAny_newObj_type (EP.after k1 f1 (EP.pushL (items := xs.toArray) X1 (C.kp (tk := tk1) k1 f1 X1).sd (by simpa using V1) q1 tk1)) ?_
  show xs.toArray.size ≤ sizeLine
  unfold smallN at hsm; have : sizeLine = 2 ^ 24 := rfl; simp only [List.size_toArray]; omega

/-- a truth value -/
noncomputable def BP (S : Sx) (ρ : List Addr) (H : AH) (s : Shared) (K : Bool → AH → Prop) (b : Bool) (s' : Shared) : Prop :=
  ∃ h' tk e G, s' = { s with heap := h', toks := tk } ∧ Kp s.heap h' ∧ Fresh s.heap e ∧ HSim S (ρ ++ e) (H ++ G) h' ∧ K b (H ++ G)
theorem BP.then {M : Model} {A : Around} {S : Sx} {ρ : List Addr} {H : AH} {s : Shared} {Q : Bool → AH → Prop} {m : Sem Bool} {Q' : Bool → Shared → Prop} {E : Value → Shared → Prop} (h : wpAny M A m (BP S ρ H s Q) E s)
    (k : ∀ y h' tk e G, Kp s.heap h' → Fresh s.heap e → HSim S (ρ ++ e) (H ++ G) h' → Q y (H ++ G) → Q' y { s with heap := h', toks := tk }) : wpAny M A m Q' E s :=
  wpAny_mono h (fun _ _ hy => by
    obtain ⟨_, _, _, _, rfl, a, b, c, q⟩ := hy
    exact k _ _ _ _ _ a b c q) fun _ _ y => y
theorem BP.after {h₁ : Heap} {tk₁ : Nat} {e : List Addr} {G : AH} {s₂ : Shared} {K : Bool → AH → Prop} {b : Bool} (hk : Kp s.heap h₁) (hf : Fresh s.heap e)
    (h : BP S (ρ ++ e) (H ++ G) { s with heap := h₁, toks := tk₁ } K b s₂) : BP S ρ H s K b s₂ := by
  obtain ⟨h', tk, e', G', rfl, k', f', X', q'⟩ := h
  exact ⟨h', tk, e ++ e', G ++ G', rfl, hk.trans k', fresh_trans hk hf f', by simpa [List.append_assoc] using X', by simpa [List.append_assoc] using q'⟩
noncomputable def isB (K : Bool → AH → Prop) (v : AV) (H : AH) : Prop := onBool v fun b => K b H
theorem EP.toB {K : Bool → AH → Prop} {x : Value} {s' : Shared} (h : EP S ρ H s (isB K) x s') : ∃ b, x = .bool b ∧ BP S ρ H s K b s' := by
  obtain ⟨h1, tk1, n1, v1, G1, rfl, k1, f1, X1, V1, qz⟩ := h
  obtain ⟨b, rfl, q⟩ := onBool_of qz
  cases V1
  exact ⟨b, rfl, h1, tk1, n1, G1, rfl, k1, f1, X1, q⟩
noncomputable def TrOk (P : PC) (l : Lv) (env : Env) (names : List Str) (e : PySem.Expr) (c : CE) : Prop :=
  ∀ (A : Around) (S : Sx) (ρ : List Addr) (loc : List (Option AV)) (H : AH) (s : Shared) (K : Bool → AH → Prop) (X : Str → Prop) (E : Value → Shared → Prop),
    Cx P l A env names S ρ loc H s → ExOk P A X E s → wpE P l X c loc H (isB K) → wpAny (model P.prog P.w) A (isTrue e env (eval e env)) (BP S ρ H s K) E s
/-- most tests are a value and its truth -/
theorem tr_plain {e : PySem.Expr} {c : CE} (he : EvOk P l env names e c) (hi : isTrue e env (eval e env) = (do let v ← eval e env; standAt e.pos; holding [v] (truthy v))) : TrOk P l env names e c := by
  intro A S ρ loc H s K X E C hE h
  rw [hi]
  refine wpAny_bind (wpAny_mono (he A S ρ loc H s _ X E C hE h) (fun x s₁ hx => ?_) fun _ _ y => y)
  obtain ⟨b, rfl, q⟩ := hx.toB
  exact wpAny_bind (wpAny_standAt (wpAny_holding (wpAny_truthy_bool q)))
theorem tr_not {a : PySem.Expr} {p : Pos} {c : CE} (ia : TrOk P l env names a c) : TrOk P l env names (.UnaryOp .Not a p) (.not c) := by
  intro A S ρ loc H s K X E C hE h
  simp only [w_const, w_var, w_bin, w_neg, w_not, w_and, w_or, w_cmp, w_chain, w_idx, w_slc, w_tup, w_lst, w_dct, w_call, w_prim, w_isin, w_isown, w_meth, w_comp, isB] at h
  show wpAny _ A (do return !(← isTrue a env (eval a env))) _ _ s
  refine wpAny_bind (wpAny_mono (ia A S ρ loc H s (fun b H' => K (!b) H') X E C hE ?_) (fun b s₁ hb => wpAny_pure hb) fun _ _ y => y)
  exact h
theorem tr_cmp {a b : PySem.Expr} {op : CmpOp} {p : Pos} {c d : CE} (ia : EvOk P l env names a c) (ib : EvOk P l env names b d) (hm : behindInMarks op b = false) : TrOk P l env names (.Compare a [op] [b] p) (.cmp op c d) := by
  intro A S ρ loc H s K X E C hE h
  simp only [w_const, w_var, w_bin, w_neg, w_not, w_and, w_or, w_cmp, w_chain, w_idx, w_slc, w_tup, w_lst, w_dct, w_call, w_prim, w_isin, w_isown, w_meth, w_comp] at h
  refine wpAny_isTrue_Compare1 ?_ hm
  refine wpAny_mono (two_ok (Q := isB K) (t := fun x y => compareOp op x y) ia ib C hE h fun C' Va Vb q => opCmp_ok op (units_ok C'.aok) C'.sim Va Vb q) (fun x s₁ hx => wpAny_mono hx (fun y s₂ hy => wpAny_mono hy (fun z s₃ hz => ?_) fun _ _ y => y) fun _ _ y => y) fun _ _ y => y
  obtain ⟨t, rfl, q⟩ := hz.toB
  exact wpAny_truthy_bool q
end

open PySem PyProof.Rows PySem.SeqAt
section
variable {P : PC} {l : Lv} {A : Around} {env : Env} {names : List Str} {S : Sx} {ρ : List Addr} {loc : List (Option AV)} {H : AH} {s : Shared} {X : Str → Prop} {E : Value → Shared → Prop} {Q : AV → AH → Prop}

theorem wpAny_release' {M : Model} {A : Around} {vs keep : List Value} {s : Shared} {Q : Unit → Shared → Prop} (h : Q () s) : wpAny M A (release vs keep) Q E s := fun Γ p hΓ => by rw [Sem.wp_release]; exact h
theorem marked2 {op1 op2 : CmpOp} {m r : PySem.Expr} (h : behindInMarks op2 r = false) : markedEach [op1, op2] [m, r] (evalEach [m, r] env) = [eval m env, eval r env] := by
  show [eval m env, markedBehindIn op2 r (eval r env)] = _
  rw [markedBehindIn_of_false h]
/-- the first two of a chain -/
theorem chain_start {a b : PySem.Expr} {op1 : CmpOp} {c d : CE} {R : AV → Bool → AH → Prop} (ia : EvOk P l env names a c) (ib : EvOk P l env names b d) (C : Cx P l A env names S ρ loc H s) (hE : ExOk P A X E s) {α : Type} {QQ : α → Shared → Prop} {t : Value → Value → Sem α}
    (h : wpE P l X c loc H fun v H₁ => wpE P l X d loc H₁ fun u H₂ => opCmp op1 v u H₂ (isB (R u)))
    (fin : ∀ {ρ' : List Addr} {H' : AH} {h' : Heap} {tk : Nat} {u : AV} {y : Value} {z : Bool} {e : List Addr} {G : AH}, ρ' = ρ ++ e → H' = H ++ G → Kp s.heap h' → Fresh s.heap e → Cx P l A env names S ρ' loc H' { s with heap := h', toks := tk } → ExOk P A X E { s with heap := h', toks := tk } → VRel S ρ' h' u y → R u z H' →
      wpAny (model P.prog P.w) A (t y (.bool z)) QQ E { s with heap := h', toks := tk }) :
    wpAny (model P.prog P.w) A (eval a env) (fun x s₁ => wpAny (model P.prog P.w) A (eval b env) (fun y s₂ => wpAny (model P.prog P.w) A (compareOp op1 x y) (fun z s₃ => wpAny (model P.prog P.w) A (t y z) QQ E s₃) E s₂) E s₁) E s := by
  refine EP.then (ia A S ρ loc H s _ X E C hE h) fun x h1 tk1 n1 v1 G1 k1 f1 X1 V1 q1 => ?_
  have C1 := C.kp (tk := tk1) k1 f1 X1
  refine EP.then (ib A S _ loc _ _ _ X E C1 (hE.kp k1) q1) fun y h2 tk2 n2 v2 G2 k2 f2 X2 V2 q2 => ?_
  have C2 := C1.kp (tk := tk2) k2 f2 X2
  refine EP.then (opCmp_ok op1 (units_ok C.aok) X2 (V1.kp k2 f2) V2 q2) fun z h3 tk3 n3 v3 G3 k3 f3 X3 V3 qz => ?_
  obtain ⟨b, rfl, q3⟩ := onBool_of qz
  cases V3
  have C3 := C2.kp (tk := tk3) k3 f3 X3
  refine fin (e := n1 ++ n2 ++ n3) (G := G1 ++ G2 ++ G3) (by simp [List.append_assoc]) (by simp [List.append_assoc]) ((k1.trans k2).trans k3) (fresh_trans (k1.trans k2) (fresh_trans k1 f1 f2) f3) C3 (((hE.kp (tk := tk1) k1).kp (tk := tk2) k2).kp k3) (V2.kp k3 f3) q3
theorem chain_ok {a b r : PySem.Expr} {op1 op2 : CmpOp} {p : Pos} {c d f : CE} (ia : EvOk P l env names a c) (ib : EvOk P l env names b d) (ir : EvOk P l env names r f) (hm : behindInMarks op2 r = false) : EvOk P l env names (.Compare a [op1, op2] [b, r] p) (.chain op1 op2 c d f) := by
  intro A S ρ loc H s Q X E C hE h
  simp only [w_const, w_var, w_bin, w_neg, w_not, w_and, w_or, w_cmp, w_chain, w_idx, w_slc, w_tup, w_lst, w_dct, w_call, w_prim, w_isin, w_isown, w_meth, w_comp] at h
  show wpAny _ A (do compareChain p (← eval a env) [op1, op2] (markedEach [op1, op2] [b, r] (evalEach [b, r] env))) _ _ s
  rw [marked2 hm]
  refine wpAny_bind (wpAny_mono (chain_start (t := fun y z => do release [y, y] [z]; if ← holding [z, y] (truthy z) then compareChain p y [op2] [eval r env] else pure z) (QQ := EP S ρ H s Q) ia ib C hE (R := fun u t H₃ => if t = true then wpE P l X f loc H₃ fun z H₄ => opCmp op2 u z H₄ Q else Q (.bool false) H₃) h ?_) (fun x s₁ hx => ?_) fun _ _ y => y)
  · intro ρ' H' h' tk u y z e G e1 e2 k fr C' E' V q
    subst e1 e2
    refine wpAny_bind (wpAny_release' (wpAny_bind (wpAny_holding (wpAny_truthy_bool ?_))))
    cases z with
    | false => exact wpAny_pure (EP.after k fr (EP.val0 C'.sim (.bool _) (by simpa using q)))
    | true =>
      simp only [if_true] at q ⊢
      show wpAny _ A (do let rv ← holding [y] (eval r env); standAt p; operate [y, rv] (compareOp op2 y rv)) _ _ _
      refine wpAny_bind (wpAny_holding (EP.then (ir A S _ loc _ _ _ X E C' E' q) fun x h1 tk1 n1 v1 G1 k1 f1 X1 V1 q1 => ?_))
      refine wpAny_bind (wpAny_standAt (wpAny_operating (wpAny_mono (opCmp_ok op2 (units_ok C.aok) X1 (V.kp k1 f1) V1 q1) (fun z s₃ hz => ?_) fun _ _ y => y)))
      exact EP.after k fr (EP.after k1 f1 hz)
  · show wpAny _ A (do let rv ← holding [x] (eval b env); standAt p; let c ← holding [x, rv] (compareOp op1 x rv); release [x, rv] [c]; if ← holding [c, rv] (truthy c) then compareChain p rv [op2] [eval r env] else pure c) _ _ s₁
    refine wpAny_bind (wpAny_holding (wpAny_mono hx (fun y s₂ hy => wpAny_bind (wpAny_standAt (wpAny_bind (wpAny_holding (wpAny_mono hy (fun z s₃ hz => ?_) fun _ _ y => y))))) fun _ _ y => y))
    refine wpAny_bind (wpAny_release' ?_)
    have := hz
    unfold wpAny at this ⊢
    intro Γ pp hΓ
    have q := this Γ pp hΓ
    simp only [Sem.wp_bind', Sem.wp_release, Sem.wp_holding] at q ⊢
    exact q
theorem tr_chain {a b r : PySem.Expr} {op1 op2 : CmpOp} {p : Pos} {c d f : CE} (ia : EvOk P l env names a c) (ib : EvOk P l env names b d) (ir : EvOk P l env names r f) (hm : behindInMarks op2 r = false) : TrOk P l env names (.Compare a [op1, op2] [b, r] p) (.chain op1 op2 c d f) := by
  intro A S ρ loc H s K X E C hE h
  simp only [w_const, w_var, w_bin, w_neg, w_not, w_and, w_or, w_cmp, w_chain, w_idx, w_slc, w_tup, w_lst, w_dct, w_call, w_prim, w_isin, w_isown, w_meth, w_comp] at h
  show wpAny _ A (do testChain p (← eval a env) [op1, op2] (markedEach [op1, op2] [b, r] (evalEach [b, r] env))) _ _ s
  rw [marked2 hm]
  refine wpAny_bind (wpAny_mono (chain_start (t := fun y z => do release [y, y] [z]; if ← holding [z, y] (truthy z) then testChain p y [op2] [eval r env] else pure false) (QQ := BP S ρ H s K) ia ib C hE (R := fun u t H₃ => if t = true then wpE P l X f loc H₃ fun z H₄ => opCmp op2 u z H₄ (isB K) else isB K (.bool false) H₃) h ?_) (fun x s₁ hx => ?_) fun _ _ y => y)
  · intro ρ' H' h' tk u y z e G e1 e2 k fr C' E' V q
    subst e1 e2
    refine wpAny_bind (wpAny_release' (wpAny_bind (wpAny_holding (wpAny_truthy_bool ?_))))
    cases z with
    | false =>
      have q' : isB K (.bool false) (H ++ G) := by simpa using q
      replace q' : K false (H ++ G) := q'
      exact wpAny_pure (BP.after (tk₁ := tk) k fr ⟨h', tk, [], [], rfl, Kp.refl _, Fresh.nil _, by simpa using C'.sim, by simpa using q'⟩)
    | true =>
      simp only [if_true] at q ⊢
      show wpAny _ A (do let rv ← holding [y] (eval r env); standAt p; let c ← operate [y, rv] (compareOp op2 y rv); holding [c] (truthy c)) _ _ _
      refine wpAny_bind (wpAny_holding (EP.then (ir A S _ loc _ _ _ X E C' E' q) fun x h1 tk1 n1 v1 G1 k1 f1 X1 V1 q1 => ?_))
      refine wpAny_bind (wpAny_standAt (wpAny_bind (wpAny_operating (wpAny_mono (opCmp_ok op2 (units_ok C.aok) X1 (V.kp k1 f1) V1 q1) (fun z s₃ hz => ?_) fun _ _ y => y))))
      obtain ⟨t, rfl, q⟩ := hz.toB
      exact wpAny_holding (wpAny_truthy_bool (BP.after k fr (BP.after k1 f1 q)))
  · show wpAny _ A (do let rv ← holding [x] (eval b env); standAt p; let c ← holding [x, rv] (compareOp op1 x rv); release [x, rv] [c]; if ← holding [c, rv] (truthy c) then testChain p rv [op2] [eval r env] else pure false) _ _ s₁
    refine wpAny_bind (wpAny_holding (wpAny_mono hx (fun y s₂ hy => wpAny_bind (wpAny_standAt (wpAny_bind (wpAny_holding (wpAny_mono hy (fun z s₃ hz => ?_) fun _ _ y => y))))) fun _ _ y => y))
    refine wpAny_bind (wpAny_release' ?_)
    have := hz
    unfold wpAny at this ⊢
    intro Γ pp hΓ
    have q := this Γ pp hΓ
    simp only [Sem.wp_bind', Sem.wp_release, Sem.wp_holding] at q ⊢
    exact q

theorem boolNest2 (op : BoolOp) (a b : CE) (r : List CE) : boolNest op (a :: b :: r) = (boolNest op (b :: r)).map (match op with | .And => CE.and a | .Or => CE.or a) := rfl
/-- and, or: the value -/
theorem bool_ok {nt : NT} {n : Nat} {kd : Str → Option NameKind} {pos : Pos} (op : BoolOp) (ih : ∀ (e : PySem.Expr) (c : CE), compE nt n kd names e = some c → EvOk P l env names e c) :
    ∀ (es : List PySem.Expr) (cs : List CE) (c : CE), allSome (es.map (compE nt n kd names)) = some cs → boolNest op cs = some c → ∀ {ρ : List Addr} {H : AH} {s : Shared} {Q : AV → AH → Prop}, Cx P l A env names S ρ loc H s → ExOk P A X E s → wpE P l X c loc H Q →
      wpAny (model P.prog P.w) A (boolOp pos op (evalEach es env)) (EP S ρ H s Q) E s
  | [], _, c, hc, hn, _, _, _, _, _, _, _ => by cases hc; cases hn
  | [e], _, c, hc, hn, ρ, H, s, Q, C, hE, h => by
    obtain ⟨a, t, e1, e2, rfl⟩ := allSome_cons hc
    cases e2
    cases hn
    exact ih e _ e1 A S ρ loc H s Q X E C hE h
  | e :: e' :: r, _, c, hc, hn, ρ, H, s, Q, C, hE, h => by
    obtain ⟨a, t, e1, e2, rfl⟩ := allSome_cons hc
    obtain ⟨a', t', e1', e2', rfl⟩ := allSome_cons e2
    rw [boolNest2] at hn
    cases q : boolNest op (a' :: t') with
    | none => rw [q] at hn; cases hn
    | some d =>
      have hn' := hn
      rw [q] at hn'
      show wpAny _ A (do let v ← eval e env; standAt pos; let t ← holding [v] (truthy v); match op, t with | .And, false | .Or, true => pure v | _, _ => boolOp pos op (evalEach (e' :: r) env)) _ _ s
      have tail := fun {ρ : List Addr} {H : AH} {s : Shared} {Q : AV → AH → Prop} => bool_ok (pos := pos) op ih (e' :: r) (a' :: t') d e2 q (ρ := ρ) (H := H) (s := s) (Q := Q)
      cases op with
      | And =>
        cases hn'
        simp only [w_const, w_var, w_bin, w_neg, w_not, w_and, w_or, w_cmp, w_chain, w_idx, w_slc, w_tup, w_lst, w_dct, w_call, w_prim, w_isin, w_isown, w_meth, w_comp] at h
        refine wpAny_bind (EP.then (ih e a e1 A S ρ loc H s _ X E C hE h) fun x h1 tk1 n1 v1 G1 k1 f1 X1 V1 qz => ?_)
        obtain ⟨b, rfl, q1⟩ := onBool_of qz
        cases V1
        refine wpAny_bind (wpAny_standAt (wpAny_bind (wpAny_holding (wpAny_truthy_bool ?_))))
        cases b with
        | false => exact wpAny_pure (EP.after k1 f1 (EP.val0 X1 (.bool _) (by simpa using q1)))
        | true => exact wpAny_mono (tail (C.kp (tk := tk1) k1 f1 X1) (hE.kp k1) (by simpa using q1)) (fun z s₂ hz => EP.after k1 f1 hz) fun _ _ y => y
      | Or =>
        cases hn'
        simp only [w_const, w_var, w_bin, w_neg, w_not, w_and, w_or, w_cmp, w_chain, w_idx, w_slc, w_tup, w_lst, w_dct, w_call, w_prim, w_isin, w_isown, w_meth, w_comp] at h
        refine wpAny_bind (EP.then (ih e a e1 A S ρ loc H s _ X E C hE h) fun x h1 tk1 n1 v1 G1 k1 f1 X1 V1 qz => ?_)
        obtain ⟨b, rfl, q1⟩ := onBool_of qz
        cases V1
        refine wpAny_bind (wpAny_standAt (wpAny_bind (wpAny_holding (wpAny_truthy_bool ?_))))
        cases b with
        | true => exact wpAny_pure (EP.after k1 f1 (EP.val0 X1 (.bool _) (by simpa using q1)))
        | false => exact wpAny_mono (tail (C.kp (tk := tk1) k1 f1 X1) (hE.kp k1) (by simpa using q1)) (fun z s₂ hz => EP.after k1 f1 hz) fun _ _ y => y
theorem BP.here {K : Bool → AH → Prop} {b : Bool} (X : HSim S ρ H s.heap) (q : K b H) : BP S ρ H s K b s := ⟨s.heap, s.toks, [], [], rfl, Kp.refl _, Fresh.nil _, by simpa using X, by simpa using q⟩
/-- and, or: the test -/
theorem tr_bool {nt : NT} {n : Nat} {kd : Str → Option NameKind} (op : BoolOp) (ih : ∀ (e : PySem.Expr) (c : CE), compE nt n kd names e = some c → TrOk P l env names e c) :
    ∀ (es : List PySem.Expr) (cs : List CE) (c : CE), allSome (es.map (compE nt n kd names)) = some cs → boolNest op cs = some c → ∀ {ρ : List Addr} {H : AH} {s : Shared} {K : Bool → AH → Prop}, Cx P l A env names S ρ loc H s → ExOk P A X E s → wpE P l X c loc H (isB K) →
      wpAny (model P.prog P.w) A (allTrue op es env) (BP S ρ H s K) E s
  | [], _, c, hc, hn, _, _, _, _, _, _, _ => by cases hc; cases hn
  | [e], _, c, hc, hn, ρ, H, s, K, C, hE, h => by
    obtain ⟨a, t, e1, e2, rfl⟩ := allSome_cons hc
    cases e2
    cases hn
    show wpAny _ A (do match op, ← isTrue e env (eval e env) with | .And, false => pure false | .Or, true => pure true | _, _ => allTrue op [] env) _ _ s
    refine wpAny_bind (wpAny_mono (ih e _ e1 A S ρ loc H s K X E C hE h) (fun b s₁ hb => ?_) fun _ _ y => y)
    cases op <;> cases b <;> exact wpAny_pure hb
  | e :: e' :: r, _, c, hc, hn, ρ, H, s, K, C, hE, h => by
    obtain ⟨a, t, e1, e2, rfl⟩ := allSome_cons hc
    obtain ⟨a', t', e1', e2', rfl⟩ := allSome_cons e2
    rw [boolNest2] at hn
    cases q : boolNest op (a' :: t') with
    | none => rw [q] at hn; cases hn
    | some d =>
      have hn' := hn
      rw [q] at hn'
      show wpAny _ A (do match op, ← isTrue e env (eval e env) with | .And, false => pure false | .Or, true => pure true | _, _ => allTrue op (e' :: r) env) _ _ s
      have tail := fun {ρ : List Addr} {H : AH} {s : Shared} {K : Bool → AH → Prop} => tr_bool op ih (e' :: r) (a' :: t') d e2 q (ρ := ρ) (H := H) (s := s) (K := K)
      cases op with
      | And =>
        cases hn'
        simp only [w_const, w_var, w_bin, w_neg, w_not, w_and, w_or, w_cmp, w_chain, w_idx, w_slc, w_tup, w_lst, w_dct, w_call, w_prim, w_isin, w_isown, w_meth, w_comp] at h
        refine wpAny_bind (BP.then (ih e a e1 A S ρ loc H s (fun b H₁ => if b = true then wpE P l X d loc H₁ (isB K) else isB K (.bool false) H₁) X E C hE h) fun b h1 tk1 n1 G1 k1 f1 X1 q1 => ?_)
        cases b with
        | false =>
          have q0 : isB K (.bool false) (H ++ G1) := by simpa using q1
          exact wpAny_pure (BP.after (tk₁ := tk1) k1 f1 (BP.here X1 q0))
        | true => exact wpAny_mono (tail (C.kp (tk := tk1) k1 f1 X1) (hE.kp k1) (by simpa using q1)) (fun z s₂ hz => BP.after k1 f1 hz) fun _ _ y => y
      | Or =>
        cases hn'
        simp only [w_const, w_var, w_bin, w_neg, w_not, w_and, w_or, w_cmp, w_chain, w_idx, w_slc, w_tup, w_lst, w_dct, w_call, w_prim, w_isin, w_isown, w_meth, w_comp] at h
        refine wpAny_bind (BP.then (ih e a e1 A S ρ loc H s (fun b H₁ => if b = true then isB K (.bool true) H₁ else wpE P l X d loc H₁ (isB K)) X E C hE h) fun b h1 tk1 n1 G1 k1 f1 X1 q1 => ?_)
        cases b with
        | true =>
          have q0 : isB K (.bool true) (H ++ G1) := by simpa using q1
          exact wpAny_pure (BP.after (tk₁ := tk1) k1 f1 (BP.here X1 q0))
        | false => exact wpAny_mono (tail (C.kp (tk := tk1) k1 f1 X1) (hE.kp k1) (by simpa using q1)) (fun z s₂ hz => BP.after k1 f1 hz) fun _ _ y => y
end

open PySem PyProof.Rows PySem.SeqAt
section
variable {P : PC} {l : Lv} {A : Around} {env : Env} {names : List Str} {S : Sx} {ρ : List Addr} {loc : List (Option AV)} {H : AH} {s : Shared} {X : Str → Prop} {E : Value → Shared → Prop} {Q : AV → AH → Prop}

theorem star_any {nt : NT} {n : Nat} {kd : Str → Option NameKind} {pos : Pos} : ∀ (es : List PySem.Expr) (cs : List CE), allSome (es.map (compE nt n kd names)) = some cs → (backTo pos (starEach es env)).any (·.1) = false
  | [], _, _ => rfl
  | e :: r, cs, h => by
    obtain ⟨a, t, e1, e2, rfl⟩ := allSome_cons h
    rw [not_starred e1 r]
    have := star_any (pos := pos) r t e2
    simpa [backTo] using this
theorem lookup_mem {α : Type} {x : Str} {v : α} : ∀ {l : List (Str × α)}, l.lookup x = some v → (x, v) ∈ l
  | [], h => by cases h
  | (y, u) :: r, h => by
    rw [List.lookup_cons] at h
    split at h
    · rename_i hy; cases h; simp at hy; subst hy; exact .head _
    · exact .tail _ (lookup_mem h)
theorem pr_bi {x : Str} {b : Pr} (h : prNames.lookup x = some b) : biOf x = some b.val := by
  have hm := lookup_mem h
  simp only [prNames, List.mem_cons, Prod.mk.injEq, List.not_mem_nil, or_false] at hm
  rcases hm with ⟨rfl, rfl⟩ | ⟨rfl, rfl⟩ | ⟨rfl, rfl⟩ | ⟨rfl, rfl⟩ | ⟨rfl, rfl⟩ | ⟨rfl, rfl⟩ | ⟨rfl, rfl⟩ | ⟨rfl, rfl⟩ | ⟨rfl, rfl⟩ | ⟨rfl, rfl⟩ <;> decide +kernel
theorem ty_bi {x : Str} {b : Ty} (h : tyNames.lookup x = some b) : biOf x = some (.type b.name) := by
  have hm := lookup_mem h
  simp only [tyNames, List.mem_cons, Prod.mk.injEq, List.not_mem_nil, or_false] at hm
  rcases hm with ⟨rfl, rfl⟩ | ⟨rfl, rfl⟩ | ⟨rfl, rfl⟩ | ⟨rfl, rfl⟩ | ⟨rfl, rfl⟩ <;> decide +kernel

theorem Ren.tup_inv {φ : List Nat} {H : AH} {vs ws : List AV} (r : Ren φ H (.tup vs) (.tup ws)) : Rens φ H vs ws := by cases r; assumption
theorem Ren.fl_inv {φ : List Nat} {H : AH} {vs ws : List AV} (r : Ren φ H (.fl vs) (.fl ws)) : Rens φ H vs ws := by cases r; assumption
theorem Ren.dict_inv {φ : List Nat} {H : AH} {ks : List Str} {vs ws : List AV} (r : Ren φ H (.dict ks vs) (.dict ks ws)) : Rens φ H vs ws := by cases r; assumption
theorem Ren.ref_inv {H : AH} {i j : Nat} (r : Ren [] H (.ref i) (.ref j)) : False := by cases r; rename_i h; simp at h
theorem Rens.cons_inv {φ : List Nat} {H : AH} {v w : AV} {vs ws : List AV} (r : Rens φ H (v :: vs) (w :: ws)) : Ren φ H v w ∧ Rens φ H vs ws := by cases r; constructor <;> assumption
/-- a value without lists that may change, seen from a callee -/
theorem VRel.pure {S : Sx} {ρ : List Addr} {H : AH} {h : Heap} {v : AV} {x : Value} (V : VRel S ρ h v x) : Ren [] H v v → VRel ⟨S.ad ++ ρ, S.prog, S.w⟩ [] h v x :=
  VRel.rec (motive_1 := fun v x _ => Ren [] H v v → VRel ⟨S.ad ++ ρ, S.prog, S.w⟩ [] h v x) (motive_2 := fun v x _ => Rens [] H v v → VRels ⟨S.ad ++ ρ, S.prog, S.w⟩ [] h v x)
    (fun _ => .none)
    (fun b _ => .bool b)
    (fun i t _ => .int i t)
    (fun x t _ => .str x t)
    (fun ha hs hi hv ih r => .tup (fun hm => nomatch hm) (fun hm => (List.mem_append.mp hm).elim hs ha) hi (ih r.tup_inv))
    (fun ha hs hi hv ih r => .fl (fun hm => nomatch hm) (fun hm => (List.mem_append.mp hm).elim hs ha) hi (ih r.fl_inv))
    (fun _ r => r.ref_inv.elim)
    (fun hr ha hs hi _ => .rng hr (fun hm => nomatch hm) (fun hm => (List.mem_append.mp hm).elim hs ha) hi)
    (fun ha hs hm he hv ih r => .dict (fun hm => nomatch hm) (fun hm => (List.mem_append.mp hm).elim hs ha) hm he (ih r.dict_inv))
    (fun ha hs hx _ => .exc (fun hm => nomatch hm) (fun hm => (List.mem_append.mp hm).elim hs ha) hx)
    (fun _ => .nil) (fun hv hr i1 i2 r => .cons (i1 r.cons_inv.1) (i2 r.cons_inv.2)) V
theorem VRels.pure {S : Sx} {ρ : List Addr} {H : AH} {h : Heap} {v : List AV} {x : List Value} (V : VRels S ρ h v x) : Rens [] H v v → VRels ⟨S.ad ++ ρ, S.prog, S.w⟩ [] h v x :=
  VRels.ind (M := fun v x => Rens [] H v v → VRels ⟨S.ad ++ ρ, S.prog, S.w⟩ [] h v x) (fun _ => .nil) (fun _ _ _ _ hv _ i2 r => .cons (VRel.pure hv r.cons_inv.1) (i2 r.cons_inv.2)) V
/-- a call's result, at the caller's -/
theorem call_here {f : Nat} {vs : List AV} {xs : List Value} {x : Str} {a : Addr} (C : Cx P l A env names S ρ loc H s) (hE : ExOk P A X E s) (hx : P.nt.fns[f]? = some x) (ha : P.mg x = some (.ref a)) (V : VRels S ρ s.heap vs xs) (h : CallP P l f vs H Q X) :
    wpAny (model P.prog P.w) A (call (.ref a) xs) (EP S ρ H s Q) E s := by
  obtain ⟨vs', R, hj⟩ := h
  by_cases hv : vs' = vs
  · subst hv
    refine wpAny_call (codeAny_mono (hj A s ⟨S.ad ++ ρ, S.prog, S.w⟩ xs x a C.aok C.gok hx ha C.pp C.pw (fun b hm => (List.mem_append.mp hm).elim (C.sd b) C.sim.mem) (V.pure R)) fun r s' hr => ?_)
    cases r with
    | error e => exact hE s.heap s.toks e s' (Kp.refl _) hr
    | ok fl =>
      obtain ⟨rv, h', tk, ρc, v, Hc, rfl, rfl, k, fr, Y, W, q0, q⟩ := hr
      have hA : ∀ a, a ∉ ρc → a ∉ (S.ad ++ ρ) → a ∉ ρ ∧ a ∉ S.ad := fun a _ h2 => ⟨fun q => h2 (List.mem_append_right _ q), fun q => h2 (List.mem_append_left _ q)⟩
      have Z := HSim.behind (Sc := ⟨S.ad ++ ρ, S.prog, S.w⟩) C.sim k fr C.sd rfl rfl Y (.inl hA)
      refine ⟨h', tk, ρc, v.shift H.length, Hc.map (AV.shifts H.length), rfl, k, fr, Z, ?_, q⟩
      rw [← C.sim.len]
      exact VRel.behind (S := S) (Sc := ⟨S.ad ++ ρ, S.prog, S.w⟩) rfl rfl hA (C.sim.kp k).noTuple (C.sim.kp k).listCls W
  · refine wpAny_call (codeAny_mono (hj A s S xs x a C.aok C.gok hx ha C.pp C.pw C.sd (V.frz C.sim R)) fun r s' hr => ?_)
    cases r with
    | error e => exact hE s.heap s.toks e s' (Kp.refl _) hr
    | ok fl =>
      obtain ⟨rv, h', tk, ρc, v, Hc, rfl, rfl, k, fr, Y, W, q0, q⟩ := hr
      have q1 := q0.resolve_left hv
      have Z := HSim.behind (Sc := S) C.sim k fr C.sd rfl rfl Y (.inr ⟨rfl, q1.2⟩)
      refine ⟨h', tk, ρc, v.shift H.length, Hc.map (AV.shifts H.length), rfl, k, fr, Z, ?_, q⟩
      rw [← C.sim.len]
      exact VRel.behindN (C.sim.kp k).noTuple (C.sim.kp k).listCls W q1.1

/-- a call of a def -/
theorem call_ok (ho : EnvOk env) {nt : NT} {n : Nat} {x : Str} {f : Nat} {p p' : Pos} {es : List PySem.Expr} {cs : List CE} (hnt : P.nt = nt) (ih : ∀ (e : PySem.Expr) (c : CE), compE nt n env.kindOf names e = some c → EvOk P l env names e c)
    (hg : isGlob env.kindOf x = true) (hf : idxOf x nt.fns = some f) (he : allSome (es.map (compE nt n env.kindOf names)) = some cs) (hne : cs.isEmpty = false) : EvOk P l env names (.Call (.Name x p) es [] p') (.call f cs) := by
  intro A S ρ loc H s Q X E C hE h
  simp only [w_const, w_var, w_bin, w_neg, w_not, w_and, w_or, w_cmp, w_chain, w_idx, w_slc, w_tup, w_lst, w_dct, w_call, w_prim, w_isin, w_isown, w_meth, w_comp] at h
  have hx : P.nt.fns[f]? = some x := by rw [hnt]; exact idxOf_get hf
  obtain ⟨a, o, ea, eo, fd, efd⟩ := C.gok.fn f x hx
  unfold isGlob at hg
  simp at hg
  have hd : (x == ("__debug__" : Str)) = false := by simpa using hg.2
  cases es with
  | nil => cases he; simp at hne
  | cons e r =>
  obtain ⟨c0, t0, e1, e2, rfl⟩ := allSome_cons he
  refine Call_ (Calls.Name_function_global ho.1 hg.1 (Calls.loadGlobal_global (by rw [ho.2.1]; exact C.gok.g) ea ?_) hd)
  refine callWith_def efd (EPs.then (args_ok ih (e :: r) (c0 :: t0) he C hE h.2) fun xs h1 tk1 n1 vs G1 k1 f1 X1 V1 q1 => ?_) (not_starred e1 r)
  refine ⟨k1 _ _ eo, wpAny_mono (call_here (C.kp (tk := tk1) k1 f1 X1) (hE.kp k1) hx ea V1 q1) (fun z s₂ hz => EP.after k1 f1 hz) fun _ _ y => y⟩
theorem prim_ok (ho : EnvOk env) {nt : NT} {n : Nat} {x : Str} {b : Pr} {p p' : Pos} {es : List PySem.Expr} {cs : List CE} (ih : ∀ (e : PySem.Expr) (c : CE), compE nt n env.kindOf names e = some c → EvOk P l env names e c)
    (hg : isGlob env.kindOf x = true) (hf : prNames.lookup x = some b) (he : allSome (es.map (compE nt n env.kindOf names)) = some cs) (hne : cs.isEmpty = false) : EvOk P l env names (.Call (.Name x p) es [] p') (.prim b cs) := by
  intro A S ρ loc H s Q X E C hE h
  simp only [w_const, w_var, w_bin, w_neg, w_not, w_and, w_or, w_cmp, w_chain, w_idx, w_slc, w_tup, w_lst, w_dct, w_call, w_prim, w_isin, w_isown, w_meth, w_comp] at h
  cases es with
  | nil => cases he; simp at hne
  | cons e r =>
  obtain ⟨c0, t0, e1, e2, rfl⟩ := allSome_cons he
  refine Call_ (bi_ok ho C.gok hg (pr_bi hf) ?_)
  have fin : wpAny (model P.prog P.w) A (spliced (backTo p' (starEach (e :: r) env))) (fun vs s₁ => wpAny (model P.prog P.w) A (call b.val vs) (EP S ρ H s Q) E s₁) E s := by
    refine EPs.then (args_ok ih (e :: r) (c0 :: t0) he C hE h.2) fun xs h1 tk1 n1 vs G1 k1 f1 X1 V1 q1 => ?_
    have C1 := C.kp (tk := tk1) k1 f1 X1
    exact wpAny_mono (opPrim_ok b (C.aok.1 h.1) X1 C1.sd V1 q1) (fun z s₂ hz => EP.after k1 f1 hz) fun _ _ y => y
  have hp := star_any (env := env) (pos := p') r t0 e2
  cases b with
  | len => exact callWith_builtin1 fin (not_starred e1 r) hp
  | all => exact callWith_builtin1 fin (not_starred e1 r) hp
  | sorted => exact callWith_builtin1 fin (not_starred e1 r) hp
  | min => exact callWith_builtin1 fin (not_starred e1 r) hp
  | max => exact callWith_builtin1 fin (not_starred e1 r) hp
  | int => exact PyProof.Rows.callWith_type1 fin (not_starred e1 r) hp
  | list => exact PyProof.Rows.callWith_type1 fin (not_starred e1 r) hp
  | tuple => exact PyProof.Rows.callWith_type1 fin (not_starred e1 r) hp
  | range => exact PyProof.Rows.callWith_type1 fin (not_starred e1 r) hp
  | str => exact PyProof.Rows.callWith_type1 fin (not_starred e1 r) hp
theorem isin_ok (ho : EnvOk env) {t : Str} {ty : Ty} {p p' p'' : Pos} {e : PySem.Expr} {c : CE} (ie : EvOk P l env names e c) (hs : ∀ rest, starEach (e :: rest) env = (false, eval e env) :: starEach rest env)
    (hg : isGlob env.kindOf ("isinstance" : Str) = true) (hg' : isGlob env.kindOf t = true) (hf : tyNames.lookup t = some ty) : EvOk P l env names (.Call (.Name "isinstance" p) [e, .Name t p''] [] p') (.isin ty c) := by
  intro A S ρ loc H s Q X E C hE h
  simp only [w_const, w_var, w_bin, w_neg, w_not, w_and, w_or, w_cmp, w_chain, w_idx, w_slc, w_tup, w_lst, w_dct, w_call, w_prim, w_isin, w_isown, w_meth, w_comp] at h
  refine Call_ (bi_ok (v := .builtin "isinstance") ho C.gok hg (by decide +kernel) (callWith_builtin1 ?_ (hs _) rfl))
  refine args_cons (EP.then (ie A S ρ loc H s _ X E C hE h) fun x h1 tk1 n1 v1 G1 k1 f1 X1 V1 qz => ?_) (hs _)
  obtain ⟨q0, q1⟩ := offRng_of qz
  have G := (C.kp (tk := tk1) k1 f1 X1).gok
  have fin := wpAny_mono (isinst_ok (prog := P.prog) (w := P.w) (A := A) (E := E) (s := { s with heap := h1, toks := tk1 }) ty X1 V1 q1 q0) (fun z s₂ hz => EP.after (s := s) (Q := Q) k1 f1 hz) fun _ _ y => y
  generalize { s with heap := h1, toks := tk1 } = s1 at G fin ⊢
  exact args_cons (bi_ok ho G hg' (ty_bi hf) (args_nil fin)) rfl
end

open PySem PyProof.Rows PySem.SeqAt
section
variable {prog : Program} {w : World} {A : Around} {S : Sx} {ρ : List Addr} {H : AH} {s : Shared} {E : Value → Shared → Prop} {v : AV} {x : Value}

/-- an iterator that owns no tuple -/
noncomputable def ownIts : List String := ["enumerate", "zip", "dict_itemiterator", "dict_reverseitemiterator", "odict_iterator", "itertools.zip_longest", "itertools.pairwise"]
noncomputable def PlainIt (o : Obj) : Prop := ∃ n, o.cls = .type n ∧ ownIts.contains n = false
theorem letGo_ok {target : PySem.Expr} {I : Addr} {y : Value} {o : Obj} {Q : Unit → Shared → Prop} (h : s.heap.get? I = some o) (p : PlainIt o) (hQ : Q () s) : wpAny (model prog w) A (letOwnedTupleGo target (.ref I) y) Q E s := by
  obtain ⟨n, hc, hn⟩ := p
  have fin : wpAny (model prog w) A (do let o ← load I; match o.cls, o.data with
      | .type n, .fields vs => if ownIts.contains n && vs[0]? == some (rawInt (match y with | .ref a => a | _ => 0)) then do rule "for.unpacks-the-owned-tuple"; updateField I 0 .none
      | _, _ => pure ()) Q E s := by
    refine wpAny_bind (wpAny_load h ?_)
    rw [hc]
    cases o.data <;> first | exact wpAny_pure hQ | skip
    dsimp only
    rw [hn, Bool.false_and, if_neg Bool.false_ne_true]
    exact wpAny_pure hQ
  cases target <;> first | exact wpAny_pure hQ | skip
  all_goals
    cases y <;> first | exact wpAny_pure hQ | exact fin
theorem iter_walk {its : List AV} {QQ : Value → Shared → Prop} (hh : A.handled = none) (X : HSim S ρ H s.heap) (V : VRel S ρ s.heap v x) (e : iterOfC H v = some its)
    (h : ∀ (I : Addr) (fp wr : List Addr) (Pp : Nat → Value → Prop) (St : Nat → Heap → Prop) (h₂ : Heap), Walks prog w A I fp wr its.length Pp St → St 0 h₂ → Kp s.heap h₂ → (∀ b ∈ wr, b = I) → s.heap.get? I = none → (∀ b ∈ fp, b < h₂.objs.size) → (∀ b ∈ fp, b = I ∨ x = .ref b) →
      (∀ i y, i < its.length → Pp i y → ∃ u, its[i]? = some u ∧ VRel S ρ s.heap u y) → (∀ i h, St i h → ∃ o, h.get? I = some o ∧ PlainIt o) → QQ (.ref I) { s with heap := h₂ }) : wpAny (model prog w) A (pyIter x) QQ E s := by
  have seqc : ∀ vs, v.seq? H = some vs → vs = its → wpAny (model prog w) A (pyIter x) QQ E s := fun vs e1 e2 => by
    subst e2
    obtain ⟨l, items, rfl, hl, vv⟩ := seq_real X V e1
    have e3 := vv.length
    simp only [Array.length_toList] at e3
    have hlt : l < s.heap.objs.size := by
      rcases hl with ⟨n, hl⟩ | ⟨n, hl⟩ <;> exact Heap.lt_size hl
    have hitem : ∀ i y, i < vs.length → items[i]? = some y → ∃ u, vs[i]? = some u ∧ VRel S ρ s.heap u y := fun i y _ hy => vv.getR (by simpa using hy)
    rcases hl with hl | hl
    · refine wpAny_pyIter_list (PL.isList hl) ?_
      have W := Walks.list (prog := prog) (w := w) hh s.heap.objs.size l (Nat.ne_of_lt hlt) items
      rw [← e3] at W
      refine h _ _ _ _ _ _ W ⟨⟨_, Heap.get?_push_size _ rfl, rfl, rfl⟩, (PL.isList hl).at fun o e => Heap.get?_push_of_some _ e⟩ (push_kp _ _) (fun b hb => by simpa using hb) (size_none _) (fun b hb => ?_) (fun b hb => ?_) hitem (fun i h st => let ⟨o, ho, hc, _⟩ := st.1; ⟨o, ho, _, hc, by decide +kernel⟩)
      · simp only [List.mem_cons, List.not_mem_nil, or_false] at hb
        rcases hb with rfl | rfl
        · simp
        · simp; exact Nat.lt_succ_of_lt hlt
      · simp only [List.mem_cons, List.not_mem_nil, or_false] at hb
        rcases hb with rfl | rfl
        · exact .inl rfl
        · exact .inr rfl
    · refine wpAny_pyIter_tuple hl.isTuple ?_
      have W := Walks.tuple (prog := prog) (w := w) hh s.heap.objs.size l (Nat.ne_of_lt hlt) items
      rw [← e3] at W
      refine h _ _ _ _ _ _ W ⟨⟨_, Heap.get?_push_size _ rfl, rfl, rfl⟩, hl.isTuple.at fun o e => Heap.get?_push_of_some _ e⟩ (push_kp _ _) (fun b hb => by simpa using hb) (size_none _) (fun b hb => ?_) (fun b hb => ?_) hitem (fun i h st => let ⟨o, ho, hc, _⟩ := st.1; ⟨o, ho, _, hc, by decide +kernel⟩)
      · simp only [List.mem_cons, List.not_mem_nil, or_false] at hb
        rcases hb with rfl | rfl
        · simp
        · simp; exact Nat.lt_succ_of_lt hlt
      · simp only [List.mem_cons, List.not_mem_nil, or_false] at hb
        rcases hb with rfl | rfl
        · exact .inl rfl
        · exact .inr rfl
  cases V with
  | rng hr ha hs0 hi =>
    rename_i a i j k t u u'
    simp [iterOfC] at e
    have hs := rng_size hr
    refine wpAny_pyIter_range hi (rng_small hr) ?_
    have W := Walks.range (prog := prog) (w := w) hh s.heap.objs.size i k (Builtin.Range.rangeSize i j k).toNat
    have el : its.length = (Builtin.Range.rangeSize i j k).toNat := by rw [← e]; simp [rngList]
    rw [← el] at W
    refine h _ _ _ _ _ _ W ?_ (push_kp _ _) (fun b hb => by simpa using hb) (size_none _) (fun b hb => by simp at hb; subst hb; simp) (fun b hb => .inl (by simpa using hb)) (fun n y hn hy => ?_) (fun i h st => ⟨_, st, _, rfl, by decide +kernel⟩)
    · have e0 : i + ((0 : Nat) : Int) * k = i := by simp
      have e1 : ((its.length : Nat) : Int) - ((0 : Nat) : Int) = Builtin.Range.rangeSize i j k := by rw [el]; omega
      rw [e0, e1]
      exact Heap.get?_push_size _ rfl
    · obtain ⟨t', rfl⟩ := hy
      refine ⟨.int (i + (n : Int) * k), ?_, .int _ _⟩
      rw [← e]
      rw [el] at hn
      simp [rngList, hn]
  | tup ha hs hi hv => simp [iterOfC] at e; exact seqc _ e rfl
  | fl ha hs hi hv => simp [iterOfC] at e; exact seqc _ e rfl
  | ref hi => simp [iterOfC] at e; exact seqc _ e rfl
  | _ => simp [iterOfC, AV.seq?, AV.items?] at e

/-- frozen values, seen from where some lists may change -/
theorem VRel.up {Sc : Sx} (hp : Sc.prog = S.prog) (hw : Sc.w = S.w) {h : Heap} (hA : ∀ a, a ∉ Sc.ad → a ∉ ρ ∧ a ∉ S.ad) (hT : ∀ a items, a ∈ ρ → ¬ PT h a items) (hR : ∀ a o, a ∈ ρ → h.get? a = some o → o.cls = .type "list") {v : AV} {x : Value} (V : VRel Sc [] h v x) : VRel S ρ h v x :=
  VRel.rec (motive_1 := fun v x _ => VRel S ρ h v x) (motive_2 := fun v x _ => VRels S ρ h v x)
    (.none)
    (fun b => .bool b)
    (fun i t => .int i t)
    (fun x t => .str x t)
    (fun _ hs hi hv ih => .tup (fun q => hT _ _ q hi) (hA _ hs).2 hi ih)
    (fun _ hs hi hv ih => .fl (hA _ hs).1 (hA _ hs).2 hi ih)
    (fun hi => by simp at hi)
    (fun hr _ hs hi => .rng hr (fun q => by have := hR _ _ q hi; simp at this) (hA _ hs).2 hi)
    (fun _ hs hm he hv ih => .dict (hA _ hs).1 (hA _ hs).2 (by rw [← hp, ← hw]; exact hm) he ih)
    (fun _ hs hx => .exc (hA _ hs).1 (hA _ hs).2 hx)
    .nil (fun _ _ i1 i2 => .cons i1 i2) V
theorem VRels.up {Sc : Sx} (hp : Sc.prog = S.prog) (hw : Sc.w = S.w) {h : Heap} (hA : ∀ a, a ∉ Sc.ad → a ∉ ρ ∧ a ∉ S.ad) (hT : ∀ a items, a ∈ ρ → ¬ PT h a items) (hR : ∀ a o, a ∈ ρ → h.get? a = some o → o.cls = .type "list") {v : List AV} {x : List Value} (V : VRels Sc [] h v x) : VRels S ρ h v x :=
  VRels.ind (M := fun v x => VRels S ρ h v x) .nil (fun _ _ _ _ v _ i2 => .cons (VRel.up hp hw hA hT hR v) i2) V
theorem VRel.upN {Sc : Sx} (hA : ∀ a, a ∉ Sc.ad → a ∉ S.ad) {h : Heap} (hT : ∀ a items, a ∈ ρ → ¬ PT h a items) (hR : ∀ a o, a ∈ ρ → h.get? a = some o → o.cls = .type "list") {v : AV} {x : Value} (V : VRel Sc [] h v x) : NoFl v → VRel S ρ h v x :=
  VRel.rec (motive_1 := fun v x _ => NoFl v → VRel S ρ h v x) (motive_2 := fun v x _ => NoFls v → VRels S ρ h v x)
    (fun _ => .none)
    (fun b _ => .bool b)
    (fun i t _ => .int i t)
    (fun x t _ => .str x t)
    (fun _ hs hi hv ih n => .tup (fun q => hT _ _ q hi) (hA _ hs) hi (ih n.tup_inv))
    (fun _ _ _ _ ih n => n.fl_inv.elim)
    (fun hi _ => by simp at hi)
    (fun hr _ hs hi _ => .rng hr (fun q => by have := hR _ _ q hi; simp at this) (hA _ hs) hi)
    (fun _ _ _ _ _ ih n => n.dict_inv.elim)
    (fun _ _ _ n => by cases n)
    (fun _ => .nil) (fun v r i1 i2 n => .cons (i1 n.cons_inv.1) (i2 n.cons_inv.2)) V
theorem VRels.upN {Sc : Sx} (hA : ∀ a, a ∉ Sc.ad → a ∉ S.ad) {h : Heap} (hT : ∀ a items, a ∈ ρ → ¬ PT h a items) (hR : ∀ a o, a ∈ ρ → h.get? a = some o → o.cls = .type "list") {v : List AV} {x : List Value} (V : VRels Sc [] h v x) : NoFls v → VRels S ρ h v x :=
  VRels.ind (M := fun v x => NoFls v → VRels S ρ h v x) (fun _ => .nil) (fun _ _ _ _ v _ i2 n => .cons (VRel.upN hA hT hR v n.cons_inv.1) (i2 n.cons_inv.2)) V

theorem VRel.avoid {x' : List Addr} {h : Heap} (hx : ∀ b ∈ x', h.get? b = Option.none) {v : AV} {x : Value} (V : VRel S ρ h v x) : VRel ⟨S.ad ++ x', S.prog, S.w⟩ ρ h v x :=
  VRel.rec (motive_1 := fun v x _ => VRel ⟨S.ad ++ x', S.prog, S.w⟩ ρ h v x) (motive_2 := fun v x _ => VRels ⟨S.ad ++ x', S.prog, S.w⟩ ρ h v x)
    (.none)
    (fun b => .bool b)
    (fun i t => .int i t)
    (fun x t => .str x t)
    (fun ha hs hi hv ih => .tup ha (fun hm => (List.mem_append.mp hm).elim hs fun q => by obtain ⟨o, ho⟩ := hi.get; rw [hx _ q] at ho; cases ho) hi ih)
    (fun ha hs hi hv ih => .fl ha (fun hm => (List.mem_append.mp hm).elim hs fun q => by obtain ⟨o, ho⟩ := PL.get hi; rw [hx _ q] at ho; cases ho) hi ih)
    (fun hi => .ref hi)
    (fun hr ha hs hi => .rng hr ha (fun hm => (List.mem_append.mp hm).elim hs fun q => by have ho := hi; rw [IsRange, hx _ q] at ho; cases ho) hi)
    (fun ha hs hm he hv ih => .dict ha (fun hm' => (List.mem_append.mp hm').elim hs fun q => by obtain ⟨o, ho⟩ := DMap.get hm; rw [hx _ q] at ho; cases ho) hm he ih)
    (fun ha hs hi => .exc ha (fun hm => (List.mem_append.mp hm).elim hs fun q => by obtain ⟨o, ho⟩ := hi.get; rw [hx _ q] at ho; cases ho) hi)
    .nil (fun _ _ i1 i2 => .cons i1 i2) V
theorem VRels.avoid {x' : List Addr} {h : Heap} (hx : ∀ b ∈ x', h.get? b = Option.none) {v : List AV} {x : List Value} (V : VRels S ρ h v x) : VRels ⟨S.ad ++ x', S.prog, S.w⟩ ρ h v x :=
  VRels.ind (M := fun v x => VRels ⟨S.ad ++ x', S.prog, S.w⟩ ρ h v x) .nil (fun _ _ _ _ v _ i2 => .cons (VRel.avoid hx v) i2) V
theorem VRel.sub {S' : Sx} (hp : S'.prog = S.prog) (hw : S'.w = S.w) (hs : ∀ b ∈ S.ad, b ∈ S'.ad) {h : Heap} {v : AV} {x : Value} (V : VRel S' ρ h v x) : VRel S ρ h v x :=
  VRel.rec (motive_1 := fun v x _ => VRel S ρ h v x) (motive_2 := fun v x _ => VRels S ρ h v x)
    (.none)
    (fun b => .bool b)
    (fun i t => .int i t)
    (fun x t => .str x t)
    (fun ha hn hi hv ih => .tup ha (fun q => hn (hs _ q)) hi ih)
    (fun ha hn hi hv ih => .fl ha (fun q => hn (hs _ q)) hi ih)
    (fun hi => .ref hi)
    (fun hr ha hn hi => .rng hr ha (fun q => hn (hs _ q)) hi)
    (fun ha hn hm he hv ih => .dict ha (fun q => hn (hs _ q)) (by rw [← hp, ← hw]; exact hm) he ih)
    (fun ha hn hi => .exc ha (fun q => hn (hs _ q)) hi)
    .nil (fun _ _ i1 i2 => .cons i1 i2) V
theorem VRels.sub {S' : Sx} (hp : S'.prog = S.prog) (hw : S'.w = S.w) (hs : ∀ b ∈ S.ad, b ∈ S'.ad) {h : Heap} {v : List AV} {x : List Value} (V : VRels S' ρ h v x) : VRels S ρ h v x :=
  VRels.ind (M := fun v x => VRels S ρ h v x) .nil (fun _ _ _ _ v _ i2 => .cons (VRel.sub hp hw hs v) i2) V
/-- what is protected may change -/
theorem VRel.chg {h h' : Heap} (hk : ∀ b o, b ∉ S.ad → h.get? b = some o → h'.get? b = some o) {v : AV} {x : Value} (V : VRel S ρ h v x) : VRel S ρ h' v x :=
  VRel.rec (motive_1 := fun v x _ => VRel S ρ h' v x) (motive_2 := fun v x _ => VRels S ρ h' v x)
    (.none)
    (fun b => .bool b)
    (fun i t => .int i t)
    (fun x t => .str x t)
    (fun ha hn hi hv ih => .tup ha hn (hi.at fun o e => hk _ o hn e) ih)
    (fun ha hn hi hv ih => .fl ha hn (PlainList.at' hi fun o e => hk _ o hn e) ih)
    (fun hi => .ref hi)
    (fun hr ha hn hi => .rng hr ha hn (hk _ _ hn hi))
    (fun ha hn hm he hv ih => .dict ha hn (DMap.at hm fun o e => hk _ o hn e) he ih)
    (fun ha hn hi => .exc ha hn (hi.at fun o e => hk _ o hn e))
    .nil (fun _ _ i1 i2 => .cons i1 i2) V
theorem VRels.chg {h h' : Heap} (hk : ∀ b o, b ∉ S.ad → h.get? b = some o → h'.get? b = some o) {v : List AV} {x : List Value} (V : VRels S ρ h v x) : VRels S ρ h' v x :=
  VRels.ind (M := fun v x => VRels S ρ h' v x) .nil (fun _ _ _ _ v _ i2 => .cons (VRel.chg hk v) i2) V
/-- protected addresses become lists of our own -/
theorem VRel.own {S' : Sx} {e : List Addr} (hp : S'.prog = S.prog) (hw : S'.w = S.w) (hs : ∀ b ∈ S.ad, b ∈ S'.ad) (he : ∀ b ∈ e, b ∈ S'.ad) {h : Heap} {v : AV} {x : Value} (V : VRel S' ρ h v x) : VRel S (ρ ++ e) h v x :=
  VRel.rec (motive_1 := fun v x _ => VRel S (ρ ++ e) h v x) (motive_2 := fun v x _ => VRels S (ρ ++ e) h v x)
    (.none)
    (fun b => .bool b)
    (fun i t => .int i t)
    (fun x t => .str x t)
    (fun ha hn hi hv ih => .tup (fun q => (List.mem_append.mp q).elim ha fun q => hn (he _ q)) (fun q => hn (hs _ q)) hi ih)
    (fun ha hn hi hv ih => .fl (fun q => (List.mem_append.mp q).elim ha fun q => hn (he _ q)) (fun q => hn (hs _ q)) hi ih)
    (fun hi => .ref (by rw [List.getElem?_append_left]; exact hi; exact (List.getElem?_eq_some_iff.mp hi).1))
    (fun hr ha hn hi => .rng hr (fun q => (List.mem_append.mp q).elim ha fun q => hn (he _ q)) (fun q => hn (hs _ q)) hi)
    (fun ha hn hm hf hv ih => .dict (fun q => (List.mem_append.mp q).elim ha fun q => hn (he _ q)) (fun q => hn (hs _ q)) (by rw [← hp, ← hw]; exact hm) hf ih)
    (fun ha hn hi => .exc (fun q => (List.mem_append.mp q).elim ha fun q => hn (he _ q)) (fun q => hn (hs _ q)) hi)
    .nil (fun _ _ i1 i2 => .cons i1 i2) V
theorem VRels.own {S' : Sx} {e : List Addr} (hp : S'.prog = S.prog) (hw : S'.w = S.w) (hs : ∀ b ∈ S.ad, b ∈ S'.ad) (he : ∀ b ∈ e, b ∈ S'.ad) {h : Heap} {v : List AV} {x : List Value} (V : VRels S' ρ h v x) : VRels S (ρ ++ e) h v x :=
  VRels.ind (M := fun v x => VRels S (ρ ++ e) h v x) .nil (fun _ _ _ _ v _ i2 => .cons (VRel.own hp hw hs he v) i2) V
/-- a new list whose items were made meanwhile -/
theorem HSim.pushO {h h' : Heap} {a : Addr} {items : Array Value} {vs : List AV} (X : HSim S ρ H h) (hk : Kp h h') (hn : h.get? a = none) (hS : a ∉ S.ad) (p : h'.PlainList a items) (v : VRels S (ρ ++ [a]) h' vs items.toList) : HSim S (ρ ++ [a]) (H ++ [vs]) h' where
  len := by simp [X.len]
  nodup := by
    rw [List.nodup_append]
    refine ⟨X.nodup, by simp, ?_⟩
    intro b hb c hc e
    simp at hc
    obtain ⟨o, ho⟩ := X.mem hb
    rw [e, hc, hn] at ho; cases ho
  off := fun b hb => by
    rcases List.mem_append.mp hb with q | q
    · exact X.off b q
    · simp at q; subst q; exact hS
  obj := fun i ws e => by
    have fr : Fresh h [a] := fun b hb => by simp at hb; subst hb; exact hn
    by_cases hi : i < H.length
    · rw [List.getElem?_append_left hi] at e
      obtain ⟨b, its, e1, p1, v1⟩ := X.obj i ws e
      exact ⟨b, its, by rw [List.getElem?_append_left (by rw [X.len]; exact hi)]; exact e1, PlainList.at' p1 fun o q => hk _ o q, v1.kp hk fr⟩
    · rw [List.getElem?_append_right (Nat.le_of_not_lt hi)] at e
      have : i - H.length = 0 := by
        cases q : i - H.length with
        | zero => rfl
        | succ k => rw [q] at e; simp at e
      rw [this] at e; simp at e; subst e
      exact ⟨a, items, by rw [List.getElem?_append_right (by rw [X.len]; exact Nat.le_of_not_lt hi), X.len, this]; rfl, p, v⟩
theorem HSim.avoid {x' : List Addr} {h : Heap} (X : HSim S ρ H h) (hx : ∀ b ∈ x', h.get? b = Option.none) : HSim ⟨S.ad ++ x', S.prog, S.w⟩ ρ H h where
  len := X.len
  nodup := X.nodup
  off := fun a ha hm => (List.mem_append.mp hm).elim (X.off a ha) fun q => by obtain ⟨o, ho⟩ := X.mem ha; rw [hx _ q] at ho; cases ho
  obj := fun i vs e => by
    obtain ⟨a, items, e1, p, v⟩ := X.obj i vs e
    exact ⟨a, items, e1, p, v.avoid hx⟩
/-- the cells that a comprehension's block takes over -/
theorem closure_ok {env : Env} {scope : Scope} (hc : ∀ x ∈ freeNames scope, ∃ c, env.cells.lookup x = some c) : ∃ cl, closureFor scope env = pure cl ∧ ∀ x ∈ freeNames scope, cl.lookup x = env.cells.lookup x := by
  have key : ∀ (names : List (Str × NameKind)) (acc : List (Str × Addr)), (∀ p ∈ names, p.2 = .free → ∃ c, env.cells.lookup p.1 = some c) →
      (∀ y, (acc.lookup y).isSome = true → acc.lookup y = env.cells.lookup y) →
      ∃ cl, (forIn names acc fun (x : Str × NameKind) r => (do
        if x.2 == .free then pure (ForInStep.yield ((x.1, ← cellOf env x.1) :: r)) else pure (ForInStep.yield r) : Sem _)) = pure cl ∧
        (∀ y, (cl.lookup y).isSome = true → cl.lookup y = env.cells.lookup y) ∧ (∀ p ∈ names, p.2 = .free → (cl.lookup p.1).isSome = true) ∧ (∀ y, (acc.lookup y).isSome = true → (cl.lookup y).isSome = true) := by
    intro names
    induction names with
    | nil => intro acc _ ha; exact ⟨acc, rfl, ha, (fun _ hm => by cases hm), fun _ h => h⟩
    | cons p r ih =>
      intro acc hn ha
      rw [List.forIn_cons]
      by_cases hf : p.2 = .free
      · obtain ⟨c, ec⟩ := hn p (.head _) hf
        have e1 : (p.2 == NameKind.free) = true := by simp [hf]
        have e2 : cellOf env p.1 = pure c := by unfold cellOf; rw [ec]
        obtain ⟨cl, q1, q2, q3, q4⟩ := ih ((p.1, c) :: acc) (fun q hq => hn q (.tail _ hq)) (fun y hy => by
          rw [List.lookup_cons] at hy ⊢
          split
          · rename_i hyp; simp at hyp; rw [hyp, ec]
          · rename_i hyp; rw [hyp] at hy; exact ha y hy)
        refine ⟨cl, ?_, q2, ?_, ?_⟩
        · rw [if_pos e1, e2]; exact q1
        · intro q hq hqf
          rcases List.mem_cons.mp hq with rfl | hq
          · exact q4 _ (by rw [List.lookup_cons]; simp)
          · exact q3 q hq hqf
        · intro y hy
          exact q4 y (by rw [List.lookup_cons]; split <;> simp_all)
      · have e1 : ¬ (p.2 == NameKind.free) = true := by simpa using hf
        obtain ⟨cl, q1, q2, q3, q4⟩ := ih acc (fun q hq => hn q (.tail _ hq)) ha
        refine ⟨cl, ?_, q2, ?_, q4⟩
        · rw [if_neg e1]; exact q1
        · intro q hq hqf
          rcases List.mem_cons.mp hq with rfl | hq
          · exact absurd hqf hf
          · exact q3 q hq hqf
  have hmem : ∀ p ∈ scope.names, p.2 = .free → p.1 ∈ freeNames scope := fun p hp hf => by
    unfold freeNames
    exact List.mem_map.mpr ⟨p, List.mem_filter.mpr ⟨hp, by simp [hf]⟩, rfl⟩
  obtain ⟨cl, q1, q2, q3, _⟩ := key scope.names [] (fun p hp hf => hc _ (hmem p hp hf)) (fun y hy => by simp at hy)
  refine ⟨cl, ?_, fun x hx => ?_⟩
  · unfold closureFor
    show (forIn scope.names ([] : List (Str × Addr)) _ >>= fun r => pure r) = _
    refine Eq.trans (congrArg (· >>= fun r => pure r) (Eq.trans ?_ q1)) rfl
    rfl
  · unfold freeNames at hx
    obtain ⟨p, hp, rfl⟩ := List.mem_map.mp hx
    have := List.mem_filter.mp hp
    exact q2 _ (q3 p this.1 (by simpa using this.2))
end

open PySem PyProof.Rows PySem.SeqAt

theorem relabel_kd (scope : Scope) (env : Env) (hk : env.scope.kind = .function) (y : Str) : (relabel scope env).names.lookup y = compKd scope env.kindOf y := by
  unfold relabel compKd
  show List.lookup y (scope.names.map _) = _
  generalize scope.names = l
  induction l with
  | nil => rfl
  | cons p r ih =>
    obtain ⟨n, k⟩ := p
    rw [List.map_cons]
    by_cases hy : y = n
    · subst hy
      simp only [List.lookup_cons, beq_self_eq_true]
      by_cases hf : k = .free
      · subst hf
        by_cases hc : env.kindOf y = some .cell
        · simp [hk, hc, List.lookup_cons]
        · simp [hk, hc, List.lookup_cons]
      · have : (k == NameKind.free) = false := by simpa using hf
        simp [this, List.lookup_cons]
        cases k <;> first | rfl | exact absurd rfl hf
    · have hyb : (y == n) = false := by simpa using hy
      have e1 : ∀ (q : Str × NameKind) (L : List (Str × NameKind)), (y == q.1) = false → List.lookup y (q :: L) = List.lookup y L := fun q L hq => by
        obtain ⟨q1, q2⟩ := q
        rw [List.lookup_cons, hq]
      rw [e1 _ _ (by dsimp only; split <;> exact hyb), ih, List.lookup_cons, hyb]
theorem compEnv_kd (scope : Scope) (env : Env) (cl : List (Str × Addr)) (C : Addr) (hk : env.scope.kind = .function) : (compEnvC scope cl C env).kindOf = compKd scope env.kindOf := funext fun y => relabel_kd scope env hk y

section
variable {P : PC} {l : Lv} {A : Around} {env : Env} {names : List Str} {S : Sx} {ρ : List Addr} {loc : List (Option AV)} {H : AH} {s : Shared} {X : Str → Prop} {E : Value → Shared → Prop}

theorem compEnv_ok (ho : EnvOk env) {scope : Scope} {cl : List (Str × Addr)} {C : Addr} (hk : scope.kind = .function) (hcell : ∀ y ∈ scope.names, y.2 ≠ .cell) (hcl : ∀ x ∈ freeNames scope, cl.lookup x = env.cells.lookup x) : EnvOk (compEnvC scope cl C env) := by
  refine ⟨by simp [compEnvC, relabel, hk], ho.2.1, ho.2.2.1, fun x hx => ?_⟩
  rw [compEnv_kd _ _ _ _ ho.1] at hx
  unfold compKd at hx
  split at hx
  · rename_i hf
    have hm : x ∈ freeNames scope := by
      unfold freeNames
      exact List.mem_map.mpr ⟨(x, .free), List.mem_filter.mpr ⟨lookup_mem hf, rfl⟩, rfl⟩
    split at hx
    · rename_i hc
      obtain ⟨c, ec⟩ := ho.2.2.2 x hc
      exact ⟨c, by show cl.lookup x = some c; rw [hcl x hm, ec]⟩
    · cases hx
  · exact absurd rfl (hcell (x, .cell) (lookup_mem hx))

/-- the context of a comprehension's element -/
theorem comp_cx (C : Cx P l A env names S ρ loc H s) (ho : EnvOk env) {scope : Scope} {cl : List (Str × Addr)} {Cc : Addr} {h' : Heap} {tk : Nat} {cap : List Nat} {base : List (Option AV)} {txs : List Str} {us : List AV} {m : Str → Option Value} {Sc : Sx}
    (hcl : ∀ x ∈ freeNames scope, cl.lookup x = env.cells.lookup x) (hcell : ∀ x ∈ freeNames scope, env.kindOf x = some .cell ∧ scope.names.lookup x = some .free) (hcap : allSome ((freeNames scope).map fun x => idxOf x names) = some cap) (hx : ∀ t ∈ txs, scope.names.lookup t = some .local)
    (hbase : CapRel H loc cap base) (hk : Kp s.heap h') (hn : h'.Ns Cc m) (hm : ∀ (i : Nat) (t : Str) (u : AV), txs[i]? = some t → us[i]? = some u → ∃ y, m t = some y ∧ VRel Sc [] h' u y)
    (hp : Sc.prog = S.prog) (hw : Sc.w = S.w) (hsd : SD Sc h')
    (hv : ∀ i v v' z, loc[i]?.join = some v → Ren [] H v v' → VRel S ρ s.heap v z → base = base → i ∈ cap → (∃ j : Nat, cap[j]? = some i ∧ base[j]?.join = some v') → VRel Sc [] h' v' z) :
    Cx P l A (compEnvC scope cl Cc env) (freeNames scope ++ txs) Sc [] (base ++ us.map some) [] { s with heap := h', toks := tk } where
  aok := C.aok
  gok := C.gok.kp hk
  pp := hp.trans C.pp
  pw := hw.trans C.pw
  sd := hsd
  sim := ⟨rfl, List.nodup_nil, fun _ hm => (by cases hm), fun i vs e => by simp at e⟩
  loc := by
    have kd := compEnv_kd scope env cl Cc ho.1
    have hlen : ∀ {c : List Nat} {b : List (Option AV)}, CapRel H loc c b → b.length = c.length := by
      intro c b hb
      induction hb with
      | nil => rfl
      | cons _ _ _ ih => simp [ih]
      | skip _ ih => simp [ih]
    have hlen2 : ∀ {fs : List Str} {c : List Nat}, allSome (fs.map fun x => idxOf x names) = some c → c.length = fs.length := by
      intro fs
      induction fs with
      | nil => intro c h; cases h; rfl
      | cons f r ih => intro c h; obtain ⟨a, t, _, e2, rfl⟩ := allSome_cons h; simp [ih e2]
    have capGet : ∀ {fs : List Str} {c : List Nat}, allSome (fs.map fun x => idxOf x names) = some c → ∀ (j i : Nat), c[j]? = some i → ∃ x, fs[j]? = some x ∧ idxOf x names = some i := by
      intro fs
      induction fs with
      | nil => intro c h j i e; cases h; simp at e
      | cons f r ih =>
        intro c h j i e
        obtain ⟨a, t, e1, e2, rfl⟩ := allSome_cons h
        cases j with
        | zero => simp at e; subst e; exact ⟨f, rfl, e1⟩
        | succ j => simpa using ih e2 j i (by simpa using e)
    have baseGet : ∀ {c : List Nat} {b : List (Option AV)}, CapRel H loc c b → ∀ (j : Nat) (v' : AV), b[j]?.join = some v' → ∃ i v, c[j]? = some i ∧ loc[i]?.join = some v ∧ Ren [] H v v' := by
      intro c b hb
      induction hb with
      | nil => intro j v' e; simp at e
      | cons e0 r0 _ ih =>
        intro j v' e
        cases j with
        | zero => simp at e; subst e; exact ⟨_, _, rfl, e0, r0⟩
        | succ j => simpa using ih j v' (by simpa using e)
      | skip _ ih =>
        intro j v' e
        cases j with
        | zero => simp at e
        | succ j => simpa using ih j v' (by simpa using e)
    intro j xx v' en e
    have hl1 := hlen hbase
    have hl2 := hlen2 hcap
    by_cases hj : j < base.length
    · rw [List.getElem?_append_left hj] at e
      obtain ⟨i, v, e1, e2, r⟩ := baseGet hbase j v' e
      obtain ⟨x, e3, e4⟩ := capGet hcap j i e1
      obtain ⟨z, e6, e7⟩ := C.loc i x v (idxOf_get e4) e2
      rw [List.getElem?_append_left (by omega), e3] at en
      have en' : xx = x := by simpa using en.symm
      rw [en']
      have hmem : x ∈ freeNames scope := List.mem_of_getElem? e3
      refine ⟨z, ?_, hv i v v' z e2 r e7 rfl (List.mem_of_getElem? e1) ⟨j, e1, e⟩⟩
      · have hcx := hcell x hmem
        rcases e6 with ⟨k1, _⟩ | ⟨k1, c, k2, k3⟩
        · rw [hcx.1] at k1; cases k1
        · refine .inr ⟨?_, c, ?_, k3.keeps hk⟩
          · rw [kd]; unfold compKd; rw [hcx.2]; simp [hcx.1]
          · show cl.lookup x = some c
            rw [hcl x hmem, k2]
    · rw [List.getElem?_append_right (Nat.le_of_not_lt hj)] at e
      rw [List.getElem?_map] at e
      have e' : us[j - base.length]? = some v' := by
        cases q : us[j - base.length]? with
        | none => rw [q] at e; cases e
        | some u => rw [q] at e; cases e; rfl
      rw [List.getElem?_append_right (by omega), ← hl2, ← hl1] at en
      obtain ⟨y, e1, e2⟩ := hm _ _ _ en e'
      refine ⟨y, .inl ⟨?_, m, hn, e1⟩, e2⟩
      rw [kd]; unfold compKd; rw [hx xx (List.mem_of_getElem? en)]
end
section
variable {prog : Program} {w : World} {A : Around} {S : Sx} {ρ : List Addr} {H : AH} {s : Shared} {E : Value → Shared → Prop} {v : AV} {x : Value}
theorem draw_walk {I : Addr} {fp wr : List Addr} {n : Nat} {Pp : Nat → Value → Prop} {St : Nat → Heap → Prop} (W : Walks prog w A I fp wr n Pp St) : ∀ (k i : Nat) (s : Shared) (Q : List Value → Shared → Prop), St i s.heap → i + k ≤ n →
    (∀ ys h' tk, St (i + k) h' → (∀ j y, ys[j]? = some y → Pp (i + j) y) → ys.length = k → (∀ b o, b ∉ wr → s.heap.get? b = some o → h'.get? b = some o) → Q ys { s with heap := h', toks := tk }) → wpAny (model prog w) A (draw (.ref I) k) Q E s
  | 0, i, s, Q, st, _, h => by
    show wpAny _ _ (pure []) Q E s
    exact wpAny_pure (h [] s.heap s.toks st (fun j y e => by simp at e) rfl fun _ _ _ e => e)
  | k + 1, i, s, Q, st, hk, h => by
    show wpAny _ _ (pyNext (.ref I) >>= _) Q E s
    refine wpAny_bind (W.item i s _ E (by omega) st fun v h₁ tk₁ hv st₁ hk₁ => ?_)
    refine wpAny_bind (wpAny_holding (draw_walk W k (i + 1) _ _ st₁ (by omega) fun ys h₂ tk₂ st₂ hp hl hk₂ => wpAny_pure ?_))
    refine h (v :: ys) h₂ tk₂ (by rw [show i + (k + 1) = i + 1 + k by omega]; exact st₂) (fun j y e => ?_) (by simp [hl]) fun b o hb e => hk₂ b o hb (hk₁ b o hb e)
    cases j with
    | zero => simp at e; subst e; exact hv
    | succ j => have := hp j y (by simpa using e); rw [show i + (j + 1) = i + 1 + j by omega]; exact this

theorem vrels_of_get : ∀ {vs : List AV} {ys : List Value} {h : Heap}, vs.length = ys.length → (∀ (j : Nat) y, ys[j]? = some y → ∃ u, vs[j]? = some u ∧ VRel S ρ h u y) → VRels S ρ h vs ys
  | [], [], _, _, _ => .nil
  | [], _ :: _, _, h, _ => by simp at h
  | _ :: _, [], _, h, _ => by simp at h
  | v :: vs, y :: ys, _, h, q => by
    obtain ⟨u, e, V⟩ := q 0 y rfl
    simp at e; subst e
    exact .cons V (vrels_of_get (by simpa using h) fun j z e => by simpa using q (j + 1) z (by simpa using e))

theorem unpack_real {vs : List AV} {Q : List Value → Shared → Prop} (hh : A.handled = none) (X : HSim S ρ H s.heap) (V : VRel S ρ s.heap v x) (e : v.seq? H = some vs)
    (hQ : ∀ ys h' tk, Kp s.heap h' → VRels S ρ s.heap vs ys → Q ys { s with heap := h', toks := tk }) : wpAny (model prog w) A (unpackItems x vs.length none) Q E s := by
  have ei : iterOfC H v = some vs := by
    cases v <;> first | exact e | cases e
  obtain ⟨l, items, rfl, hl, vv⟩ := seq_real X V e
  unfold unpackItems
  refine wpAny_bind ?_
  unfold notIterableAtAll
  have fin : wpAny (model prog w) A (do
      let it ← holding [.ref l] (pyIter (.ref l))
      let items ← holding [it] (draw it vs.length)
      if items.length < vs.length then
        rule "unpack.too-few"; raiseError "ValueError" s!"not enough values to unpack (expected {vs.length}, got {items.length})"
      if (← holding items (pyNext it)).isSome then
        rule "unpack.too-many"; raiseError "ValueError" s!"too many values to unpack (expected {vs.length})"
      return items) Q E s := by
    refine wpAny_bind (wpAny_holding (iter_walk hh X V ei fun I fp wr Pp St h₂ W st0 k₂ hwr hIn hfp _ hit hI => ?_))
    refine wpAny_bind (wpAny_holding (draw_walk W vs.length 0 _ _ st0 (by omega) fun ys h₃ tk₃ st₃ hp hln hk₃ => ?_))
    rw [if_neg (by omega)]
    refine wpAny_bind (wpAny_holding (W.done _ _ E (by simpa using st₃) fun h₄ tk₄ hk₄ => ?_))
    simp only [Option.isSome_none, Bool.false_eq_true, if_false]
    refine wpAny_pure (hQ ys h₄ tk₄ (fun b o e => ?_) (vrels_of_get (by omega) fun j y e => ?_))
    · have hb : b ∉ wr := fun q => by rw [hwr b q, hIn] at e; cases e
      exact hk₄ b o hb (hk₃ b o hb (k₂ b o e))
    · have hj : j < vs.length := by rw [← hln]; exact (List.getElem?_eq_some_iff.mp e).1
      exact hit j y hj (by simpa using hp j y e)
  rcases hl with hl | hl
  · refine wpAny_bind (wpAny_specialOf (PL.isList hl).typeIs F.slot_list_iter.lookup ?_)
    refine wpAny_pure ?_
    simp only [Bool.false_eq_true, if_false]
    exact fin
  · refine wpAny_bind (wpAny_specialOf hl.isTuple.typeIs F.slot_tuple_iter.lookup ?_)
    refine wpAny_pure ?_
    simp only [Bool.false_eq_true, if_false]
    exact fin

theorem tgt_ok {tgt : PySem.Expr} {nv : Nat} {txs : List Str} {cenv : Env} {Cc : Addr} {m : Str → Option Value} {u : AV} {y : Value} {bx : List (Option AV)} (hh : A.handled = none) (ht : tgtNames tgt = some (nv, txs)) (hnd : txs.Nodup) (hl : cenv.locals = Cc) (hk : cenv.scope.kind = .function) (hC : Cc ∈ S.ad)
    (hkd : ∀ t ∈ txs, cenv.kindOf t = some .local) (hn : s.heap.Ns Cc m) (V : VRel S [] s.heap u y) (hb : bindItem nv u = some bx) :
    wpAny (model prog w) A (assign tgt cenv y) (fun _ s' => ∃ (h' : Heap) (tk : Nat) (m' : Str → Option Value) (us : List AV), s' = { s with heap := h', toks := tk } ∧ bx = us.map some ∧ (∀ b o, b ≠ Cc → s.heap.get? b = some o → h'.get? b = some o) ∧ h'.Ns Cc m' ∧ (∀ (i : Nat) (t : Str) (u : AV), txs[i]? = some t → us[i]? = some u → ∃ z, m' t = some z ∧ VRel S [] h' u z)) E s := by
  cases tgt <;> first | (cases ht; done) | skip
  case Name x p =>
    cases ht
    cases hb
    refine wpAny_assign_Name (wpAny_storeName_local (hkd x (.head _)) (hl ▸ hn) (fun h₄ hn₄ hs₄ => ?_) (by simp [hk]))
    rw [hl] at hn₄ hs₄
    refine ⟨h₄, _, _, [u], rfl, rfl, fun b o hb e => hs₄.extBut b o hb e, hn₄, fun i t w ez eu => ?_⟩
    cases i with
    | zero => cases ez; cases eu; exact ⟨y, by simp, V.chg fun b o hb e => hs₄.extBut b o (fun q => hb (q ▸ hC)) e⟩
    | succ i => simp at ez
end

open PySem PyProof.Rows PySem.SeqAt
section
variable {P : PC} {l : Lv} {A : Around} {env : Env} {names : List Str} {S : Sx} {ρ : List Addr} {loc : List (Option AV)} {H : AH} {s : Shared} {X : Str → Prop} {E : Value → Shared → Prop}

theorem cc1 {n i : Nat} (h : i < n) : n + 1 - (i + 1) < n + 1 - i := by omega
theorem cc2 {d y i n : Nat} (e : d = y) (h1 : d ≤ i) (h2 : i < n) (h3 : n ≤ smallN) : y < sizeLine := by
  have : sizeLine = 2 ^ 24 := rfl
  unfold smallN at h3
  omega
theorem excC_false {P : PC} {A : Around} {s : Shared} {X : Str → Prop} {e : Value} {s' : Shared} (h : ExcC P A s X e s') : False := h
theorem exOk_any {P : PC} {A : Around} {X : Str → Prop} {E : Value → Shared → Prop} {s : Shared} : ExOk P A X E s := fun _ _ _ _ _ q => (excC_false q).elim

theorem rens_get {φ : List Nat} {H : AH} {a b : List AV} (r : Rens φ H a b) {i : Nat} {u v : AV} (e1 : a[i]? = some u) (e2 : b[i]? = some v) : Ren φ H u v :=
  Rens.ind (M := fun a b => ∀ i, a[i]? = some u → b[i]? = some v → Ren φ H u v) (fun _ e1 _ => by simp at e1) (fun _ _ _ _ r _ ih i e1 e2 => by
    cases i with
    | zero => cases e1; cases e2; exact r
    | succ i => exact ih i e1 e2) r i e1 e2
/-- the tests of a comprehension -/
theorem tests_ok {cenv : Env} {names' : List Str} {Sc : Sx} {loc' : List (Option AV)} {ifs : List PySem.Expr} {cs : List CE} (hlen : cs.length ≤ 1) (ht : ∀ (j : Nat) (e : PySem.Expr) (c : CE), ifs[j]? = some e → cs[j]? = some c → TrOk P l cenv names' e c) (hl : ifs.length = cs.length) {K : Bool → Prop}
    {s : Shared} (C : Cx P l A cenv names' Sc [] loc' [] s) (h : wpTests P l X cs loc' K) :
    wpAny (model P.prog P.w) A (forIn ifs true fun c r => if r = true then do let ok ← isTrue c cenv (eval c cenv); pure (ForInStep.yield ok) else pure (ForInStep.yield r))
      (fun ok s' => ∃ h' tk, s' = { s with heap := h', toks := tk } ∧ Kp s.heap h' ∧ K ok) E s := by
  cases cs with
  | nil =>
    have : ifs = [] := List.length_eq_zero_iff.mp (by simpa using hl)
    subst this
    simp only [w_t0, w_t1] at h
    exact wpAny_pure ⟨s.heap, s.toks, rfl, Kp.refl _, h⟩
  | cons c r =>
    have : r = [] := by cases r with | nil => rfl | cons _ _ => simp at hlen
    subst this
    cases ifs with
    | nil => simp at hl
    | cons e r' =>
      have : r' = [] := by cases r' with | nil => rfl | cons _ _ => simp at hl
      subst this
      simp only [w_t0, w_t1] at h
      rw [List.forIn_cons]
      simp only [if_true]
      refine wpAny_bind (wpAny_bind (BP.then (ht 0 e c rfl rfl A Sc [] loc' [] s (fun b _ => K b) X E C exOk_any h) fun b h1 tk1 n1 G1 k1 f1 X1 q1 => ?_))
      exact wpAny_pure (wpAny_pure ⟨h1, tk1, rfl, k1, q1⟩)

/-- an element of a comprehension -/
theorem elt_ok {cenv : Env} {names' : List Str} {Sc : Sx} {loc' : List (Option AV)} {elt : PySem.Expr} {ce : CE} (he : EvOk P l cenv names' elt ce) {K : AV → Prop} {s : Shared} (C : Cx P l A cenv names' Sc [] loc' [] s)
    (h : wpE P l X ce loc' [] fun r Hc => ∃ r', Ren [] Hc r r' ∧ K r') :
    wpAny (model P.prog P.w) A (eval elt cenv) (fun y s' => ∃ h' tk r', s' = { s with heap := h', toks := tk } ∧ Kp s.heap h' ∧ VRel Sc [] h' r' y ∧ K r') E s := by
  refine EP.then (he A Sc [] loc' [] s _ X E C exOk_any h) fun y h1 tk1 n1 v1 G1 k1 f1 X1 V1 qq => ?_
  obtain ⟨r', R, q1⟩ := qq
  simp only [List.nil_append] at X1 V1 R
  have := VRel.ren (S' := Sc) rfl rfl X1 (fun a ha _ hb => ha hb) (fun a _ ha => ha) (fun j hj => by cases hj) R V1
  exact ⟨h1, tk1, r', rfl, k1, by simpa [pick] using this, q1⟩

/-- the turns of a comprehension, whatever its target -/
theorem compLoop_tests {prog : Program} {w : World} {R : Result → Shared → Prop} {elt target iter : PySem.Expr} {ifs : List PySem.Expr} {scope : Scope} {pos : Pos} {it acc : Value} {env : Env} {s : Shared} (I : Nat → Shared → Prop)
    (turn : ∀ n s, I n s → wpAny (model prog w) A (pyNext it) (fun r s₁ => match r with
      | none => R (.ok .next) s₁
      | some v => wpAny (model prog w) A (letOwnedTupleGo target it v) (fun _ s₁' => wpAny (model prog w) A (assign target env v) (fun _ s₂ =>
          wpAny (model prog w) A (forIn ifs true fun c r => if r = true then do let ok ← isTrue c env (eval c env); pure (ForInStep.yield ok) else pure (ForInStep.yield r)) (fun ok s₃ =>
            if ok = true then wpAny (model prog w) A (eval elt env) (fun x s₄ =>
              wpAny (model prog w) A (call (.builtin "list.append") [acc, x]) (fun _ s₅ => ∃ m, m < n ∧ I m s₅) (notedBy (model prog w) A env fun e s' => R (.error e) s') s₄) (notedBy (model prog w) A env fun e s' => R (.error e) s') s₃
            else ∃ m, m < n ∧ I m s₃) (notedBy (model prog w) A env fun e s' => R (.error e) s') s₂) (notedBy (model prog w) A env fun e s' => R (.error e) s') s₁') (notedBy (model prog w) A env fun e s' => R (.error e) s') s₁) (notedBy (model prog w) A env fun e s' => R (.error e) s') s)
    (n : Nat) (h : I n s) : codeAny (model prog w) A (.compLoop (.ListComp elt [⟨target, iter, ifs, 0⟩] scope pos) 0 it acc env) R s := by
  refine codeAny_loop rfl I (fun n s hI => ?_) n h
  show wpAny _ A ((compTurn (.ListComp elt [⟨target, iter, ifs, 0⟩] scope pos) 0 it acc env).onRaise (fun x => do noteFrame x env; theTreesLotGoes x)) _ _ s
  refine wpAny_noted ?_
  rw [compTurn_list]
  refine wpAny_bind (wpAny_standAt (wpAny_bind (wpAny_mono (turn n s hI) (fun r s₁ h₁ => ?_) fun _ _ y => y)))
  cases r with
  | none => exact wpAny_pure h₁
  | some v =>
    refine wpAny_bind (wpAny_mono h₁ (fun _ s₂ h₂ => wpAny_bind (wpAny_mono h₂ (fun _ s₃ h₃ => wpAny_bind (wpAny_mono h₃ (fun ok s₄ h₄ => ?_) fun _ _ y => y)) fun _ _ y => y)) fun _ _ y => y)
    cases ok with
    | false => exact wpAny_pure ⟨rfl, h₄⟩
    | true => exact wpAny_bind (wpAny_bind (wpAny_mono h₄ (fun x s₅ h₅ => wpAny_bind (wpAny_mono h₅ (fun _ s₆ h₆ => wpAny_pure (wpAny_pure ⟨rfl, h₆⟩)) fun _ _ y => y)) fun _ _ y => y))
/-- the block of a comprehension -/
theorem comp_core (C : Cx P l A env names S ρ loc H s) (ho : EnvOk env) {scope : Scope} {cl : List (Str × Addr)} {cap : List Nat} {base : List (Option AV)} {tgt : PySem.Expr} {nv : Nat} {txs : List Str} {pos : Pos} {elt it : PySem.Expr} {ifs : List PySem.Expr} {ce : CE} {cs : List CE} {its items : List AV} {I : Addr} {fp wr : List Addr}
    {Pp : Nat → Value → Prop} {St : Nat → Heap → Prop} {h₂ : Heap} {K : List AV → Prop} {RR : Value → Addr → Result → Shared → Prop}
    (hkind : scope.kind = .function) (hnc : ∀ y ∈ scope.names, y.2 ≠ .cell)
    (hcl : ∀ x ∈ freeNames scope, cl.lookup x = env.cells.lookup x) (hcell : ∀ x ∈ freeNames scope, env.kindOf x = some .cell ∧ scope.names.lookup x = some .free) (hcap : allSome ((freeNames scope).map fun x => idxOf x names) = some cap) (hx : ∀ t ∈ txs, scope.names.lookup t = some .local) (htg : tgtNames tgt = some (nv, txs)) (hnd : txs.Nodup) (hhn : A.handled = none)
    (ihe : ∀ Cc, EvOk P l (compEnvC scope cl Cc env) (freeNames scope ++ txs) elt ce) (iht : ∀ Cc (j : Nat) (e : PySem.Expr) (c : CE), ifs[j]? = some e → cs[j]? = some c → TrOk P l (compEnvC scope cl Cc env) (freeNames scope ++ txs) e c) (hil : ifs.length = cs.length) (hcs : cs.length ≤ 1)
    (hsm : its.length ≤ smallN) (hR : Rens [] H its items) (hbase : CapRel H loc cap base)
    (W : Walks P.prog P.w A I fp wr its.length Pp St) (st0 : St 0 h₂) (k₂ : Kp s.heap h₂) (hwr : ∀ b ∈ wr, b = I) (hIn : s.heap.get? I = none) (hfp : ∀ b ∈ fp, b < h₂.objs.size) (hit : ∀ i y, i < its.length → Pp i y → ∃ u, its[i]? = some u ∧ VRel S ρ s.heap u y) (hI : ∀ i h, St i h → ∃ o, h.get? I = some o ∧ PlainIt o)
    {CI : List AV → List AV → Prop} {St' : AV → List AV → List AV → Prop} {Rz : AV → Prop} (hitems : CI items [])
    (hCI : ∀ x r done, CI (x :: r) done → ∃ bx, bindItem nv x = some bx ∧ wpTests P l X cs (base ++ bx) fun b => if b = true then St' x r done else CI r done)
    (hSt : ∀ x r done bx, bindItem nv x = some bx → St' x r done → Rz x ∨ wpE P l X ce (base ++ bx) [] fun v Hc => ∃ r', Ren [] Hc v r' ∧ ((items = its ∧ base = cap.map fun i => loc[i]?.join) ∨ NoFl r') ∧ CI r (done ++ [r']))
    (hKe : ∀ done, CI [] done → K done)
    (hz : ∀ x bx D Cc Sc h' tk m, Rz x → bindItem nv x = some bx → s.heap.get? Cc = none → D ≠ Cc → h'.Ns Cc m → Kp s.heap h' → Cx P l A (compEnvC scope cl Cc env) (freeNames scope ++ txs) Sc [] (base ++ bx) [] { s with heap := h', toks := tk } →
      wpAny (model P.prog P.w) A (eval elt (compEnvC scope cl Cc env)) (fun _ _ => False) (notedBy (model P.prog P.w) A (compEnvC scope cl Cc env) fun e s' => RR (.ref D) Cc (.error e) s') { s with heap := h', toks := tk })
    (hRR : ∀ D Cc h' tk m ys vs, s.heap.get? D = none → h₂.get? Cc = none → s.heap.get? Cc = none → D ≠ Cc → h'.Ns Cc m → h'.PlainList D ys → VRels ⟨S.ad ++ [I, Cc, D], S.prog, S.w⟩ ρ h' vs ys.toList → vs.length ≤ smallN → Kp s.heap h' → K vs → RR (.ref D) Cc (.ok .next) { s with heap := h', toks := tk }) {tk₂ : Nat} :
    wpAny (model P.prog P.w) A (newList []) (fun acc s₃ => wpAny (model P.prog P.w) A (newFunctionEnv scope env.globals cl [] env.qual none .none (some env)) (fun cenv s₄ =>
      codeAny (model P.prog P.w) A (.compStart (.ListComp elt [⟨tgt, it, ifs, 0⟩] scope pos) 0 (.ref I) acc { cenv with scope := relabel scope env }) (RR acc cenv.locals) s₄) E s₃) E { s with heap := h₂, toks := tk₂ } := by
  refine wpAny_newObj_type (wpAny_newFunctionEnv hnc (by intro y hy; simp at hy) (fun h₁ hns₁ hsb₁ => ?_) hkind)
  dsimp only at hns₁ hsb₁ ⊢
  generalize hH2 : h₂.push { cls := .type "list", dict := none, data := .seq ([] : List Value).toArray } = H2 at hns₁ hsb₁ ⊢
  have hCs : H2.objs.size = h₂.objs.size + 1 := by rw [← hH2, Heap.size_push]
  have sz : ∀ b o, s.heap.get? b = some o → b < h₂.objs.size := fun b o e => Heap.lt_size (k₂ b o e)
  have kH : ∀ b o, h₂.get? b = some o → h₁.get? b = some o := fun b o e => hsb₁.extBut b o (by rw [hCs]; exact Nat.ne_of_lt (Nat.lt_succ_of_lt (Heap.lt_size e))) (Heap.get?_push_of_some _ (hH2 ▸ Heap.get?_push_of_some _ e))
  have hacc : h₁.PlainList h₂.objs.size #[] := ⟨_, hsb₁.extBut _ _ (by rw [hCs]; exact Nat.ne_of_lt (Nat.lt_succ_self _)) (Heap.get?_push_of_some _ (hH2 ▸ Heap.get?_push_size _ rfl))⟩
  generalize hCc : H2.objs.size = Cc at hns₁ hsb₁ hCs ⊢
  generalize hD : h₂.objs.size = D at hacc hCs sz ⊢
  have hfp' : ∀ b ∈ fp, b < D := fun b hb => hD ▸ hfp b hb
  have hDC : D ≠ Cc := by rw [hCs]; exact Nat.ne_of_lt (Nat.lt_succ_self _)
  have hDC' : D < Cc := by rw [hCs]; exact Nat.lt_succ_self _
  have hDn : s.heap.get? D = none := by
    cases q : s.heap.get? D with
    | none => rfl
    | some o => exact absurd (sz D o q) (Nat.lt_irrefl _)
  have hCn : s.heap.get? Cc = none := by
    cases q : s.heap.get? Cc with
    | none => rfl
    | some o => exact absurd (Nat.lt_trans (sz Cc o q) hDC') (Nat.lt_irrefl _)
  have hCn2 : h₂.get? Cc = none := by
    cases q : h₂.get? Cc with
    | none => rfl
    | some o => exact absurd (Nat.lt_trans (hD ▸ Heap.lt_size q) hDC') (Nat.lt_irrefl _)
  have hDf : D ∉ fp := fun hm => Nat.lt_irrefl _ (hfp' _ hm)
  have hCf : Cc ∉ fp := fun hm => Nat.lt_irrefl _ (Nat.lt_trans (hfp' _ hm) hDC')
  have hDw : D ∉ wr := fun hm => hDf (W.sub _ hm)
  have hCw : Cc ∉ wr := fun hm => hCf (W.sub _ hm)
  have hlenR := hR.length
  have stay : ∀ b o, s.heap.get? b = some o → b ∉ wr ∧ b ≠ Cc ∧ b ≠ D := fun b o e => ⟨(fun hm => by rw [hwr b hm, hIn] at e; cases e), (fun h => by rw [h, hCn] at e; cases e), (fun h => by rw [h, hDn] at e; cases e)⟩
  have hx' : ∀ b ∈ [I, Cc, D], s.heap.get? b = none := fun b hb => by
    simp only [List.mem_cons, List.not_mem_nil, or_false] at hb
    rcases hb with rfl | rfl | rfl <;> assumption
  have Xp := C.sim.avoid hx'
  -- the callee's view
  have view : ∃ Sc : Sx, Sc.prog = S.prog ∧ Sc.w = S.w ∧ Cc ∈ Sc.ad ∧ (∀ b ∈ Sc.ad, b ∈ [I, Cc, D] ∨ ∃ o, s.heap.get? b = some o) ∧ (∀ v v' z, VRel S ρ s.heap v z → Ren [] H v v' → (items = its ∧ base = cap.map fun i => loc[i]?.join) → v' = v → VRel Sc [] s.heap v' z) ∧ (¬ (items = its ∧ base = cap.map fun i => loc[i]?.join) → ∀ v v' z, VRel S ρ s.heap v z → Ren [] H v v' → VRel Sc [] s.heap v' z) ∧
      (∀ h' r y, Kp s.heap h' → VRel Sc [] h' r y → ((items = its ∧ base = cap.map fun i => loc[i]?.join) ∨ NoFl r) → VRel ⟨S.ad ++ [I, Cc, D], S.prog, S.w⟩ ρ h' r y) := by
    by_cases hg : items = its ∧ base = cap.map fun i => loc[i]?.join
    · refine ⟨⟨(S.ad ++ [I, Cc, D]) ++ ρ, S.prog, S.w⟩, rfl, rfl, by simp, fun b hm => (List.mem_append.mp hm).elim (fun q => (List.mem_append.mp q).elim (fun q => .inr (C.sd b q)) .inl) fun q => .inr (C.sim.mem q), ?_, fun h => absurd hg h, ?_⟩
      · intro v v' z V R _ e; subst e; exact (V.avoid hx').pure R
      · intro h' r y k V _
        exact VRel.up (Sc := ⟨(S.ad ++ [I, Cc, D]) ++ ρ, S.prog, S.w⟩) (S := ⟨S.ad ++ [I, Cc, D], S.prog, S.w⟩) rfl rfl (fun a h2 => ⟨fun q => h2 (List.mem_append_right _ q), fun q => h2 (List.mem_append_left _ q)⟩) (C.sim.kp k).noTuple (C.sim.kp k).listCls V
    · refine ⟨⟨S.ad ++ [I, Cc, D], S.prog, S.w⟩, rfl, rfl, by simp, fun b hm => (List.mem_append.mp hm).elim (fun q => .inr (C.sd b q)) .inl, fun _ _ _ _ _ h => absurd h hg, ?_, ?_⟩
      · intro _ v v' z V R; exact (V.avoid hx').frz Xp R
      · intro h' r y k V q; exact VRel.upN (fun _ h => h) (C.sim.kp k).noTuple (C.sim.kp k).listCls V (q.resolve_left hg)
  obtain ⟨Sc, hp, hw, hCsc, hsd, v1, v2, vback⟩ := view
  have seen : ∀ i v v' z, loc[i]?.join = some v → Ren [] H v v' → VRel S ρ s.heap v z → i ∈ cap → (∃ j : Nat, cap[j]? = some i ∧ base[j]?.join = some v') → VRel Sc [] s.heap v' z := by
    intro i v v' z e R V hi hb
    by_cases hg : items = its ∧ base = cap.map fun i => loc[i]?.join
    · refine v1 v v' z V R hg ?_
      obtain ⟨j, ej, eb⟩ := hb
      rw [hg.2, List.getElem?_map, ej] at eb
      simp at eb
      rw [e] at eb
      exact (Option.some.inj eb).symm
    · exact v2 hg v v' z V R
  have loop : ∀ s₃ : Shared, s₃ = { s with heap := h₁, toks := tk₂ + ([] : List (Str × Value)).length } →
      codeAny (model P.prog P.w) A (.compLoop (.ListComp elt [⟨tgt, it, ifs, 0⟩] scope pos) 0 (.ref I) (.ref D) (compEnvC scope cl Cc env)) (RR (.ref D) Cc) s₃ := by
    rintro s₃ rfl
    refine compLoop_tests (fun k s' => ∃ i h' tk m ys done, s' = { s with heap := h', toks := tk } ∧ k = its.length + 1 - i ∧ i ≤ its.length ∧ St i h' ∧ h'.PlainList D ys ∧ h'.Ns Cc m ∧ VRels ⟨S.ad ++ [I, Cc, D], S.prog, S.w⟩ ρ h' done ys.toList ∧ done.length ≤ i ∧ Kp s.heap h' ∧ CI (items.drop i) done) ?_ (its.length + 1)
      ⟨0, h₁, _, _, #[], [], rfl, rfl, Nat.zero_le _, W.frame _ _ _ st0 fun b _ o e => kH b o e, hacc, hns₁, .nil, Nat.zero_le _, k₂.trans kH, hitems⟩
    rintro k s' ⟨i, h', tk, m, ys, done, rfl, rfl, hi, st, hys, hn, hV, hdl, hk, hrest⟩
    by_cases hlt : i < its.length
    · refine W.item i _ _ _ hlt st fun y h₃ tk₃ hPy st₃ hk₃ => ?_
      have hi' : i < items.length := by rw [← hlenR]; exact hlt
      obtain ⟨u, eu, Vu⟩ := hit i y hlt hPy
      have eu' : items[i]? = some items[i] := by simp [hi']
      have Ru : Ren [] H u items[i] := rens_get hR eu eu'
      have hn₃ : h₃.Ns Cc m := hn.at' fun o e => hk₃ _ o hCw e
      have hCad : Cc ∈ Sc.ad := hCsc
      have uS : VRel Sc [] s.heap items[i] y := by
        by_cases hg : items = its ∧ base = cap.map fun i => loc[i]?.join
        · refine v1 u items[i] y Vu Ru hg ?_
          have : its[i]? = some items[i] := by rw [← hg.1]; exact eu'
          rw [eu] at this; exact (Option.some.inj this).symm
        · exact v2 hg u items[i] y Vu Ru
      have k₃ : Kp s.heap h₃ := fun b o e => hk₃ b o (stay b o e).1 (hk b o e)
      rw [List.drop_eq_getElem_cons hi'] at hrest
      obtain ⟨bx, hbx, hrest⟩ := hCI _ _ _ hrest
      obtain ⟨oI, hoI, hpI⟩ := hI _ _ st₃
      refine letGo_ok hoI hpI ?_
      refine wpAny_mono (tgt_ok hhn htg hnd rfl (by simp [compEnvC, relabel, hkind]) hCad (fun t htm => by rw [compEnv_kd _ _ _ _ ho.1]; unfold compKd; rw [hx t htm]) hn₃ (uS.kp0 k₃) hbx) (fun _ s₄ h₄' => ?_) fun _ _ y => y
      obtain ⟨h₄, tk₄, m₄, us, rfl, rfl, hs₄, hn₄, hus⟩ := h₄'
      have k₄ : Kp s.heap h₄ := fun b o e => by
        have q := stay b o e
        exact hs₄ b o q.2.1 (hk₃ b o q.1 (hk b o e))
      have st₄ : St (i + 1) h₄ := W.frame _ _ _ st₃ fun b hb o e => hs₄ b o (fun h => hCf (by have h' : b = Cc := h; rw [← h']; exact hb)) e
      have ys₄ : h₄.PlainList D ys := PlainList.at' hys fun o e => hs₄ D o hDC (hk₃ D o hDw e)
      have here : ∀ {h : Heap}, Kp h₄ h → ∀ b ∈ [I, Cc, D], ∃ o, h.get? b = some o := fun {h} kh b hb => by
        simp only [List.mem_cons, List.not_mem_nil, or_false] at hb
        rcases hb with rfl | rfl | rfl
        · obtain ⟨o, ho, _⟩ := hI _ _ st₄; exact ⟨o, kh _ _ ho⟩
        · obtain ⟨o, _, _, ho, _⟩ := hn₄; exact ⟨o, kh _ _ ho⟩
        · obtain ⟨o, ho⟩ := ys₄; exact ⟨_, kh _ _ ho⟩
      have ctx : ∀ {h : Heap} {tk : Nat}, Kp h₄ h → h.Ns Cc m₄ → Cx P l A (compEnvC scope cl Cc env) (freeNames scope ++ txs) Sc [] (base ++ us.map some) [] { s with heap := h, toks := tk } := fun {h} {tk} kh hnh =>
        comp_cx C ho hcl hcell hcap hx hbase (k₄.trans kh) hnh (fun i t u e1 e2 => let ⟨z, a, b⟩ := hus i t u e1 e2; ⟨z, a, b.kp0 kh⟩) hp hw (fun b hb => (hsd b hb).elim (fun q => here kh b q) fun ⟨o, ho⟩ => ⟨o, kh _ _ (k₄ _ _ ho)⟩) (fun i v v' z e1 e2 e3 _ hic hjb => (seen i v v' z e1 e2 e3 hic hjb).kp0 (k₄.trans kh))
      have V₄ : VRels ⟨S.ad ++ [I, Cc, D], S.prog, S.w⟩ ρ h₄ done ys.toList := hV.chg fun b o hb e => by
        have hb' : b ∉ [I, Cc, D] := fun q => hb (List.mem_append_right _ q)
        simp only [List.mem_cons, List.not_mem_nil, or_false, not_or] at hb'
        exact hs₄ b o hb'.2.1 (hk₃ b o (fun q => hb'.1 (hwr b q)) e)
      refine wpAny_mono (tests_ok hcs (iht Cc) hil (ctx (Kp.refl _) hn₄) hrest) (fun ok s₅ hok => ?_) fun _ _ y => y
      obtain ⟨h₅, tk₅, rfl, k₅, q₅⟩ := hok
      cases ok with
      | false =>
        refine ⟨its.length + 1 - (i + 1), cc1 hlt, i + 1, h₅, tk₅, _, ys, done, rfl, rfl, hlt, W.frame _ _ _ st₄ fun b _ o e => k₅ b o e, PlainList.at' ys₄ fun o e => k₅ _ o e, hn₄.keeps k₅, V₄.kp0 k₅, by omega, k₄.trans k₅, q₅⟩
      | true =>
        simp only [if_true] at q₅ ⊢
        rcases hSt _ _ _ _ hbx q₅ with hr | q₅
        · exact wpAny_mono (hz _ _ D Cc _ _ _ _ hr hbx hCn hDC (hn₄.keeps k₅) (k₄.trans k₅) (ctx k₅ (hn₄.keeps k₅))) (fun _ _ y => y.elim) fun _ _ y => y
        refine wpAny_mono (elt_ok (ihe Cc) (ctx k₅ (hn₄.keeps k₅)) q₅) (fun z s₆ hz => ?_) fun _ _ y => y
        obtain ⟨h₆, tk₆, r', rfl, k₆, Vr, hfl, q₆⟩ := hz
        have ys₆ : h₆.PlainList D ys := PlainList.at' ys₄ fun o e => k₆ _ o (k₅ _ o e)
        have e1 := V₄.length
        simp only [Array.length_toList] at e1
        refine wpAny_list_append_plain (hsz := Nat.le_of_lt (cc2 e1 hdl hlt hsm)) ys₆ fun h₇ hl₇ hs₇ => ?_
        have k₇ : Kp s.heap h₇ := fun b o e => hs₇.extBut b o (stay b o e).2.2 (k₆ b o (k₅ b o (k₄ b o e)))
        refine ⟨its.length + 1 - (i + 1), cc1 hlt, i + 1, h₇, tk₆, _, ys.push z, done ++ [r'], rfl, rfl, hlt, W.frame _ _ _ st₄ fun b hb o e => hs₇.extBut b o (fun h => hDf (h ▸ hb)) (k₆ b o (k₅ b o e)), hl₇, ((hn₄.keeps k₅).keeps k₆).sameBut hs₇ (Ne.symm hDC), ?_, by simp; omega, k₇, q₆⟩
        have Va : VRels ⟨S.ad ++ [I, Cc, D], S.prog, S.w⟩ ρ h₆ (done ++ [r']) (ys.toList ++ [z]) := ((V₄.kp0 k₅).kp0 k₆).app (.cons (vback h₆ r' z (k₄.trans (k₅.trans k₆)) Vr hfl) .nil)
        have Vb := Va.chg (h' := h₇) fun b o hb e => by
          have hb' : b ∉ [I, Cc, D] := fun q => hb (List.mem_append_right _ q)
          simp only [List.mem_cons, List.not_mem_nil, or_false, not_or] at hb'
          exact hs₇.extBut b o hb'.2.2 e
        simpa using Vb
    · have hie : i = its.length := Nat.le_antisymm hi (Nat.le_of_not_lt hlt)
      subst hie
      refine W.done _ _ _ st fun h₃ tk₃ hk₃ => ?_
      have hdrop : items.drop its.length = [] := by rw [hlenR]; simp
      rw [hdrop] at hrest
      replace hrest := hKe _ hrest
      have k₃ : Kp s.heap h₃ := fun b o e => hk₃ b o (stay b o e).1 (hk b o e)
      refine hRR D Cc h₃ tk₃ m ys done hDn hCn2 hCn hDC (hn.at' fun o e => hk₃ _ o hCw e) (PlainList.at' hys fun o e => hk₃ _ o hDw e) ?_ (Nat.le_trans hdl hsm) k₃ hrest
      exact hV.chg (h' := h₃) fun b o hb e => by
        have hb' : b ∉ [I, Cc, D] := fun q => hb (List.mem_append_right _ q)
        simp only [List.mem_cons, List.not_mem_nil, or_false, not_or] at hb'
        exact hk₃ b o (fun q => hb'.1 (hwr b q)) e
  exact codeAny_compStart_list (loop _ rfl) (W.self 0 _ _ _ (W.frame _ _ _ st0 fun b _ o e => kH b o e) (loop _ rfl))
end

open PySem PyProof.Rows PySem.SeqAt
section
variable {P : PC} {l : Lv} {A : Around} {env : Env} {names : List Str} {S : Sx} {ρ : List Addr} {loc : List (Option AV)} {H : AH} {s : Shared} {X : Str → Prop} {E : Value → Shared → Prop} {Q : AV → AH → Prop}

theorem folded_id {nt : NT} {n : Nat} {kd : Str → Option NameKind} {e : PySem.Expr} {c : CE} (h : compE nt n kd names e = some c) (x : Value) : foldedSetIterable e env x = pure x := by
  cases n with
  | zero => cases h
  | succ n => cases e <;> first | rfl | cases h

theorem allSome_len {α β : Type} {f : α → Option β} : ∀ {xs : List α} {ys : List β}, allSome (xs.map f) = some ys → xs.length = ys.length
  | [], _, h => by cases h; rfl
  | x :: r, _, h => by obtain ⟨a, t, _, e2, rfl⟩ := allSome_cons h; simp [allSome_len e2]
theorem allSome_get {α β : Type} {f : α → Option β} : ∀ {xs : List α} {ys : List β}, allSome (xs.map f) = some ys → ∀ (j : Nat) (e : α) (c : β), xs[j]? = some e → ys[j]? = some c → f e = some c
  | [], _, _, j, e, c, h1, _ => by simp at h1
  | x :: r, _, h, j, e, c, h1, h2 => by
    obtain ⟨a, t, e1, e2, rfl⟩ := allSome_cons h
    cases j with
    | zero => simp at h1 h2; subst h1 h2; exact e1
    | succ j => exact allSome_get e2 j e c (by simpa using h1) (by simpa using h2)
/-- what compOk says -/
theorem compOk_spec {scope : Scope} {kd : Str → Option NameKind} {xs : List Str} (h : compOk scope kd xs = true) : scope.kind = .function ∧ (∀ y ∈ scope.names, y.2 ≠ .cell) ∧ (∀ y ∈ scope.names, y.2 = .local → scope.names.lookup y.1 = some .local) ∧ (∀ x ∈ xs, scope.names.lookup x = some .local) ∧
    ∀ x ∈ freeNames scope, kd x = some .cell ∧ scope.names.lookup x = some .free := by
  unfold compOk at h
  simp only [Bool.and_eq_true, beq_iff_eq, List.all_eq_true, bne_iff_ne, ne_eq, Bool.or_eq_true, Bool.not_eq_true', decide_eq_true_eq, List.mem_map, forall_exists_index, and_imp, forall_apply_eq_imp_iff₂] at h
  obtain ⟨⟨⟨⟨⟨h1, h2⟩, h3⟩, h4⟩, h5⟩, h6⟩ := h
  refine ⟨h1, h2, fun y hy hl => (h3 y hy).resolve_left fun q => q hl, h4, fun x hx => ⟨h5 x hx, ?_⟩⟩
  have hx' := hx
  unfold freeNames at hx'
  obtain ⟨p, hp, rfl⟩ := List.mem_map.mp hx'
  have := h6 p (List.mem_filter.mp hp).1
  rcases this with q | q
  · have : (freeNames scope).contains p.1 = true := by simpa using hx
    rw [this] at q; cases q
  · exact q

/-- a comprehension, up to what is done with its list -/
theorem comp_run {use : Option (Value → Sem Unit)} {QQ : Value → Shared → Prop} (ho : EnvOk env) {nt : NT} {n : Nat} {scope : Scope} {cap : List Nat} {tgt : PySem.Expr} {nv : Nat} {txs : List Str} {pos pos' : Pos} {elt it : PySem.Expr} {ifs : List PySem.Expr} {ce ci : CE} {cs : List CE}
    (ih : ∀ (env : Env) (names : List Str), EnvOk env → ∀ (e : PySem.Expr) (c : CE), compE nt n env.kindOf names e = some c → EvOk P l env names e c ∧ TrOk P l env names e c)
    (hi : compE nt n env.kindOf names it = some ci) (hcap : allSome ((freeNames scope).map fun x => idxOf x names) = some cap) (he : compE nt n (compKd scope env.kindOf) (freeNames scope ++ txs) elt = some ce)
    (hc : allSome (ifs.map (compE nt n (compKd scope env.kindOf) (freeNames scope ++ txs))) = some cs) (hok : compOk scope env.kindOf txs = true) (htg : tgtNames tgt = some (nv, txs)) (hnd : txs.Nodup) (hcs : cs.length ≤ 1)
    (C : Cx P l A env names S ρ loc H s) (hE : ExOk P A X E s) (h : wpE P l X (.comp ce cs cap nv ci) loc H Q)
    (fin : ∀ h₁ tk₁ e₁ G₁ D Cc h' tk m ys vs, Kp s.heap h₁ → Fresh s.heap e₁ → Cx P l A env names S (ρ ++ e₁) loc (H ++ G₁) { s with heap := h₁, toks := tk₁ } → h₁.get? D = none → h₁.get? Cc = none → D ≠ Cc → h'.Ns Cc m → h'.PlainList D ys → (∃ Sp : Sx, Sp.prog = S.prog ∧ Sp.w = S.w ∧ (∀ b ∈ S.ad, b ∈ Sp.ad) ∧ D ∈ Sp.ad ∧ Cc ∈ Sp.ad ∧ VRels Sp (ρ ++ e₁) h' vs ys.toList) → vs.length ≤ smallN → Kp h₁ h' → Q (.ref (H ++ G₁).length) ((H ++ G₁) ++ [vs]) →
      compPost (model P.prog P.w) A E use QQ (.ref D) Cc (.ok .next) { s with heap := h', toks := tk }) :
    wpAny (model P.prog P.w) A (comprehension (.ListComp elt [⟨tgt, it, ifs, 0⟩] scope pos) scope env pos' (newList []) false (eval it env) use) QQ E s := by
  obtain ⟨h1, h2, h3, h4, h5⟩ := compOk_spec hok
  obtain ⟨cl, ecl, hcl⟩ := closure_ok (env := env) (scope := scope) fun x hx => ho.2.2.2 x (h5 x hx).1
  simp only [w_const, w_var, w_bin, w_neg, w_not, w_and, w_or, w_cmp, w_chain, w_idx, w_slc, w_tup, w_lst, w_dct, w_call, w_prim, w_isin, w_isown, w_meth, w_comp] at h
  refine wpAny_comprehension_free (g := ⟨tgt, it, ifs, 0⟩) (gs := []) rfl (fun x => folded_id hi x) ecl h1 h3 ?_
  refine EP.then ((ih env names ho it ci hi).1 A S ρ loc H s _ X E C hE h.2) fun x hh1 tk1 n1 v1 G1 k1 f1 X1 V1 qq => ?_
  obtain ⟨its, items, base, e1, e2, e3, e4, q⟩ := qq
  have C1 := C.kp (tk := tk1) k1 f1 X1
  refine iter_walk (C.aok.1 h.1) X1 V1 e1 fun I fp wr Pp St h₂ W st0 k₂ hwr hIn hfp _ hit hI => ?_
  have hIf : ∀ (Cc : Addr), EnvOk (compEnvC scope cl Cc env) := fun Cc => compEnv_ok ho h1 h2 hcl
  have kdc : ∀ (Cc : Addr), (compEnvC scope cl Cc env).kindOf = compKd scope env.kindOf := fun Cc => compEnv_kd scope env cl Cc ho.1
  exact comp_core (it := it) (pos := pos) (tk₂ := tk1) C1 ho h1 h2 hcl h5 hcap h4 htg hnd (C.aok.1 h.1) (fun Cc => (ih _ _ (hIf Cc) elt ce (by rw [kdc]; exact he)).1) (fun Cc j e c a b => (ih _ _ (hIf Cc) e c (by rw [kdc]; exact allSome_get hc j e c a b)).2) (allSome_len hc) hcs e2 e3 e4 W st0 k₂ hwr hIn hfp hit hI
    (CI := fun r done => compItems (fun x K => opt (bindItem nv x) fun bx => wpTests P l X cs (base ++ bx) K) (fun x K => opt (bindItem nv x) fun bx => wpE P l X ce (base ++ bx) [] fun r Hc => ∃ r', Ren [] Hc r r' ∧ ((items = its ∧ base = cap.map fun i => loc[i]?.join) ∨ NoFl r') ∧ K r') r fun vs => Q (.ref (H ++ G1).length) (H ++ G1 ++ [done ++ vs]))
    (St' := fun x r done => opt (bindItem nv x) fun bx => wpE P l X ce (base ++ bx) [] fun v Hc => ∃ r', Ren [] Hc v r' ∧ ((items = its ∧ base = cap.map fun i => loc[i]?.join) ∨ NoFl r') ∧ compItems (fun x K => opt (bindItem nv x) fun bx => wpTests P l X cs (base ++ bx) K) (fun x K => opt (bindItem nv x) fun bx => wpE P l X ce (base ++ bx) [] fun r Hc => ∃ r', Ren [] Hc r r' ∧ ((items = its ∧ base = cap.map fun i => loc[i]?.join) ∨ NoFl r') ∧ K r') r fun vs => Q (.ref (H ++ G1).length) (H ++ G1 ++ [done ++ (r' :: vs)]))
    (Rz := fun _ => False) (K := fun vs => Q (.ref (H ++ G1).length) (H ++ G1 ++ [vs])) q (fun x r done hc => opt_of hc) (fun x r done bx hb hs => .inr (by rw [hb] at hs; simpa using hs)) (fun done hc => by simpa [compItems] using hc) (fun _ _ _ _ _ _ _ _ hr => hr.elim)
    (fun D Cc h' tk m ys vs a1 a2 a3 a4 a5 a6 a7 a8 a9 a10 => fin hh1 tk1 n1 G1 D Cc h' tk m ys vs k1 f1 C1 a1 a3 a4 a5 a6 ⟨⟨S.ad ++ [I, Cc, D], S.prog, S.w⟩, rfl, rfl, fun b hb => List.mem_append_left _ hb, List.mem_append_right _ (by simp), List.mem_append_right _ (by simp), a7⟩ a8 a9 a10)

theorem comp_ok (ho : EnvOk env) {nt : NT} {n : Nat} {scope : Scope} {cap : List Nat} {tgt : PySem.Expr} {nv : Nat} {txs : List Str} {pos : Pos} {elt it : PySem.Expr} {ifs : List PySem.Expr} {ce ci : CE} {cs : List CE}
    (ih : ∀ (env : Env) (names : List Str), EnvOk env → ∀ (e : PySem.Expr) (c : CE), compE nt n env.kindOf names e = some c → EvOk P l env names e c ∧ TrOk P l env names e c)
    (hi : compE nt n env.kindOf names it = some ci) (hcap : allSome ((freeNames scope).map fun x => idxOf x names) = some cap) (he : compE nt n (compKd scope env.kindOf) (freeNames scope ++ txs) elt = some ce)
    (hc : allSome (ifs.map (compE nt n (compKd scope env.kindOf) (freeNames scope ++ txs))) = some cs) (hok : compOk scope env.kindOf txs = true) (htg : tgtNames tgt = some (nv, txs)) (hnd : txs.Nodup) (hcs : cs.length ≤ 1) :
    EvOk P l env names (.ListComp elt [⟨tgt, it, ifs, 0⟩] scope pos) (.comp ce cs cap nv ci) := by
  intro A S ρ loc H s Q X E C hE h
  show wpAny _ A (comprehension (.ListComp elt [⟨tgt, it, ifs, 0⟩] scope pos) scope env (firstIterPos [⟨tgt, it, ifs, 0⟩] pos) (newList []) false (eval it env) none) _ _ s
  refine comp_run ho ih hi hcap he hc hok htg hnd hcs C hE h ?_
  intro h₁ tk₁ e₁ G₁ D Cc h' tk m ys vs k1 f1 C1 hD hCc hDC hn hp hV hl k' q
  refine ⟨m, hn, fun h'' hs => ?_⟩
  have k'' : Kp h₁ h'' := fun b o e => hs.extBut b o (fun hb => by rw [hb, hCc] at e; cases e) (k' b o e)
  obtain ⟨Sp, hp1, hp2, hp3, hp4, hp5, hV⟩ := hV
  refine EP.after (G := G₁) (tk₁ := tk₁) k1 f1 ?_
  refine ⟨h'', tk, [D], .ref (H ++ G₁).length, [vs], rfl, k'', fun a ha => by simp at ha; subst ha; exact hD, ?_, .ref ?_, q⟩
  · refine C1.sim.pushO k'' hD (fun hm => ?_) (PlainList.at' hp fun o e => hs.extBut D o hDC e) ?_
    · obtain ⟨o, ho⟩ := C1.sd D hm; rw [hD] at ho; cases ho
    · refine VRels.own hp1 hp2 hp3 (fun b hb => by simp at hb; subst hb; exact hp4) (hV.chg fun b o hb e => hs.extBut b o (fun h => hb (h ▸ hp5)) e)
  · rw [← C1.sim.len]; simp
end

open PySem PyProof.Rows PySem.SeqAt
theorem strKey_some {k : Option PySem.Expr} {x : Str} (h : strKey k = some x) : ∃ kk kp, k = some (.Constant (.str x) kk kp) := by
  cases k with
  | none => cases h
  | some e =>
    cases e <;> first | (cases h; done) | skip
    rename_i c kk kp
    cases c <;> first | (cases h; done) | skip
    cases h
    exact ⟨_, _, rfl⟩
section
variable {P : PC} {l : Lv} {A : Around} {env : Env} {names : List Str} {S : Sx} {ρ : List Addr} {loc : List (Option AV)} {H : AH} {s : Shared} {X : Str → Prop} {E : Value → Shared → Prop} {Q : AV → AH → Prop}

theorem HSim.chg {h h' : Heap} (Z : HSim S ρ H h) (hk : ∀ b o, b ∉ S.ad → h.get? b = some o → h'.get? b = some o) : HSim S ρ H h' where
  len := Z.len
  nodup := Z.nodup
  off := Z.off
  obj := fun i vs e => by
    obtain ⟨a, items, e1, p, v⟩ := Z.obj i vs e
    exact ⟨a, items, e1, PlainList.at' p fun o q => hk _ o (Z.off a (List.mem_of_getElem? e1)) q, v.chg hk⟩
theorem HSim.sub {S' : Sx} (hp : S'.prog = S.prog) (hw : S'.w = S.w) (hs : ∀ b ∈ S.ad, b ∈ S'.ad) {h : Heap} (Z : HSim S' ρ H h) : HSim S ρ H h where
  len := Z.len
  nodup := Z.nodup
  off := fun a ha hm => Z.off a ha (hs a hm)
  obj := fun i vs e => by
    obtain ⟨a, items, e1, p, v⟩ := Z.obj i vs e
    exact ⟨a, items, e1, p, v.sub hp hw hs⟩
theorem Cx.guard {x' : List Addr} {h' : Heap} {tk : Nat} (C : Cx P l A env names S ρ loc H s) (hx : ∀ b ∈ x', s.heap.get? b = none) (k : Kp s.heap h') (hd : ∀ b ∈ x', ∃ o, h'.get? b = some o) : Cx P l A env names ⟨S.ad ++ x', S.prog, S.w⟩ ρ loc H { s with heap := h', toks := tk } where
  aok := C.aok
  gok := C.gok.kp k
  pp := C.pp
  pw := C.pw
  sd := fun b hb => (List.mem_append.mp hb).elim (fun q => let ⟨o, e⟩ := C.sd b q; ⟨o, k _ _ e⟩) (hd b)
  sim := (C.sim.avoid hx).kp k
  loc := fun i y v en e => let ⟨rv, h2, h3⟩ := C.loc i y v en e; ⟨rv, h2.kp k, (h3.avoid hx).kp0 k⟩
theorem any_key_false {k : Str} : ∀ {kvs : List (Str × Value)}, k ∉ kvs.map (·.1) → kvs.any (fun kv => decide (kv.1 = k)) = false
  | [], _ => rfl
  | p :: r, h => by
    simp at h
    simp [any_key_false (kvs := r) (by simpa using h.2), Ne.symm h.1]
theorem merged_nodup : ∀ (more kvs : List (Str × Value)), ((kvs ++ more).map (·.1)).Nodup → merged kvs more = kvs ++ more
  | [], kvs, _ => by simp [merged]
  | p :: r, kvs, h => by
    have e : stored kvs p.1 p.2 = kvs ++ [p] := by
      unfold stored
      rw [if_neg]
      rw [any_key_false]
      · simp
      · intro hm
        rw [List.map_append, List.map_cons, List.nodup_append] at h
        exact h.2.2 _ hm _ (.head _) rfl
    show merged (stored kvs p.1 p.2) r = _
    rw [e, merged_nodup r (kvs ++ [p]) (by simpa using h)]
    simp
theorem valueAt_zip {k : Str} : ∀ (ks : List Str) (xs : List Value), valueAt (ks.zip xs) k = (ks.zip xs).lookup k
  | [], _ => rfl
  | _ :: _, [] => rfl
  | a :: ks, x :: xs => by
    have ih := valueAt_zip (k := k) ks xs
    unfold valueAt at ih ⊢
    simp only [List.zip_cons_cons, List.find?_cons, List.lookup_cons]
    by_cases h : a = k
    · subst h; simp
    · have h' : (k == a) = false := by simpa using Ne.symm h
      simp only [h, decide_false, h', ih]

theorem pairs_ok {nt : NT} {n : Nat} {kd : Str → Option NameKind} {pos : Pos} (ih : ∀ (e : PySem.Expr) (c : CE), compE nt n kd names e = some c → EvOk P l env names e c) :
    ∀ (keys : List (Option PySem.Expr)) (es : List PySem.Expr) (ks : List Str) (cs : List CE), allSome (keys.map strKey) = some ks → allSome (es.map (compE nt n kd names)) = some cs → ks.length = cs.length → ∀ {ρ : List Addr} {H : AH} {s : Shared} {Q : List AV → AH → Prop}, Cx P l A env names S ρ loc H s → ExOk P A X E s → wpEs P l X cs loc H Q →
      wpAny (model P.prog P.w) A (evalPairs (pairTrees keys es env pos)) (fun vs s₁ => ∃ xs, EPs S ρ H s Q xs s₁ ∧ Carries (strKind P.prog P.w) vs (ks.zip xs) ∧ xs.length = ks.length) E s
  | [], [], _, _, hk, hc, _, ρ, H, s, Q, C, hE, h => by
    cases hk; cases hc
    exact pairTrees_nil_walk ⟨[], ⟨s.heap, s.toks, [], [], [], rfl, Kp.refl _, Fresh.nil _, by simpa using C.sim, .nil, by simpa [w_nil, w_cons] using h⟩, trivial, rfl⟩
  | [], _ :: _, _, _, hk, hc, hl, _, _, _, _, _, _, _ => by
    obtain ⟨a, t, e1, e2, rfl⟩ := allSome_cons hc
    cases hk; simp at hl
  | _ :: _, [], _, _, hk, hc, hl, _, _, _, _, _, _, _ => by
    obtain ⟨a, t, e1, e2, rfl⟩ := allSome_cons hk
    cases hc; simp at hl
  | k :: keys, e :: es, _, _, hk, hc, hl, ρ, H, s, Q, C, hE, h => by
    obtain ⟨kx, kt, k1, k2, rfl⟩ := allSome_cons hk
    obtain ⟨a, t, e1, e2, rfl⟩ := allSome_cons hc
    obtain ⟨kk, kp, rfl⟩ : ∃ kk kp, k = some (.Constant (.str kx) kk kp) := by
      exact strKey_some k1
    refine pairTrees_cons_walk ?_
    rw [eval_Constant]
    refine wpAny_mkText ?_
    have C0 : Cx P l A env names S ρ loc H { s with toks := s.toks + 1 } := ⟨C.aok, C.gok, C.pp, C.pw, C.sd, C.sim, C.loc⟩
    have E0 : ExOk P A X E { s with toks := s.toks + 1 } := fun h tk e s' k q => hE h tk e s' k q
    refine EP.then (ih e a e1 A S ρ loc H { s with toks := s.toks + 1 } _ X E C0 E0 h) fun x h1 tk1 n1 v1 G1 k1' f1 X1 V1 q1 => ?_
    refine wpAny_mono (pairs_ok ih keys es kt t k2 e2 (by simpa using hl) (C0.kp (tk := tk1) k1' f1 X1) (E0.kp k1') q1) (fun vs s₂ hx => ?_) fun _ _ y => y
    obtain ⟨xs, ⟨h2, tk2, n2, us, G2, rfl, k2', f2, X2, V2, q2⟩, hcar, hxl⟩ := hx
    exact ⟨x :: xs, ⟨h2, tk2, n1 ++ n2, v1 :: us, G1 ++ G2, rfl, Kp.trans k1' k2', fresh_trans k1' f1 f2, by simpa [List.append_assoc] using X2, by simpa [List.append_assoc] using VRels.cons (V1.kp k2' f2) V2, by simpa [List.append_assoc] using q2⟩, ⟨strKind_is P.prog P.w _ _, rfl, hcar⟩, by simp [hxl]⟩

theorem dct_ok {nt : NT} {n : Nat} {kd : Str → Option NameKind} {keys : List (Option PySem.Expr)} {es : List PySem.Expr} {p : Pos} {ks : List Str} {cs : List CE} (ih : ∀ (e : PySem.Expr) (c : CE), compE nt n kd names e = some c → EvOk P l env names e c)
    (hk : allSome (keys.map strKey) = some ks) (e : allSome (es.map (compE nt n kd names)) = some cs) (hl : ks.length = cs.length ∧ ks.Nodup ∧ ks.length < 15) : EvOk P l env names (.Dict keys es p) (.dct ks cs) := by
  intro A S ρ loc H s Q X E C hE h
  simp only [w_const, w_var, w_bin, w_neg, w_not, w_and, w_or, w_cmp, w_chain, w_idx, w_slc, w_tup, w_lst, w_dct, w_call, w_prim, w_isin, w_isown, w_meth, w_comp] at h
  have n0 := size_none s.heap
  have nS : s.heap.objs.size ≠ sysModules := fun q => by
    obtain ⟨o, _, _, ho, _⟩ := C.gok.g
    have := Heap.lt_size ho
    rw [q] at this
    exact absurd this (by decide)
  cases ks with
  | nil =>
    have : keys = [] := List.length_eq_zero_iff.mp (allSome_len hk)
    subst this
    have hcs : cs = [] := List.length_eq_zero_iff.mp (by simpa using hl.1.symm)
    subst hcs
    have : es = [] := List.length_eq_zero_iff.mp (allSome_len e)
    subst this
    simp only [w_nil, w_cons] at h
    refine wpAny_Dict_empty ?_
    refine EP.grow C.sim (push_kp _ _) (.dict (f := fun _ => none) (xs := []) (fun hm => by obtain ⟨o, ho⟩ := C.sim.mem hm; rw [n0] at ho; cases ho) (fun hm => by obtain ⟨o, ho⟩ := C.sd _ hm; rw [n0] at ho; cases ho) ?_ (fun _ => rfl) .nil) h
    have := (Heap.DictOf.new (knd := strKind S.prog S.w) s.heap).mapOf
    exact ⟨nS, this⟩
  | cons k0 kr =>
  have hlen := allSome_len hk
  have hle := allSome_len e
  refine wpAny_Dict_walk (knd := strKind P.prog P.w) ?_ (by omega) (by intro h; rw [h] at hlen; simp at hlen) (by omega) ?_
  · rw [List.all_eq_true]
    intro k hkm
    obtain ⟨i, hi, rfl⟩ := List.mem_iff_getElem.mp hkm
    have := allSome_get hk i keys[i] ((k0 :: kr)[i]'(by omega)) (by simp [hi]) (by simp)
    obtain ⟨_, _, q⟩ := strKey_some this
    rw [q]; rfl
  · have hx' : ∀ b ∈ [s.heap.objs.size], s.heap.get? b = none := fun b hb => by simp at hb; subst hb; exact n0
    have C0 := C.guard (tk := s.toks) (x' := [s.heap.objs.size]) (h' := s.heap.push { cls := .type "dict", data := .dict #[] }) hx' (push_kp _ _) (fun b hb => by simp at hb; subst hb; exact ⟨_, Heap.get?_push_size _ rfl⟩)
    refine wpAny_mono (pairs_ok ih keys es (k0 :: kr) cs hk e hl.1 C0 (hE.kp (push_kp _ _)) h) (fun vs s₁ hx => ?_) fun _ _ y => y
    obtain ⟨xs, ⟨h2, tk2, n2, us, G2, rfl, k2, f2, X2, V2, q2⟩, hcar, hxl⟩ := hx
    refine ⟨_, hcar, (Heap.DictOf.new (knd := strKind P.prog P.w) s.heap).keep k2, fun h' hd hs => ?_⟩
    have kk : Kp s.heap h' := fun b o e => hs.extBut b o (fun hb => by rw [hb, n0] at e; cases e) (k2 _ _ (push_kp _ _ b o e))
    have chg : ∀ b o, b ∉ (⟨S.ad ++ [s.heap.objs.size], S.prog, S.w⟩ : Sx).ad → h2.get? b = some o → h'.get? b = some o := fun b o hb e => hs.extBut b o (fun q => hb (List.mem_append_right _ (by simp [q]))) e
    have hsub : ∀ b ∈ S.ad, b ∈ (⟨S.ad ++ [s.heap.objs.size], S.prog, S.w⟩ : Sx).ad := fun b hb => List.mem_append_left _ hb
    have fr : Fresh s.heap n2 := fun a ha => by
      cases q : s.heap.get? a with
      | none => rfl
      | some o => have := f2 a ha; rw [push_kp _ _ a o q] at this; cases this
    have hDn : s.heap.objs.size ∉ ρ ++ n2 := fun hm => (List.mem_append.mp hm).elim (fun q => by obtain ⟨o, ho⟩ := C.sim.mem q; rw [n0] at ho; cases ho) fun q => by have := f2 _ q; rw [Heap.get?_push_size _ rfl] at this; cases this
    have hks : ((k0 :: kr).zip xs).map (·.1) = k0 :: kr := by rw [List.map_fst_zip]; omega
    rw [merged_nodup _ [] (by rw [List.nil_append, hks]; exact hl.2.1), List.nil_append] at hd
    have hm := hd.mapOf
    refine ⟨h', _, n2, .dict (k0 :: kr) us, G2, rfl, kk, fr, HSim.sub (S := S) (S' := ⟨S.ad ++ [s.heap.objs.size], S.prog, S.w⟩) rfl rfl hsub (X2.chg chg), ?_, q2⟩
    refine .dict hDn (fun hm => by obtain ⟨o, ho⟩ := C.sd _ hm; rw [n0] at ho; cases ho) (by rw [C.pp, C.pw]; exact ⟨nS, hm⟩) (fun k => valueAt_zip _ _) (VRels.sub (S := S) (S' := ⟨S.ad ++ [s.heap.objs.size], S.prog, S.w⟩) rfl rfl hsub (V2.chg chg))
end

open PySem PyProof.Rows PySem.SeqAt
section
variable {P : PC} {l : Lv} {A : Around} {env : Env} {names : List Str} {S : Sx} {ρ : List Addr} {loc : List (Option AV)} {H : AH} {s : Shared} {X : Str → Prop} {E : Value → Shared → Prop} {Q : AV → AH → Prop}

theorem base_id {nt : NT} {n : Nat} {kd : Str → Option NameKind} {o : PySem.Expr} {c : CE} (h : compE nt n kd names o = some c) (name : Str) : attributeBase o name env (eval o env) = eval o env := by
  cases n with
  | zero => cases h
  | succ n =>
    cases o <;> first | rfl | skip
    rename_i f args kws p
    rcases args with _ | ⟨a, r⟩
    · exfalso
      replace h : (if kws.isEmpty then compCall nt (compE nt n kd names) kd f [] p else Option.none) = some c := h
      split at h
      · unfold compCall at h
        cases e : nameOf f with
        | some x =>
          simp only [e] at h
          split at h
          · split at h
            · cases h
            · cases h
          · cases h
        | none =>
          simp only [e] at h
          cases e2 : attrOf f with
          | none => simp [e2] at h
          | some q =>
            simp only [e2] at h
            obtain ⟨c1, e1, h⟩ := Option.bind_eq_some_iff.mp h
            obtain ⟨l1, e2, h⟩ := Option.bind_eq_some_iff.mp h
            cases e2
            split at h
            · rename_i hc; simp at hc
            · cases h
      · cases h
    · cases f <;> rfl
theorem star_all {nt : NT} {n : Nat} {kd : Str → Option NameKind} {pos : Pos} (es : List PySem.Expr) (cs : List CE) (h : allSome (es.map (compE nt n kd names)) = some cs) : (backTo pos (starEach es env)).all (fun x => !x.1) = true := by
  have := star_any (env := env) (pos := pos) es cs h
  rw [List.any_eq_false] at this
  rw [List.all_eq_true]
  intro x hx
  simpa using this x hx
theorem isL_real {v : AV} {x : Value} (Z : HSim S ρ H s.heap) (V : VRel S ρ s.heap v x) (h : v.isL = true) : ∃ a items, x = .ref a ∧ s.heap.PlainList a items := by
  cases V with
  | fl ha hs hi hv => exact ⟨_, _, rfl, hi⟩
  | ref hi => obtain ⟨items, p, _⟩ := Z.mem' hi; exact ⟨_, _, rfl, p⟩
  | _ => cases h

/-- a method is called -/
theorem meth_runG {T : String} {Gd : AV → Prop} {On : AV → Prop → Prop} (hon : ∀ v K, On v K → Gd v ∧ K) (pa : PlainAttrs T) (real : ∀ {ρ : List Addr} {H : AH} {s : Shared} {v : AV} {x : Value}, HSim S ρ H s.heap → VRel S ρ s.heap v x → Gd v → s.TypeIs x T ∧ ∀ a, x = .ref a → ∃ ob, s.heap.get? a = some ob ∧ ob.dict = none) {nt : NT} {n : Nat} {kd : Str → Option NameKind} {o : PySem.Expr} {name : Str} {id : String} {ap p : Pos} {es : List PySem.Expr} {c : CE} {cs : List CE} {R : AV → List AV → AH → Prop} {QQ : Value → Shared → Prop}
    (ih : ∀ (e : PySem.Expr) (c : CE), compE nt n kd names e = some c → EvOk P l env names e c) (e1 : compE nt n kd names o = some c) (e2 : allSome (es.map (compE nt n kd names)) = some cs) (hl : (ap.endLine == p.line) = true) (hlen : cs.length ≤ 20)
    (slot : Slot T name id) (hty : typeOf (.builtin id) = pure (.type "method_descriptor"))
    (C : Cx P l A env names S ρ loc H s) (hE : ExOk P A X E s) (h : wpE P l X c loc H fun v H₁ => On v <| wpEs P l X cs loc H₁ fun vs H₂ => R v vs H₂)
    (fin : ∀ {h' : Heap} {tk : Nat} {e : List Addr} {G : AH} {v : AV} {vs : List AV} {x : Value} {xs : List Value}, Kp s.heap h' → Fresh s.heap e → Cx P l A env names S (ρ ++ e) loc (H ++ G) { s with heap := h', toks := tk } → VRel S (ρ ++ e) h' v x → VRels S (ρ ++ e) h' vs xs → Gd v → R v vs (H ++ G) →
      wpAny (model P.prog P.w) A (call (.builtin id) (x :: xs)) QQ E { s with heap := h', toks := tk }) :
    wpAny (model P.prog P.w) A (eval (.Call (.Attribute o name ap) es [] p) env) QQ E s := by
  have hln := allSome_len e2
  refine wpAny_Call_method (base_id e1 name) ?_ hl pa slot hty ?_
  · rw [star_all es cs e2]
    show (true && true && decide (es.length + 0 + 0 < 30)) = true
    simp; omega
  refine EP.then (ih o c e1 A S ρ loc H s _ X E C hE h) fun x h1 tk1 n1 v1 G1 k1 f1 X1 V1 qz => ?_
  obtain ⟨hL, q1⟩ := hon _ _ qz
  obtain ⟨hT, hD⟩ := real (s := { s with heap := h1, toks := tk1 }) X1 V1 hL
  refine ⟨hT, hD, ?_⟩
  have C1 := C.kp (tk := tk1) k1 f1 X1
  cases es with
  | nil =>
    cases e2
    simp only [w_nil, w_cons] at q1
    exact callWith_method0 (fin k1 f1 C1 V1 .nil hL q1)
  | cons e r =>
    obtain ⟨c0, t0, e3, e4, rfl⟩ := allSome_cons e2
    refine callWith_method1 (EPs.then (args_ok ih (e :: r) (c0 :: t0) e2 C1 (hE.kp k1) q1) fun xs h2 tk2 n2 vs G2 k2 f2 X2 V2 q2 => ?_) (not_starred e3 r) (star_any r t0 e4)
    have := fin (tk := tk2) (k1.trans k2) (fresh_trans k1 f1 f2) (by simpa [List.append_assoc] using C1.kp (tk := tk2) k2 f2 X2) (by simpa [List.append_assoc] using V1.kp k2 f2) (by simpa [List.append_assoc] using V2) hL (by simpa [List.append_assoc] using q2)
    exact this

theorem isL_typed {ρ : List Addr} {H : AH} {s : Shared} {v : AV} {x : Value} (Z : HSim S ρ H s.heap) (V : VRel S ρ s.heap v x) (h : v.isL = true) : s.TypeIs x "list" ∧ ∀ a, x = .ref a → ∃ ob, s.heap.get? a = some ob ∧ ob.dict = none := by
  obtain ⟨a, items, rfl, ⟨m, hp⟩⟩ := isL_real Z V h
  exact ⟨⟨_, hp, rfl⟩, fun b hb => by cases hb; exact ⟨_, hp, rfl⟩⟩
/-- a method of a list is called -/
theorem meth_run {nt : NT} {n : Nat} {kd : Str → Option NameKind} {o : PySem.Expr} {name : Str} {id : String} {ap p : Pos} {es : List PySem.Expr} {c : CE} {cs : List CE} {R : AV → List AV → AH → Prop} {QQ : Value → Shared → Prop}
    (ih : ∀ (e : PySem.Expr) (c : CE), compE nt n kd names e = some c → EvOk P l env names e c) (e1 : compE nt n kd names o = some c) (e2 : allSome (es.map (compE nt n kd names)) = some cs) (hl : (ap.endLine == p.line) = true) (hlen : cs.length ≤ 20)
    (slot : Slot "list" name id) (hty : typeOf (.builtin id) = pure (.type "method_descriptor"))
    (C : Cx P l A env names S ρ loc H s) (hE : ExOk P A X E s) (h : wpE P l X c loc H fun v H₁ => onL v <| wpEs P l X cs loc H₁ fun vs H₂ => R v vs H₂)
    (fin : ∀ {h' : Heap} {tk : Nat} {e : List Addr} {G : AH} {v : AV} {vs : List AV} {x : Value} {xs : List Value}, Kp s.heap h' → Fresh s.heap e → Cx P l A env names S (ρ ++ e) loc (H ++ G) { s with heap := h', toks := tk } → VRel S (ρ ++ e) h' v x → VRels S (ρ ++ e) h' vs xs → v.isL = true → R v vs (H ++ G) →
      wpAny (model P.prog P.w) A (call (.builtin id) (x :: xs)) QQ E { s with heap := h', toks := tk }) :
    wpAny (model P.prog P.w) A (eval (.Call (.Attribute o name ap) es [] p) env) QQ E s :=
  meth_runG (Gd := fun v => v.isL = true) (On := onL) (fun _ _ h => onL_of h) F.plainAttrs_list isL_typed ih e1 e2 hl hlen slot hty C hE h fin
theorem isStr_typed {ρ : List Addr} {H : AH} {s : Shared} {v : AV} {x : Value} (_ : HSim S ρ H s.heap) (V : VRel S ρ s.heap v x) (h : ∃ z, v = .str z) : s.TypeIs x "str" ∧ ∀ a, x = .ref a → ∃ ob, s.heap.get? a = some ob ∧ ob.dict = none := by
  obtain ⟨z, rfl⟩ := h
  obtain ⟨t, rfl⟩ := V.ofStr
  exact ⟨typeIs_str _ _ _, fun _ e => nomatch e⟩
theorem isDict_typed {ρ : List Addr} {H : AH} {s : Shared} {v : AV} {x : Value} (_ : HSim S ρ H s.heap) (V : VRel S ρ s.heap v x) (h : ∃ ks vs, v = .dict ks vs) : s.TypeIs x "dict" ∧ ∀ a, x = .ref a → ∃ ob, s.heap.get? a = some ob ∧ ob.dict = none := by
  obtain ⟨ks, vs, rfl⟩ := h
  cases V with | dict _ _ hm _ _ => exact ⟨hm.2.typeIs, hm.2.noDict⟩
theorem onStr_of {v : AV} {K : Prop} (h : onStr v K) : (∃ z, v = .str z) ∧ K := by cases v <;> first | (exact False.elim h) | exact ⟨⟨_, rfl⟩, h⟩
theorem onDict_of {v : AV} {K : Prop} (h : onDict v K) : (∃ ks vs, v = .dict ks vs) ∧ K := by cases v <;> first | (exact False.elim h) | exact ⟨⟨_, _, rfl⟩, h⟩
/-- texts -/
theorem VRels.strs {ρ : List Addr} {h : Heap} {ws : List Str} {xs : List Value} (V : VRels S ρ h (ws.map AV.str) xs) : ∃ l : List (Str × Tok), xs = strValues l ∧ l.map (·.1) = ws := by
  induction ws generalizing xs with
  | nil => cases V.of0; exact ⟨[], rfl, rfl⟩
  | cons z ws ih =>
    obtain ⟨y, ys, rfl, hv, hr⟩ := V.cons_inv
    obtain ⟨t, rfl⟩ := hv.ofStr
    obtain ⟨l, rfl, e⟩ := ih hr
    exact ⟨(z, t) :: l, rfl, by rw [List.map_cons, e]⟩
theorem VRels.ofStrs {ρ : List Addr} {h : Heap} : ∀ (l : List (Str × Tok)), VRels S ρ h ((l.map (·.1)).map AV.str) (strValues l)
  | [] => .nil
  | p :: l => .cons (.str p.1 p.2) (VRels.ofStrs l)
theorem lookup_none {ρ : List Addr} {h : Heap} {x : Str} {ks : List Str} {vs : List AV} {xs : List Value} (V : VRels S ρ h vs xs) : ∃ z, ((ks.zip xs).lookup x).getD .none = z ∧ VRel S ρ h (((ks.zip vs).lookup x).getD .none) z := by
  induction ks generalizing vs xs with
  | nil => exact ⟨_, rfl, .none⟩
  | cons k ks ih =>
    cases vs with
    | nil => cases V.of0; exact ⟨_, rfl, .none⟩
    | cons u vs =>
      obtain ⟨z, zs, rfl, hv, hr⟩ := V.cons_inv
      simp only [List.zip_cons_cons, List.lookup_cons]
      cases x == k
      · exact ih hr
      · exact ⟨z, rfl, hv⟩
theorem split_run {x y : Str} {t u : Tok} {QQ : Value → Shared → Prop} (hy : (y.length == 0) = false) (hx : x.length + 1 ≤ smallN) (hp : (Txt.split x y).length ≤ smallN)
    (hq : ∀ l k, l.map (·.1) = Txt.split x y → QQ (.ref s.heap.objs.size) { s with heap := s.heap.push { cls := .type "list", data := .seq (strValues l).toArray }, toks := k }) :
    wpAny (model P.prog P.w) A (call (.builtin "str.split") [.str x t, .str y u]) QQ E s := by
  have hsz : x.length ≤ sizeLine := Nat.le_trans (Nat.le_of_succ_le hx) (by decide)
  unfold Txt.split at hq hp
  cases h1 : (decide (x.length < y.length) || decide (Builtin.Str.strKind x < Builtin.Str.strKind y))
  · rw [h1, if_neg Bool.false_ne_true] at hq hp
    cases hf : (Builtin.Str.occurrences x y 0 x.length (x.length + 1)).isEmpty
    · rw [hf, if_neg Bool.false_ne_true] at hq hp
      refine call_meets F.slot_str_split (typeIs_str _ _ _) F.entry_str_split (F.args_str_split_2 _ _) (meets_str_split_sep x y t u h1 hy hf hsz (Nat.le_trans hp (by decide))) ?_
      show wants QQ E _ { s with toks := _, heap := s.heap.push { cls := .type "list", data := .seq (strsFrom s.toks (Builtin.Str.partsBetween x (Builtin.Str.occurrences x y 0 x.length (x.length + 1)) y.length)).toArray } }
      rw [strsFrom_eq]
      exact hq (numbered s.toks _) _ (numbered_texts _ _)
    · rw [hf, if_pos rfl] at hq
      exact call_meets F.slot_str_split (typeIs_str _ _ _) F.entry_str_split (F.args_str_split_2 _ _) (meets_str_split_not_found x y t u h1 hy hf) (hq [(x, t)] _ rfl)
  · rw [h1, if_pos rfl] at hq
    exact call_meets F.slot_str_split (typeIs_str _ _ _) F.entry_str_split (F.args_str_split_2 _ _) (meets_str_split_cannot_occur x y t u h1) (hq [(x, t)] _ rfl)
theorem countP_reads {h : Heap} {d : PyData} : ∀ {ys : List Value} {ds : List PyData} {as : List Addr}, ReadsAll h ys ds as → PyData.canLayAll0 ds = true → ys.countP (eqIn h d) = ds.countP fun e => e.eqv d
  | _, _, _, .nil, _ => rfl
  | _, _, _, .cons r rs, hc => by
    simp [PyData.canLayAll0] at hc
    simp [List.countP_cons, eqIn_of (da := d) r hc.1, countP_reads (d := d) rs hc.2]
theorem findIdx_reads {h : Heap} {d : PyData} : ∀ {ys : List Value} {ds : List PyData} {as : List Addr}, ReadsAll h ys ds as → PyData.canLayAll0 ds = true → ys.findIdx? (eqIn h d) = ds.findIdx? fun e => e.eqv d
  | _, _, _, .nil, _ => rfl
  | _, _, _, .cons r rs, hc => by
    simp [PyData.canLayAll0] at hc
    simp [List.findIdx?_cons, eqIn_of (da := d) r hc.1, findIdx_reads (d := d) rs hc.2]

theorem opMeth1 {vs : List AV} {k : AV → Prop} (h : on1 vs k) : ∃ v, vs = [v] ∧ k v := on1_of h
theorem meth_ok {nt : NT} {n : Nat} {kd : Str → Option NameKind} {o : PySem.Expr} {name : Str} {ap p : Pos} {es : List PySem.Expr} {c : CE} {cs : List CE} {m : Mt}
    (ih : ∀ (e : PySem.Expr) (c : CE), compE nt n kd names e = some c → EvOk P l env names e c) (e1 : compE nt n kd names o = some c) (e2 : allSome (es.map (compE nt n kd names)) = some cs) (hl : (ap.endLine == p.line) = true) (hlen : cs.length = 1) (hm : mtNames.lookup name = some m) :
    EvOk P l env names (.Call (.Attribute o name ap) es [] p) (.meth m c cs) := by
  intro A S ρ loc H s Q X E C hE h
  simp only [w_const, w_var, w_bin, w_neg, w_not, w_and, w_or, w_cmp, w_chain, w_idx, w_slc, w_tup, w_lst, w_dct, w_call, w_prim, w_isin, w_isown, w_meth, w_comp] at h
  have hmem := lookup_mem hm
  simp only [mtNames, List.mem_cons, Prod.mk.injEq, List.not_mem_nil, or_false] at hmem
  have eqs : ∀ {h' : Heap} {tk : Nat} {e : List Addr} {G : AH} {vs : List AV} {items : Array Value} {ds : List PyData} {u : AV} {y : Value} {d : PyData}, Cx P l A env names S (ρ ++ e) loc (H ++ G) { s with heap := h', toks := tk } → VRels S (ρ ++ e) h' vs items.toList → Rds (H ++ G) 9 vs ds → VRel S (ρ ++ e) h' u y → Rd (H ++ G) 9 u d →
      (∀ z, z ∈ items → EqAt A.in1 { s with heap := h', toks := tk } z y (eqIn h' d z)) ∧ ∃ as, ReadsAll h' items.toList ds as := by
    intro h' tk e G vs items ds u y d C' vv rs Vu ru
    obtain ⟨as, qa⟩ := ru.reads C'.sim Vu
    obtain ⟨bs, qb⟩ := rs.reads C'.sim vv
    refine ⟨fun z hz => ?_, bs, qb⟩
    obtain ⟨d', cs, hd, q⟩ := readsAll_get qb (y := z) (by simpa using hz)
    have e0 : eqIn h' d z = PyData.eqv d' d := eqIn_of (da := d) q (canLay_mem rs.ok.1 hd)
    rw [e0]
    refine eqAt_reads d' d A.in1 { s with heap := h', toks := tk } z y cs as q qa (canLay_mem rs.ok.1 hd) ru.ok.1 ?_
    have := depth_mem rs.ok.2 hd
    have e0 : A.in1.units = A.units + 1 := rfl
    have := ru.ok.2
    have := units_ok C.aok
    omega
  rcases hmem with ⟨rfl, rfl⟩ | ⟨rfl, rfl⟩ | ⟨rfl, rfl⟩ | ⟨rfl, rfl⟩ | ⟨rfl, rfl⟩
  · refine meth_run ih e1 e2 hl (by omega) F.slot_list_count F.type_list_count C hE h ?_
    intro h' tk e G v vs x xs k fr C' V Vs hL q
    obtain ⟨u, eu, q⟩ := opMeth1 q
    subst eu
    obtain ⟨y, ey, Vu⟩ := Vs.of1
    subst ey
    · skip
      obtain ⟨ws, ds, d, ei, rs, ru, hsm, q⟩ := q
      obtain ⟨a, items, rfl, ⟨m, hp⟩, vv⟩ := items_real C'.sim V ei
      obtain ⟨he, as, ra⟩ := eqs C' vv rs Vu ru
      refine call_meets F.slot_list_count ⟨_, hp, rfl⟩ F.entry_list_count (F.args_list_count_2 _ _) (list_countAt a items m none #[] _ (eqIn h' d)) ⟨hp, he, ?_⟩
      rw [countP_reads ra rs.ok.1]
      exact EP.after k fr (EP.val C'.sim (.int _ _) q _)
  · refine meth_run ih e1 e2 hl (by omega) F.slot_list_index F.type_list_index C hE h ?_
    intro h' tk e G v vs x xs k fr C' V Vs hL q
    obtain ⟨u, eu, q⟩ := opMeth1 q
    subst eu
    obtain ⟨y, ey, Vu⟩ := Vs.of1
    subst ey
    · skip
      obtain ⟨ws, ds, d, j, ei, rs, ru, hsm, ej, q⟩ := q
      obtain ⟨a, items, rfl, ⟨m, hp⟩, vv⟩ := items_real C'.sim V ei
      obtain ⟨he, as, ra⟩ := eqs C' vv rs Vu ru
      rw [← findIdx_reads ra rs.ok.1, List.findIdx?_eq_some_iff_getElem] at ej
      obtain ⟨hj, hit, hno⟩ := ej
      have hj' : j < items.size := by simpa using hj
      have e3 := vv.length
      simp only [Array.length_toList] at e3
      refine call_meets F.slot_list_index ⟨_, hp, rfl⟩ F.entry_list_index (F.args_list_index_2 _ _) (list_indexAt a items m none #[] _ (eqIn h' d) j hj' (by unfold smallN at hsm; omega) (by simpa using hit) (fun m hm hmj => by have := hno m hmj; simpa using this)) ⟨hp, he, ?_⟩
      exact EP.after k fr (EP.val C'.sim (.int _ _) q _)
  · refine meth_runG (Gd := fun v => ∃ z, v = .str z) (On := onStr) (fun _ _ h => onStr_of h) F.plainAttrs_str isStr_typed ih e1 e2 hl (by omega) F.slot_str_split F.type_str_split C hE h ?_
    intro h' tk e G v vs x xs k fr C' V Vs hL q
    obtain ⟨u, eu, q⟩ := opMeth1 q
    subst eu
    obtain ⟨y, ey, Vu⟩ := Vs.of1
    subst ey
    obtain ⟨z, rfl⟩ := hL
    obtain ⟨t1, rfl⟩ := V.ofStr
    cases u <;> first | (exact False.elim q) | skip
    obtain ⟨t2, rfl⟩ := Vu.ofStr
    obtain ⟨hy, hs, hp, q⟩ := q
    refine split_run (s := { s with heap := h', toks := tk }) hy hs hp fun l k2 el => EP.after k fr (EP.newL C'.sim C'.sd (push_kp _ _) (size_none _) ⟨0, Heap.get?_push_size _ rfl⟩ ?_ q)
    rw [← el]
    exact VRels.ofStrs l
  · refine meth_runG (Gd := fun v => ∃ z, v = .str z) (On := onStr) (fun _ _ h => onStr_of h) F.plainAttrs_str isStr_typed ih e1 e2 hl (by omega) F.slot_str_join F.type_str_join C hE h ?_
    intro h' tk e G v vs x xs k fr C' V Vs hL q
    obtain ⟨u, eu, q⟩ := opMeth1 q
    subst eu
    obtain ⟨y, ey, Vu⟩ := Vs.of1
    subst ey
    obtain ⟨z, rfl⟩ := hL
    obtain ⟨t1, rfl⟩ := V.ofStr
    obtain ⟨ws, ei, hj, q⟩ := q
    obtain ⟨a, items, rfl, hp, vv⟩ := items_real C'.sim Vu ei
    obtain ⟨l, el, ew⟩ := vv.strs
    refine SC.join (l := l) (texts := ws) ?_ ew hj fun t' k' => ?_
    · have := PL.isList hp
      rw [← el]
      simpa using this
    · rw [show Txt.join z ws = Str.join z ws from StrLaws.glued_eq_join z ws]
      exact EP.after k fr (EP.val C'.sim (.str _ _) q _)
  · refine meth_runG (Gd := fun v => ∃ ks vs, v = .dict ks vs) (On := onDict) (fun _ _ h => onDict_of h) F.plainAttrs_dict isDict_typed ih e1 e2 hl (by omega) F.slot_dict_get F.type_dict_get C hE h ?_
    intro h' tk e G v vs x xs k fr C' V Vs hL q
    obtain ⟨u, eu, q⟩ := opMeth1 q
    subst eu
    obtain ⟨y, ey, Vu⟩ := Vs.of1
    subst ey
    obtain ⟨ks, ws, rfl⟩ := hL
    cases u <;> first | (exact False.elim q) | skip
    obtain ⟨t2, rfl⟩ := Vu.ofStr
    cases V with
    | dict ha hs hm hf hv =>
    rw [C'.pp, C'.pw] at hm
    obtain ⟨nS, hm⟩ := hm
    refine call_meetsIn F.slot_dict_get hm.typeIs F.entry_dict_get (F.args_dict_get_2 _ _) (meets_dict_get _ _ (strKind_is P.prog P.w _ _) (beq_eq_false_iff_ne.mpr nS)) ⟨_, hm, ?_⟩
    obtain ⟨z, ez, Vz⟩ := lookup_none (ks := ks) hv
    rw [hf, ez]
    exact EP.after k fr (EP.val C'.sim Vz q _)
end

open PySem PyProof.Rows PySem.SeqAt
section
variable {P : PC} {l : Lv} {A : Around} {env : Env} {names : List Str} {S : Sx} {ρ : List Addr} {loc : List (Option AV)} {H : AH} {s : Shared} {X : Str → Prop} {E : Value → Shared → Prop} {Q : AV → AH → Prop}

theorem isown_ok (ho : EnvOk env) {t : Str} {p p' p'' : Pos} {e : PySem.Expr} {c : CE} (ie : EvOk P l env names e c) (hs : ∀ rest, starEach (e :: rest) env = (false, eval e env) :: starEach rest env)
    (hg : isGlob env.kindOf ("isinstance" : Str) = true) (hg' : isGlob env.kindOf t = true) : EvOk P l env names (.Call (.Name "isinstance" p) [e, .Name t p''] [] p') (.isown t c) := by
  intro A S ρ loc H s Q X E C hE h
  rw [w_isown] at h
  refine Call_ (bi_ok (v := .builtin "isinstance") ho C.gok hg (by decide +kernel) (callWith_builtin1 ?_ (hs _) rfl))
  refine args_cons (EP.then (ie A S ρ loc H s _ X E C hE h) fun x h1 tk1 n1 v1 G1 k1 f1 X1 V1 qz => ?_) (hs _)
  obtain ⟨c, b, rfl, eo, q⟩ := onExc_of qz
  have G := (C.kp (tk := tk1) k1 f1 X1).gok
  cases V1 with
  | exc _ _ hi =>
  obtain ⟨o, hi, hc⟩ := hi
  have fin : ∀ tk, EP S ρ H s Q (.bool b) { s with heap := h1, toks := tk } := fun tk => EP.after k1 f1 (EP.val (s := { s with heap := h1, toks := tk1 }) X1 (.bool b) q tk)
  unfold isGlob at hg'
  simp at hg'
  have hd : (t == ("__debug__" : Str)) = false := by simpa using hg'.2
  obtain ⟨x1, x2⟩ := G.ow t c b eo
  rcases x2 with ⟨m1, m2, rfl⟩ | ⟨m1, rfl⟩ | ⟨D, m1, y, n1, n2, rfl⟩
  · exact args_cons (Calls.Name_function_global ho.1 hg'.1 (Calls.loadGlobal_builtin (by rw [ho.2.1]; exact G.g) m1 (by rw [ho.2.2.1]; exact G.b) m2 (args_nil (isi_ve x1 hi hc (fin _)))) hd) rfl
  · exact args_cons (Calls.Name_function_global ho.1 hg'.1 (Calls.loadGlobal_global (by rw [ho.2.1]; exact G.g) m1 (args_nil (isi_self hi hc (fin _)))) hd) rfl
  · exact args_cons (Calls.Name_function_global ho.1 hg'.1 (Calls.loadGlobal_global (by rw [ho.2.1]; exact G.g) m1 (args_nil (isi_other x1 y n1 n2 hi hc (fin _)))) hd) rfl

/-- every expression that is compiled runs as its form says -/
theorem expr_ok {nt : NT} (hnt : P.nt = nt) : ∀ (n : Nat) (env : Env) (names : List Str), EnvOk env → ∀ (e : PySem.Expr) (c : CE), compE nt n env.kindOf names e = some c → EvOk P l env names e c ∧ TrOk P l env names e c
  | 0, _, _, _, _, _, h => by cases h
  | n + 1, env, names, ho, e, c, h => by
    have ih0 := expr_ok hnt n
    have ih : ∀ (e : PySem.Expr) (c : CE), compE nt n env.kindOf names e = some c → EvOk P l env names e c := fun e c h => (ih0 env names ho e c h).1
    have it : ∀ (e : PySem.Expr) (c : CE), compE nt n env.kindOf names e = some c → TrOk P l env names e c := fun e c h => (ih0 env names ho e c h).2
    cases e with
    | Constant k kk p =>
      obtain ⟨v, hc, rfl⟩ := Option.map_eq_some_iff.mp h
      exact ⟨const_ok hc, tr_plain (const_ok hc) rfl⟩
    | Name x p =>
      replace h : compName nt env.kindOf names x = some c := h
      unfold compName at h
      split at h
      · rename_i i hi; cases h; exact ⟨name_ok ho hi, tr_plain (name_ok ho hi) rfl⟩
      · split at h
        · rename_i hg
          obtain ⟨v, hc, rfl⟩ := Option.map_eq_some_iff.mp h
          have q := glob_ok (P := P) (l := l) (env := env) (names := names) (p := p) ho hg (by rw [hnt]; exact hc)
          exact ⟨q, tr_plain q rfl⟩
        · cases h
    | BinOp a op b p =>
      obtain ⟨c1, e1, h⟩ := Option.bind_eq_some_iff.mp h
      obtain ⟨c2, e2, h⟩ := Option.bind_eq_some_iff.mp h
      cases h
      have q := bin_ok (op := op) (p := p) (ih a c1 e1) (ih b c2 e2)
      exact ⟨q, tr_plain q rfl⟩
    | UnaryOp op a p =>
      cases op with
      | USub =>
        obtain ⟨c1, e1, rfl⟩ := Option.map_eq_some_iff.mp h
        exact ⟨neg_ok (ih a c1 e1), tr_plain (neg_ok (ih a c1 e1)) rfl⟩
      | Not =>
        obtain ⟨c1, e1, rfl⟩ := Option.map_eq_some_iff.mp h
        exact ⟨not_ok (ih a c1 e1), tr_not (it a c1 e1)⟩
      | _ => cases h
    | BoolOp op es p =>
      obtain ⟨cs, e1, h⟩ := Option.bind_eq_some_iff.mp h
      exact ⟨fun A S ρ loc H s Q X E C hE q => bool_ok op ih es cs c e1 h C hE q, fun A S ρ loc H s K X E C hE q => tr_bool op it es cs c e1 h C hE q⟩
    | Compare a ops rs p =>
      rcases ops with _ | ⟨op1, _ | ⟨op2, _ | ⟨op3, ops⟩⟩⟩
      · cases h
      · rcases rs with _ | ⟨b, _ | ⟨d, rs⟩⟩
        · cases h
        · obtain ⟨c1, e1, h⟩ := Option.bind_eq_some_iff.mp h
          obtain ⟨c2, e2, h⟩ := Option.bind_eq_some_iff.mp h
          cases h
          exact ⟨cmp_ok (ih a c1 e1) (ih b c2 e2) (not_marks e2 op1), tr_cmp (ih a c1 e1) (ih b c2 e2) (not_marks e2 op1)⟩
        · cases h
      · rcases rs with _ | ⟨b, _ | ⟨d, _ | ⟨d2, rs⟩⟩⟩
        · cases h
        · cases h
        · obtain ⟨c1, e1, h⟩ := Option.bind_eq_some_iff.mp h
          obtain ⟨c2, e2, h⟩ := Option.bind_eq_some_iff.mp h
          obtain ⟨c3, e3, h⟩ := Option.bind_eq_some_iff.mp h
          cases h
          exact ⟨chain_ok (ih a c1 e1) (ih b c2 e2) (ih d c3 e3) (not_marks e3 op2), tr_chain (ih a c1 e1) (ih b c2 e2) (ih d c3 e3) (not_marks e3 op2)⟩
        · cases h
      · rcases rs with _ | ⟨b, _ | ⟨d, _ | ⟨d2, rs⟩⟩⟩ <;> cases h
    | Subscript o i p =>
      replace h : compSub (compE nt n env.kindOf names) o i = some c := h
      unfold compSub at h
      cases hs : isSlice i with
      | some q =>
        simp only [hs] at h
        obtain ⟨p', rfl⟩ := isSlice_some hs
        obtain ⟨c1, e1, h⟩ := Option.bind_eq_some_iff.mp h
        obtain ⟨c2, e2, h⟩ := Option.bind_eq_some_iff.mp h
        obtain ⟨c3, e3, h⟩ := Option.bind_eq_some_iff.mp h
        obtain ⟨c4, e4, h⟩ := Option.bind_eq_some_iff.mp h
        cases h
        have q := slc_ok (p := p') (p' := p) ih e1 e2 e3 e4
        exact ⟨q, tr_plain q rfl⟩
      | none =>
        simp only [hs] at h
        obtain ⟨c1, e1, h⟩ := Option.bind_eq_some_iff.mp h
        obtain ⟨c2, e2, h⟩ := Option.bind_eq_some_iff.mp h
        cases h
        have q := idx_ok (p := p) (ih o c1 e1) (ih i c2 e2)
        exact ⟨q, tr_plain q rfl⟩
    | Tuple es k p =>
      obtain ⟨cs, e1, rfl⟩ := Option.map_eq_some_iff.mp h
      exact ⟨tup_ok ih e1, tr_plain (tup_ok ih e1) rfl⟩
    | List es p =>
      obtain ⟨cs, e1, rfl⟩ := Option.map_eq_some_iff.mp h
      exact ⟨lst_ok ih e1, tr_plain (lst_ok ih e1) rfl⟩
    | Dict ks es p =>
      obtain ⟨l1, e1, h⟩ := Option.bind_eq_some_iff.mp h
      obtain ⟨l2, e2, h⟩ := Option.bind_eq_some_iff.mp h
      split at h
      · rename_i hc; cases h; exact ⟨dct_ok ih e1 e2 hc, tr_plain (dct_ok ih e1 e2 hc) rfl⟩
      · cases h
    | Call f args kws p' =>
      rcases kws with _ | ⟨kw, kws⟩
      · replace h : compCall nt (compE nt n env.kindOf names) env.kindOf f args p' = some c := h
        unfold compCall at h
        cases hf : nameOf f with
        | some x =>
          obtain ⟨p, rfl⟩ := nameOf_some hf
          simp only [hf] at h
          split at h
          · rename_i hg
            split at h
            · rename_i hx
              subst hx
              unfold compIsi at h
              obtain ⟨q, e0, h1⟩ := Option.bind_eq_some_iff.mp h
              obtain ⟨c1, e1, h1⟩ := Option.bind_eq_some_iff.mp h1
              replace h := h1
              clear h1
              obtain ⟨pt, rfl, hg'⟩ := isiArgs_some e0
              unfold isiEnd at h
              split at h
              · rename_i ty hty
                cases h
                have q := isin_ok (p := p) (p' := p') (p'' := pt) ho (ih _ c1 e1) (fun rest => not_starred e1 rest) hg hg' hty
                exact ⟨q, tr_plain q rfl⟩
              · split at h
                · cases h
                · cases h
                  have q := isown_ok (t := _) (p := p) (p' := p') (p'' := pt) ho (ih _ c1 e1) (fun rest => not_starred e1 rest) hg hg'
                  exact ⟨q, tr_plain q rfl⟩
            · obtain ⟨l1, e1, h⟩ := Option.bind_eq_some_iff.mp h
              split at h
              · cases h
              · rename_i hne
                have hne : l1.isEmpty = false := by simpa using hne
                split at h
                · rename_i f hf
                  cases h
                  have q := call_ok (p := p) (p' := p') ho hnt ih hg hf e1 hne
                  exact ⟨q, tr_plain q rfl⟩
                · obtain ⟨b, hb, rfl⟩ := Option.map_eq_some_iff.mp h
                  have q := prim_ok (p := p) (p' := p') ho ih hg hb e1 hne
                  exact ⟨q, tr_plain q rfl⟩
          · cases h
        | none =>
          simp only [hf] at h
          cases ha : attrOf f with
          | none => simp [ha] at h
          | some q =>
            simp only [ha] at h
            have ef := attrOf_some ha
            subst ef
            obtain ⟨c1, e1, h⟩ := Option.bind_eq_some_iff.mp h
            obtain ⟨l1, e2, h⟩ := Option.bind_eq_some_iff.mp h
            split at h
            · rename_i hc
              simp only [Bool.and_eq_true] at hc
              obtain ⟨b, hm, rfl⟩ := Option.map_eq_some_iff.mp h
              have q := meth_ok ih e1 e2 hc.1 (by simpa using hc.2) hm
              exact ⟨q, tr_plain q rfl⟩
            · cases h
      · cases h
    | ListComp elt gens scope p =>
      obtain ⟨g, e0, h1⟩ := Option.bind_eq_some_iff.mp h
      obtain ⟨c1, e1, h1⟩ := Option.bind_eq_some_iff.mp h1
      obtain ⟨cap, e2, h1⟩ := Option.bind_eq_some_iff.mp h1
      obtain ⟨c2, e3, h1⟩ := Option.bind_eq_some_iff.mp h1
      obtain ⟨l1, e4, h1⟩ := Option.bind_eq_some_iff.mp h1
      clear h
      obtain ⟨rfl, htg, hnd⟩ := genOf_some e0
      replace h := h1
      clear h1
      split at h
      · rename_i hc
        cases h
        simp only [Bool.and_eq_true, decide_eq_true_eq] at hc
        have q := comp_ok (pos := p) ho ih0 e1 e2 e3 e4 hc.1 htg hnd hc.2
        exact ⟨q, tr_plain q rfl⟩
      · cases h
    | _ => cases h
end

open PySem PyProof.Rows PySem.SeqAt

/-- a frame's constants -/
structure FC where
  P : PC
  l : Lv
  A : Around
  env : Env
  names : List Str
  S₀ : Sx
  s₀ : Shared
  hid : List Value
  S : Sx
noncomputable abbrev Loc := List (Option AV)

structure Fr (K : FC) (ρ : List Addr) (loc : Loc) (H : AH) (s : Shared) : Prop where
  aok : Aok K.l K.A
  eok : EnvOk K.env
  nd : K.names.Nodup
  g0 : GOk K.P K.s₀.heap
  pp : K.S.prog = K.P.prog
  pw : K.S.w = K.P.w
  sd : SD K.S s.heap
  sim : HSim K.S ρ H s.heap
  fr : Fresh K.s₀.heap ρ
  sub : ∀ b ∈ K.S₀.ad, b ∈ K.S.ad
  hL : K.env.locals ∈ K.S.ad
  hC : ∀ n c, (n, c) ∈ K.env.cells → c ∈ K.S.ad
  len : loc.length = K.names.length + K.hid.length
  ic : ∃ m cm, InCallC K.s₀ K.env.locals m K.env.cells cm s ∧ ∀ (i : Nat) (x : Str) (v : AV), K.names[i]? = some x → loc[i]?.join = some v → ∃ rv, ((K.env.kindOf x = some .local ∧ m x = some rv) ∨ (K.env.kindOf x = some .cell ∧ cm x = some rv)) ∧ VRel K.S ρ s.heap v rv
  hh : ∀ (i : Nat) (rv : Value) (v : AV), K.hid[i]? = some rv → loc[K.names.length + i]?.join = some v → VRel K.S ρ s.heap v rv

/-- what a block's run may change -/
structure Mvd (env : Env) (ρ : List Addr) (s : Shared) (ρ' : List Addr) (s' : Shared) : Prop where
  same : ∃ h tk, s' = { s with heap := h, toks := tk }
  mv : ∀ b o, b ≠ env.locals → (∀ n c, (n, c) ∈ env.cells → b ≠ c) → b ∉ ρ → s.heap.get? b = some o → s'.heap.get? b = some o
  sub : ∀ a ∈ ρ', a ∈ ρ ∨ s.heap.get? a = none
  alive : ∀ b o, s.heap.get? b = some o → ∃ o', s'.heap.get? b = some o'

theorem Mvd.refl {env : Env} {ρ : List Addr} {s : Shared} : Mvd env ρ s ρ s := ⟨⟨s.heap, s.toks, rfl⟩, fun _ _ _ _ _ e => e, fun _ h => .inl h, fun _ o e => ⟨o, e⟩⟩
theorem Mvd.kp {env : Env} {ρ e : List Addr} {s : Shared} {h' : Heap} {tk : Nat} (k : Kp s.heap h') (f : Fresh s.heap e) : Mvd env ρ s (ρ ++ e) { s with heap := h', toks := tk } :=
  ⟨⟨h', tk, rfl⟩, fun b o _ _ _ e => k b o e, fun a ha => (List.mem_append.mp ha).elim .inl fun q => .inr (f a q), fun b o e => ⟨o, k b o e⟩⟩
theorem Mvd.kp0 {env : Env} {ρ : List Addr} {s : Shared} {h' : Heap} {tk : Nat} (k : Kp s.heap h') : Mvd env ρ s ρ { s with heap := h', toks := tk } :=
  ⟨⟨h', tk, rfl⟩, fun b o _ _ _ e => k b o e, fun _ ha => .inl ha, fun b o e => ⟨o, k b o e⟩⟩

section
variable {K : FC} {ρ e : List Addr} {loc : Loc} {H G : AH} {s : Shared} {h' : Heap} {tk : Nat} {E : Value → Shared → Prop}

theorem Fr.keep (F : Fr K ρ loc H s) : Kp K.s₀.heap s.heap := let ⟨_, _, x, _⟩ := F.ic; x.toInCall.keep
theorem Fr.cx (F : Fr K ρ loc H s) : Cx K.P K.l K.A K.env K.names K.S ρ loc H s where
  aok := F.aok
  gok := F.g0.kp F.keep
  pp := F.pp
  pw := F.pw
  sd := F.sd
  sim := F.sim
  loc := fun i x v e1 e2 => by
    obtain ⟨m, cm, I, q⟩ := F.ic
    obtain ⟨rv, h1, h2⟩ := q i x v e1 e2
    refine ⟨rv, ?_, h2⟩
    rcases h1 with ⟨hk, hm⟩ | ⟨hk, hm⟩
    · exact .inl ⟨hk, m, I.toInCall.ns, hm⟩
    · obtain ⟨c, hc⟩ := F.eok.2.2.2 x hk
      exact .inr ⟨hk, c, hc, hm ▸ I.cell x c hc⟩

theorem InCallC.kp {s₀ : Shared} {L : Addr} {m cm : Str → Option Value} {cs : List (Str × Addr)} (x : InCallC s₀ L m cs cm s) (k : Kp s.heap h') : InCallC s₀ L m cs cm { s with heap := h', toks := tk } :=
  ⟨⟨let ⟨_, _, e⟩ := x.toInCall.same; ⟨h', tk, by rw [e]⟩, x.toInCall.ns.keeps k, fun b o e => k b o (x.toInCall.keep b o e), x.toInCall.fresh⟩, fun n c hc => (x.cell n c hc).keeps k, x.apart, x.above⟩

/-- after an expression -/
theorem Fr.kp (F : Fr K ρ loc H s) (k : Kp s.heap h') (f : Fresh s.heap e) (X : HSim K.S (ρ ++ e) (H ++ G) h') : Fr K (ρ ++ e) loc (H ++ G) { s with heap := h', toks := tk } where
  aok := F.aok
  eok := F.eok
  nd := F.nd
  g0 := F.g0
  pp := F.pp
  pw := F.pw
  sd := F.sd.kp k
  sim := X
  fr := fun a ha => (List.mem_append.mp ha).elim (F.fr a) fun q => by
    cases q0 : K.s₀.heap.get? a with
    | none => rfl
    | some o => have := f a q; rw [F.keep a o q0] at this; cases this
  sub := F.sub
  hL := F.hL
  hC := F.hC
  len := F.len
  ic := let ⟨m, cm, I, q⟩ := F.ic; ⟨m, cm, InCallC.kp I k, fun i x v e1 e2 => let ⟨rv, h1, h2⟩ := q i x v e1 e2; ⟨rv, h1, h2.kp k f⟩⟩
  hh := fun i rv v e1 e2 => (F.hh i rv v e1 e2).kp k f
theorem Fr.kp0 (F : Fr K ρ loc H s) (k : Kp s.heap h') : Fr K ρ loc H { s with heap := h', toks := tk } := by
  have := F.kp (e := []) (G := []) (tk := tk) k (Fresh.nil _) (by simpa using F.sim.kp k)
  simpa using this

theorem Mvd.trans {env : Env} {ρ₁ ρ₂ : List Addr} {s₁ s₂ : Shared} (x : Mvd env ρ s ρ₁ s₁) (y : Mvd env ρ₁ s₁ ρ₂ s₂) : Mvd env ρ s ρ₂ s₂ where
  same := by
    obtain ⟨h, t, rfl⟩ := x.same
    obtain ⟨h2, t2, rfl⟩ := y.same
    exact ⟨h2, t2, rfl⟩
  mv := fun b o h1 h2 h3 e => y.mv b o h1 h2 (fun hm => by
    rcases x.sub b hm with q | q
    · exact h3 q
    · rw [q] at e; cases e) (x.mv b o h1 h2 h3 e)
  sub := fun a ha => (y.sub a ha).elim (fun q => x.sub a q) fun q => by
    cases q0 : s.heap.get? a with
    | none => exact .inr rfl
    | some o => obtain ⟨o', e⟩ := x.alive a o q0; rw [q] at e; cases e
  alive := fun b o e => let ⟨o1, e1⟩ := x.alive b o e; y.alive b o1 e1

/-- a change at a protected address of the frame -/
theorem Fr.own {b : Addr} {loc' : Loc} (F : Fr K ρ loc H s) (hb : b ∈ K.S.ad) (hs : Heap.SameBut b s.heap h') (hl : ∃ o, h'.get? b = some o) (hlen : loc'.length = loc.length) (hhid : ∀ i, loc'[K.names.length + i]? = loc[K.names.length + i]?)
    (ic : ∃ m cm, InCallC K.s₀ K.env.locals m K.env.cells cm { s with heap := h', toks := tk } ∧ ∀ (i : Nat) (x : Str) (v : AV), K.names[i]? = some x → loc'[i]?.join = some v → ∃ rv, ((K.env.kindOf x = some .local ∧ m x = some rv) ∨ (K.env.kindOf x = some .cell ∧ cm x = some rv)) ∧ VRel K.S ρ s.heap v rv) :
    Fr K ρ loc' H { s with heap := h', toks := tk } := by
  have hk : ∀ c o, c ∉ K.S.ad → s.heap.get? c = some o → h'.get? c = some o := fun c o hc e => by
    rw [hs.2 c (fun q => hc (q ▸ hb))]; exact e
  exact { aok := F.aok, eok := F.eok, nd := F.nd, g0 := F.g0, pp := F.pp, pw := F.pw
          sd := fun a ha => by
            by_cases hab : a = b
            · subst hab; exact hl
            · obtain ⟨o, ho⟩ := F.sd a ha; exact ⟨o, (hs.2 a hab).trans ho⟩
          sim := F.sim.chg hk
          fr := F.fr, sub := F.sub, hL := F.hL, hC := F.hC, len := hlen.trans F.len
          ic := let ⟨m, cm, I, q⟩ := ic; ⟨m, cm, I, fun i x v e1 e2 => let ⟨rv, h1, h2⟩ := q i x v e1 e2; ⟨rv, h1, h2.chg hk⟩⟩
          hh := fun i rv v e1 e2 => (F.hh i rv v e1 (by rw [← hhid]; exact e2)).chg hk }

theorem Mvd.own {env : Env} {b : Addr} (hs : Heap.SameBut b s.heap h') (hl : ∃ o, h'.get? b = some o) (hb : b = env.locals ∨ ∃ n, (n, b) ∈ env.cells) : Mvd env ρ s ρ { s with heap := h', toks := tk } where
  same := ⟨h', tk, rfl⟩
  mv := fun c o h1 h2 _ e => by
    show h'.get? c = some o
    rw [hs.2 c ?_]; exact e
    rintro rfl
    rcases hb with q | ⟨n, q⟩
    · exact h1 q
    · exact h2 n c q rfl
  sub := fun _ ha => .inl ha
  alive := fun c o e => by
    by_cases hcb : c = b
    · subst hcb; exact hl
    · exact ⟨o, (hs.2 c hcb).trans e⟩

/-- a name is bound -/
theorem store_ok {x : Str} {i : Nat} {v : AV} {rv : Value} (F : Fr K ρ loc H s) (hx : slotOf K.env.kindOf K.names x = some i) (V : VRel K.S ρ s.heap v rv) :
    wpAny (model K.P.prog K.P.w) K.A (storeName K.env x rv) (fun _ s' => Mvd K.env ρ s ρ s' ∧ Fr K ρ (loc.set i (some v)) H s') E s := by
  obtain ⟨m, cm, I, q⟩ := F.ic
  unfold slotOf at hx
  split at hx
  · rename_i hc
    simp only [Bool.and_eq_true] at hc
    have hi := idxOf_get hx
    have hil : i < K.names.length := (List.getElem?_eq_some_iff.mp hi).1
    have hil2 : i < loc.length := by rw [F.len]; omega
    have hhid : ∀ j, (loc.set i (some v))[K.names.length + j]? = loc[K.names.length + j]? := fun j => by
      rw [List.getElem?_set_ne (by omega)]
    have hget : ∀ (j : Nat) (y : Str) (u : AV), K.names[j]? = some y → (loc.set i (some v))[j]?.join = some u → (j = i ∧ y = x ∧ u = v) ∨ (y ≠ x ∧ loc[j]?.join = some u) := fun j y u e1 e2 => by
      by_cases hj : i = j
      · subst hj
        rw [hi] at e1; cases e1
        rw [List.getElem?_set_self hil2] at e2
        simp at e2
        exact .inl ⟨rfl, rfl, e2.symm⟩
      · rw [List.getElem?_set_ne hj] at e2
        refine .inr ⟨fun hyx => hj ?_, e2⟩
        subst hyx
        exact ((List.getElem?_inj hil F.nd).mp (hi.trans e1.symm))
    have hkind : K.env.kindOf x = some .local ∨ K.env.kindOf x = some .cell := by
      have := hc.1
      cases hk : K.env.kindOf x with
      | none => rw [hk] at this; cases this
      | some k => rw [hk] at this; cases k <;> simp_all [isLoc]
    rcases hkind with hk | hk
    · refine wpAny_storeName_local hk I.toInCall.ns (fun h' hn' hs' => ?_) (by rw [F.eok.1]; rfl)
      have hl : ∃ o, h'.get? K.env.locals = some o := let ⟨o, _, _, ho, _⟩ := hn'; ⟨o, ho⟩
      refine ⟨Mvd.own hs' hl (.inl rfl), F.own F.hL hs' hl (by simp) hhid ⟨_, cm, ⟨⟨let ⟨_, _, e⟩ := I.toInCall.same; ⟨h', _, by rw [e]⟩, hn', fun b o e => ?_, I.toInCall.fresh⟩, fun k c hc => ?_, I.apart, I.above⟩, fun j y u e1 e2 => ?_⟩⟩
      · exact hs'.extBut b o (Nat.ne_of_lt (Nat.lt_of_lt_of_le (Heap.lt_size e) I.toInCall.fresh)) (I.toInCall.keep b o e)
      · exact (I.cell k c hc).sameBut hs' (Nat.ne_of_gt (I.above k c (mem_of_lookup hc)))
      · rcases hget j y u e1 e2 with ⟨rfl, rfl, rfl⟩ | ⟨hy, e3⟩
        · exact ⟨rv, .inl ⟨hk, by simp⟩, V⟩
        · obtain ⟨ru, h1, h2⟩ := q j y u e1 e3
          refine ⟨ru, ?_, h2⟩
          simpa [hy] using h1
    · obtain ⟨c, hcc⟩ := F.eok.2.2.2 x hk
      have hLc := I.above x c (mem_of_lookup hcc)
      refine wpAny_storeName_cell F.eok.1 hk hcc (I.cell x c hcc) fun h' hc' hs' => ?_
      have hl : ∃ o, h'.get? c = some o := let ⟨o, ho, _⟩ := hc'; ⟨o, ho⟩
      refine ⟨Mvd.own (tk := s.toks) hs' hl (.inr ⟨x, mem_of_lookup hcc⟩), F.own (tk := s.toks) (F.hC x c (mem_of_lookup hcc)) hs' hl (by simp) hhid ⟨m, (fun y => if y = x then some rv else cm y), ⟨⟨let ⟨_, _, e⟩ := I.toInCall.same; ⟨h', s.toks, by rw [e]⟩, I.toInCall.ns.sameBut hs' (Nat.ne_of_lt hLc), fun b o e => ?_, I.toInCall.fresh⟩, fun k c' hk' => ?_, I.apart, I.above⟩, fun j y u e1 e2 => ?_⟩⟩
      · exact hs'.extBut b o (Nat.ne_of_lt (Nat.lt_trans (Nat.lt_of_lt_of_le (Heap.lt_size e) I.toInCall.fresh) hLc)) (I.toInCall.keep b o e)
      · by_cases hkn : k = x
        · subst hkn
          rw [hcc] at hk'; cases hk'
          simpa using hc'
        · rw [if_neg hkn]
          exact (I.cell k c' hk').sameBut hs' fun e => hkn (name_of_addr I.apart (mem_of_lookup hk') (e ▸ mem_of_lookup hcc))
      · rcases hget j y u e1 e2 with ⟨rfl, rfl, rfl⟩ | ⟨hy, e3⟩
        · exact ⟨rv, .inr ⟨hk, by simp⟩, V⟩
        · obtain ⟨ru, h1, h2⟩ := q j y u e1 e3
          refine ⟨ru, ?_, h2⟩
          simpa [hy] using h1
  · cases hx

/-- a list is changed -/
theorem HSim.set {S : Sx} {h h' : Heap} {i : Nat} {a : Addr} {items : Array Value} {vs : List AV} (X : HSim S ρ H h) (ha : ρ[i]? = some a) (hs : Heap.SameBut a h h') (p : h'.PlainList a items) (V : VRels S ρ h vs items.toList) : HSim S ρ (H.set i vs) h' where
  len := by simpa using X.len
  nodup := X.nodup
  off := X.off
  obj := fun j ws e => by
    have hm : ∀ b o, b ∉ ρ → h.get? b = some o → h'.get? b = some o := fun b o hb e => by
      rw [hs.2 b (fun q => hb (q ▸ List.mem_of_getElem? ha))]; exact e
    have hi : i < H.length := by rw [← X.len]; exact (List.getElem?_eq_some_iff.mp ha).1
    by_cases hj : i = j
    · subst hj
      rw [List.getElem?_set_self hi] at e
      cases e
      exact ⟨a, items, ha, p, by simpa using V.mono hm (Fresh.nil h)⟩
    · rw [List.getElem?_set_ne hj] at e
      obtain ⟨a', its, e1, p1, v1⟩ := X.obj j ws e
      have hne : a' ≠ a := fun q => by
        subst q
        have hil : i < ρ.length := by rw [X.len]; exact hi
        exact hj ((List.getElem?_inj hil X.nodup).mp (ha.trans e1.symm))
      exact ⟨a', its, e1, PlainList.at' p1 fun o q => (hs.2 a' hne).trans q, by simpa using v1.mono hm (Fresh.nil h)⟩

theorem Fr.set {i : Nat} {a : Addr} {items : Array Value} {vs : List AV} (F : Fr K ρ loc H s) (ha : ρ[i]? = some a) (hs : Heap.SameBut a s.heap h') (p : h'.PlainList a items) (V : VRels K.S ρ s.heap vs items.toList) : Fr K ρ loc (H.set i vs) { s with heap := h', toks := tk } := by
  have hmem := List.mem_of_getElem? ha
  have hoff := F.sim.off a hmem
  have hm : ∀ b o, b ∉ ρ → s.heap.get? b = some o → h'.get? b = some o := fun b o hb e => by
    rw [hs.2 b (fun q => hb (q ▸ hmem))]; exact e
  have ch : ∀ {v : AV} {x : Value}, VRel K.S ρ s.heap v x → VRel K.S ρ h' v x := fun V => by simpa using V.mono hm (Fresh.nil s.heap)
  exact { aok := F.aok, eok := F.eok, nd := F.nd, g0 := F.g0, pp := F.pp, pw := F.pw
          sd := fun b hb => by
            obtain ⟨o, ho⟩ := F.sd b hb
            exact ⟨o, (hs.2 b fun q => hoff (q ▸ hb)).trans ho⟩
          sim := F.sim.set ha hs p V
          fr := F.fr, sub := F.sub, hL := F.hL, hC := F.hC, len := F.len
          ic := by
            obtain ⟨m, cm, I, q⟩ := F.ic
            refine ⟨m, cm, ⟨⟨let ⟨_, _, e⟩ := I.toInCall.same; ⟨h', tk, by rw [e]⟩, I.toInCall.ns.sameBut hs (fun q => hoff (q ▸ F.hL)), fun b o e => ?_, I.toInCall.fresh⟩, fun n c hc => (I.cell n c hc).sameBut hs (fun q => hoff (q ▸ F.hC n c (mem_of_lookup hc))), I.apart, I.above⟩, fun i x v e1 e2 => let ⟨rv, h1, h2⟩ := q i x v e1 e2; ⟨rv, h1, ch h2⟩⟩
            exact (hs.2 b fun q => by rw [q, F.fr a hmem] at e; cases e).trans (I.toInCall.keep b o e)
          hh := fun i rv v e1 e2 => ch (F.hh i rv v e1 e2) }
theorem Mvd.set {env : Env} {i : Nat} {a : Addr} {items : Array Value} (ha : ρ[i]? = some a) (hs : Heap.SameBut a s.heap h') (p : h'.PlainList a items) : Mvd env ρ s ρ { s with heap := h', toks := tk } where
  same := ⟨h', tk, rfl⟩
  mv := fun b o _ _ h3 e => (hs.2 b fun q => h3 (q ▸ List.mem_of_getElem? ha)).trans e
  sub := fun _ h => .inl h
  alive := fun b o e => by
    by_cases hb : b = a
    · subst hb; obtain ⟨n, e⟩ := p; exact ⟨_, e⟩
    · exact ⟨o, (hs.2 b hb).trans e⟩
end

open PySem PyProof.Rows PySem.SeqAt

inductive RenLs (φ : List Nat) (H : AH) : Loc → Loc → Prop
  | nil : RenLs φ H [] []
  | keep {v v' : AV} {r r' : Loc} : Ren φ H v v' → RenLs φ H r r' → RenLs φ H (some v :: r) (some v' :: r')
  | drop {o : Option AV} {r r' : Loc} : RenLs φ H r r' → RenLs φ H (o :: r) (none :: r')
/-- the lists that may change get new numbers, or are frozen; names may be forgotten -/
noncomputable def RenL (loc : Loc) (H : AH) (loc' : Loc) (H' : AH) : Prop := (loc = loc' ∧ H = H') ∨ ∃ φ, RenH φ H H' ∧ RenLs φ H loc loc'
noncomputable def Cut (R : Loc → AH → Prop) (loc : Loc) (H : AH) : Prop := ∃ loc' H', RenL loc H loc' H' ∧ R loc' H'
theorem Cut.here {R : Loc → AH → Prop} {loc : Loc} {H : AH} (h : R loc H) : Cut R loc H := ⟨loc, H, .inl ⟨rfl, rfl⟩, h⟩

noncomputable def insAt (xs : List AV) (k : Int) (v : AV) : List AV := let j := if k < 0 then (k + (xs.length : Int)).toNat else min k.toNat xs.length; xs.take j ++ v :: xs.drop j
noncomputable def mut0 (vs : List AV) (k : Option (List AV)) : Option (List AV) := match vs with
  | [] => k
  | _ => Option.none
noncomputable def mut1 (vs : List AV) (k : AV → Option (List AV)) : Option (List AV) := match vs with
  | [v] => k v
  | _ => Option.none
noncomputable def mut2 (vs : List AV) (k : Int → AV → Option (List AV)) : Option (List AV) := match vs with
  | [u, v] => (match u with
    | .int i => k i v
    | _ => Option.none)
  | _ => Option.none
/-- a list is changed -/
noncomputable def opMut (H : AH) (m : Mu) (xs vs : List AV) : Option (List AV) := match m with
  | .append => mut1 vs fun v => if xs.length < smallN then some (xs ++ [v]) else Option.none
  | .insert => mut2 vs fun k v => if xs.length < smallN ∧ -1000000 < k ∧ k < 1000000 then some (insAt xs k v) else Option.none
  | .clear => mut0 vs (if xs.length ≤ smallN then some [] else Option.none)
  | .reverse => mut0 vs (if xs.length ≤ smallN then some xs.reverse else Option.none)
  | .extend => mut1 vs fun v => match v.items? H with
    | some ys => if xs.length + ys.length ≤ smallN then some (xs ++ ys) else Option.none
    | Option.none => Option.none
  | .pop => mut0 vs (if xs.length ≤ smallN ∧ 0 < xs.length then some (xs.eraseIdx (xs.length - 1)) else Option.none)
/-- the sort of iterator -/
noncomputable def AV.ik : AV → AV
  | .rng i j k => .rng i j k
  | .tup _ => .tup []
  | .fl _ => .fl []
  | .ref _ => .fl []
  | .str x => .str x
  | _ => .none
noncomputable def setAll (loc : Loc) : List Nat → List AV → Loc
  | x :: xs, v :: vs => setAll (loc.set x (some v)) xs vs
  | _, _ => loc
theorem setAll_cons (loc : Loc) (x : Nat) (xs : List Nat) (v : AV) (vs : List AV) : setAll loc (x :: xs) (v :: vs) = setAll (loc.set x (some v)) xs vs := rfl
noncomputable def setAllO (loc : Loc) : List Nat → List AV → Option Loc
  | [], [] => some loc
  | x :: xs, v :: vs => setAllO (loc.set x (some v)) xs vs
  | _, _ => Option.none
theorem setAllO_nil (loc : Loc) : setAllO loc [] [] = some loc := rfl
theorem setAllO_cons (loc : Loc) (x : Nat) (xs : List Nat) (v : AV) (vs : List AV) : setAllO loc (x :: xs) (v :: vs) = setAllO (loc.set x (some v)) xs vs := rfl
theorem setAllO_of : ∀ (xs : List Nat) (vs : List AV) {loc loc' : Loc}, setAllO loc xs vs = some loc' → vs.length = xs.length ∧ loc' = setAll loc xs vs
  | [], [], _, _, e => ⟨rfl, (Option.some.inj e).symm⟩
  | x :: xs, v :: vs, loc, _, e => let ⟨a, b⟩ := setAllO_of xs vs (loc := loc.set x (some v)) e; ⟨congrArg (· + 1) a, b⟩
/-- the turns of enumerate and zip -/
noncomputable def turnsOf (H : AH) (k : It) (vs : List AV) : Option (List (List AV)) := match k with
  | .enumerate => Option.none
  | .zip => (match vs with
    | [u, v] => (u.items? H).bind fun xs => (v.items? H).bind fun ys => some ((xs.zip ys).map fun p => [p.1, p.2])
    | _ => Option.none)
  | .rows => Option.none

mutual
noncomputable def wpS (P : PC) (l : Lv) : CS → Loc → AH → (Loc → AH → Prop) → (AV → AH → Prop) → (Str → Loc → AH → Prop) → Prop
  | .assign x e, loc, H, Qn, _, Qx => wpE P l (fun c => Qx c loc H) e loc H fun v H₁ => Qn (loc.set x (some v)) H₁
  | .assignT xs e, loc, H, Qn, _, Qx => l.q = true ∧ wpE P l (fun c => Qx c loc H) e loc H fun v H₁ => opt (v.seq? H₁) fun vs => opt (setAllO loc xs vs) fun loc' => Qn loc' H₁
  | .setIdx o i e, loc, H, Qn, _, Qx => wpE P l (fun c => Qx c loc H) e loc H fun v H₁ => wpE P l (fun c => Qx c loc H) o loc H₁ fun u H₂ => wpE P l (fun c => Qx c loc H) i loc H₂ fun j H₃ =>
      ∃ r k vs, u = .ref r ∧ j = .int k ∧ H₃[r]? = some vs ∧ 0 ≤ k ∧ k < vs.length ∧ vs.length ≤ smallN ∧ Qn loc (H₃.set r (vs.set k.toNat v))
  | .mut m o es, loc, H, Qn, _, Qx => wpE P l (fun c => Qx c loc H) o loc H fun u H₁ => onL u <| wpEs P l (fun c => Qx c loc H) es loc H₁ fun vs H₂ =>
      ∃ r xs ys, u = .ref r ∧ H₂[r]? = some xs ∧ opMut H₂ m xs vs = some ys ∧ (∀ v, vs = [v] → m = .extend → v ≠ u) ∧ Qn loc (H₂.set r ys)
  | .popTo x o es, loc, H, Qn, _, Qx => wpE P l (fun c => Qx c loc H) o loc H fun u H₁ => onL u <| wpEs P l (fun c => Qx c loc H) es loc H₁ fun vs H₂ =>
      ∃ r k xs y, u = .ref r ∧ H₂[r]? = some xs ∧ vs = [.int k] ∧ 0 ≤ k ∧ k < xs.length ∧ xs.length ≤ smallN ∧ xs[k.toNat]? = some y ∧ Qn (loc.set x (some y)) (H₂.set r (xs.eraseIdx k.toNat))
  | .expr e, loc, H, Qn, _, Qx => wpE P l (fun c => Qx c loc H) e loc H fun _ H₁ => Qn loc H₁
  | .ite c a b, loc, H, Qn, Qr, Qx => ∃ R : Loc → AH → Prop, (∀ loc' H', R loc' H' → Qn loc' H') ∧ wpE P l (fun c => Qx c loc H) c loc H fun v H₁ => onBool v fun t =>
      if t = true then wpSs P l a loc H₁ (Cut R) Qr Qx else wpSs P l b loc H₁ (Cut R) Qr Qx
  | .for1 x it body, loc, H, Qn, Qr, Qx => l.q = true ∧ wpE P l (fun c => Qx c loc H) it loc H fun v H₁ => ∃ (n : Nat) (κ : AV) (Inv : Nat → AV → Loc → AH → Prop),
      (∃ v' loc' H', RenL (loc ++ [some v]) H₁ (loc' ++ [some v']) H' ∧ loc'.length = loc.length ∧ Inv 0 v' loc' H') ∧
      (∀ k v loc H, k ≤ n → Inv k v loc H → v.ik = κ ∧ ∃ its, iterOf H v = some its ∧ its.length = n) ∧ n ≤ smallN ∧
      (∀ k v loc' H its u, k < n → loc'.length = loc.length → Inv k v loc' H → iterOf H v = some its → its[k]? = some u → wpSs P l body (loc'.set x (some u) ++ [some v]) H
        (fun loc₂ H₂ => ∃ v₃ loc₃ H₃, RenL loc₂ H₂ (loc₃ ++ [some v₃]) H₃ ∧ loc₃.length = loc.length ∧ Inv (k + 1) v₃ loc₃ H₃) Qr (fun c loc₂ H₂ => Qx c loc₂.dropLast H₂)) ∧
      (∀ v loc H, Inv n v loc H → Qn loc H)
  | .forT xs kd es body, loc, H, Qn, Qr, Qx => l.q = true ∧ wpEs P l (fun c => Qx c loc H) es loc H fun vs H₁ => ∃ (n : Nat) (Inv : Nat → List AV → Loc → AH → Prop),
      (∃ vs' loc' H', RenL (loc ++ vs.map some) H₁ (loc' ++ vs'.map some) H' ∧ loc'.length = loc.length ∧ vs'.length = vs.length ∧ Inv 0 vs' loc' H') ∧
      (∀ k vs loc H, k ≤ n → Inv k vs loc H → ∃ its, turnsOf H kd vs = some its ∧ its.length = n) ∧ n ≤ smallN ∧
      (∀ k vs loc' H its us, k < n → loc'.length = loc.length → Inv k vs loc' H → turnsOf H kd vs = some its → its[k]? = some us → us.length = xs.length ∧ wpSs P l body (setAll loc' xs us ++ vs.map some) H
        (fun loc₂ H₂ => ∃ vs₃ loc₃ H₃, RenL loc₂ H₂ (loc₃ ++ vs₃.map some) H₃ ∧ loc₃.length = loc.length ∧ vs₃.length = es.length ∧ Inv (k + 1) vs₃ loc₃ H₃) Qr (fun c loc₂ H₂ => Qx c (loc₂.take loc.length) H₂)) ∧
      (∀ vs loc H, Inv n vs loc H → Qn loc H)
  | .while c body, loc, H, Qn, Qr, Qx => ∃ (Inv : Loc → AH → Prop) (μ : Loc → AH → Nat), Cut Inv loc H ∧
      ∀ loc H, Inv loc H → wpE P l (fun c => Qx c loc H) c loc H fun v H₁ => onBool v fun t =>
        if t = true then wpSs P l body loc H₁ (Cut fun loc₂ H₂ => Inv loc₂ H₂ ∧ μ loc₂ H₂ < μ loc H) Qr Qx else Cut Qn loc H₁
  | .ret e, loc, H, _, Qr, Qx => wpE P l (fun c => Qx c loc H) e loc H Qr
  | .pass, loc, H, Qn, _, _ => Qn loc H
  | .raise _, _, _, _, _, _ => False
  | .try b _ _ _, loc, H, Qn, Qr, Qx => wpSs P l b loc H Qn Qr Qx
noncomputable def wpSs (P : PC) (l : Lv) : List CS → Loc → AH → (Loc → AH → Prop) → (AV → AH → Prop) → (Str → Loc → AH → Prop) → Prop
  | [], loc, H, Qn, _, _ => Qn loc H
  | c :: r, loc, H, Qn, Qr, Qx => wpS P l c loc H (fun loc' H' => wpSs P l r loc' H' Qn Qr Qx) Qr Qx
end

section
variable {P : PC} {l : Lv} {loc : Loc} {H : AH} {Qn : Loc → AH → Prop} {Qr : AV → AH → Prop} {Qx : Str → Loc → AH → Prop}
theorem q_assign (x : Nat) (e : CE) : wpS P l (.assign x e) loc H Qn Qr Qx = (wpE P l (fun c => Qx c loc H) e loc H fun v H₁ => Qn (loc.set x (some v)) H₁) := rfl
theorem q_assignT (xs : List Nat) (e : CE) : wpS P l (.assignT xs e) loc H Qn Qr Qx = (l.q = true ∧ wpE P l (fun c => Qx c loc H) e loc H fun v H₁ => opt (v.seq? H₁) fun vs => opt (setAllO loc xs vs) fun loc' => Qn loc' H₁) := rfl
theorem q_setIdx (o i e : CE) : wpS P l (.setIdx o i e) loc H Qn Qr Qx = (wpE P l (fun c => Qx c loc H) e loc H fun v H₁ => wpE P l (fun c => Qx c loc H) o loc H₁ fun u H₂ => wpE P l (fun c => Qx c loc H) i loc H₂ fun j H₃ =>
   ∃ r k vs, u = .ref r ∧ j = .int k ∧ H₃[r]? = some vs ∧ 0 ≤ k ∧ k < vs.length ∧ vs.length ≤ smallN ∧ Qn loc (H₃.set r (vs.set k.toNat v))) := rfl
theorem q_mut (m : Mu) (o : CE) (es : List CE) : wpS P l (.mut m o es) loc H Qn Qr Qx = (wpE P l (fun c => Qx c loc H) o loc H fun u H₁ => onL u <| wpEs P l (fun c => Qx c loc H) es loc H₁ fun vs H₂ =>
   ∃ r xs ys, u = .ref r ∧ H₂[r]? = some xs ∧ opMut H₂ m xs vs = some ys ∧ (∀ v, vs = [v] → m = .extend → v ≠ u) ∧ Qn loc (H₂.set r ys)) := rfl
theorem q_popTo (x : Nat) (o : CE) (es : List CE) : wpS P l (.popTo x o es) loc H Qn Qr Qx = (wpE P l (fun c => Qx c loc H) o loc H fun u H₁ => onL u <| wpEs P l (fun c => Qx c loc H) es loc H₁ fun vs H₂ =>
   ∃ r k xs y, u = .ref r ∧ H₂[r]? = some xs ∧ vs = [.int k] ∧ 0 ≤ k ∧ k < xs.length ∧ xs.length ≤ smallN ∧ xs[k.toNat]? = some y ∧ Qn (loc.set x (some y)) (H₂.set r (xs.eraseIdx k.toNat))) := rfl
theorem q_expr (e : CE) : wpS P l (.expr e) loc H Qn Qr Qx = (wpE P l (fun c => Qx c loc H) e loc H fun _ H₁ => Qn loc H₁) := rfl
theorem q_ite (c : CE) (a b : List CS) : wpS P l (.ite c a b) loc H Qn Qr Qx = (∃ R : Loc → AH → Prop, (∀ loc' H', R loc' H' → Qn loc' H') ∧ wpE P l (fun c => Qx c loc H) c loc H fun v H₁ => onBool v fun t =>
   if t = true then wpSs P l a loc H₁ (Cut R) Qr Qx else wpSs P l b loc H₁ (Cut R) Qr Qx) := rfl
theorem q_for1 (x : Nat) (it : CE) (body : List CS) : wpS P l (.for1 x it body) loc H Qn Qr Qx = (l.q = true ∧ wpE P l (fun c => Qx c loc H) it loc H fun v H₁ => ∃ (n : Nat) (κ : AV) (Inv : Nat → AV → Loc → AH → Prop),
   (∃ v' loc' H', RenL (loc ++ [some v]) H₁ (loc' ++ [some v']) H' ∧ loc'.length = loc.length ∧ Inv 0 v' loc' H') ∧
   (∀ k v loc H, k ≤ n → Inv k v loc H → v.ik = κ ∧ ∃ its, iterOf H v = some its ∧ its.length = n) ∧ n ≤ smallN ∧
   (∀ k v loc' H its u, k < n → loc'.length = loc.length → Inv k v loc' H → iterOf H v = some its → its[k]? = some u → wpSs P l body (loc'.set x (some u) ++ [some v]) H
    (fun loc₂ H₂ => ∃ v₃ loc₃ H₃, RenL loc₂ H₂ (loc₃ ++ [some v₃]) H₃ ∧ loc₃.length = loc.length ∧ Inv (k + 1) v₃ loc₃ H₃) Qr (fun c loc₂ H₂ => Qx c loc₂.dropLast H₂)) ∧
   (∀ v loc H, Inv n v loc H → Qn loc H)) := rfl
theorem q_forT (xs : List Nat) (kd : It) (es : List CE) (body : List CS) : wpS P l (.forT xs kd es body) loc H Qn Qr Qx = (l.q = true ∧ wpEs P l (fun c => Qx c loc H) es loc H fun vs H₁ => ∃ (n : Nat) (Inv : Nat → List AV → Loc → AH → Prop),
   (∃ vs' loc' H', RenL (loc ++ vs.map some) H₁ (loc' ++ vs'.map some) H' ∧ loc'.length = loc.length ∧ vs'.length = vs.length ∧ Inv 0 vs' loc' H') ∧
   (∀ k vs loc H, k ≤ n → Inv k vs loc H → ∃ its, turnsOf H kd vs = some its ∧ its.length = n) ∧ n ≤ smallN ∧
   (∀ k vs loc' H its us, k < n → loc'.length = loc.length → Inv k vs loc' H → turnsOf H kd vs = some its → its[k]? = some us → us.length = xs.length ∧ wpSs P l body (setAll loc' xs us ++ vs.map some) H
    (fun loc₂ H₂ => ∃ vs₃ loc₃ H₃, RenL loc₂ H₂ (loc₃ ++ vs₃.map some) H₃ ∧ loc₃.length = loc.length ∧ vs₃.length = es.length ∧ Inv (k + 1) vs₃ loc₃ H₃) Qr (fun c loc₂ H₂ => Qx c (loc₂.take loc.length) H₂)) ∧
   (∀ vs loc H, Inv n vs loc H → Qn loc H)) := rfl
theorem q_while (c : CE) (body : List CS) : wpS P l (.while c body) loc H Qn Qr Qx = (∃ (Inv : Loc → AH → Prop) (μ : Loc → AH → Nat), Cut Inv loc H ∧
   ∀ loc H, Inv loc H → wpE P l (fun c => Qx c loc H) c loc H fun v H₁ => onBool v fun t =>
    if t = true then wpSs P l body loc H₁ (Cut fun loc₂ H₂ => Inv loc₂ H₂ ∧ μ loc₂ H₂ < μ loc H) Qr Qx else Cut Qn loc H₁) := rfl
theorem q_ret (e : CE) : wpS P l (.ret e) loc H Qn Qr Qx = (wpE P l (fun c => Qx c loc H) e loc H Qr) := rfl
theorem q_pass : wpS P l (.pass) loc H Qn Qr Qx = (Qn loc H) := rfl
theorem q_try (b h : List CS) (c : Str) (x : Nat) : wpS P l (.try b c x h) loc H Qn Qr Qx = wpSs P l b loc H Qn Qr Qx := rfl
theorem q_nil : wpSs P l [] loc H Qn Qr Qx = Qn loc H := rfl
theorem q_cons (c : CS) (r : List CS) : wpSs P l (c :: r) loc H Qn Qr Qx = wpS P l c loc H (fun loc' H' => wpSs P l r loc' H' Qn Qr Qx) Qr Qx := rfl
end

noncomputable def isComp : PySem.Expr → Bool
  | .ListComp .. => true
  | .SetComp .. => true
  | .DictComp .. => true
  | _ => false
noncomputable def isTup : PySem.Expr → Bool
  | .Tuple .. => true
  | _ => false
noncomputable def methOf (e : PySem.Expr) : Option (PySem.Expr × Str × List PySem.Expr × Pos × Pos) := (callOf e).bind fun c => if c.2.2.1 = true then (attrOf c.1).map fun q => (q.1, q.2.1, c.2.1, q.2.2, c.2.2.2) else Option.none
theorem methOf_some {e : PySem.Expr} {q : PySem.Expr × Str × List PySem.Expr × Pos × Pos} (h : methOf e = some q) : e = .Call (.Attribute q.1 q.2.1 q.2.2.2.1) q.2.2.1 [] q.2.2.2.2 := by
  obtain ⟨c, e1, h⟩ := Option.bind_eq_some_iff.mp h
  split at h
  · rename_i hb
    obtain ⟨z, e2, rfl⟩ := Option.map_eq_some_iff.mp h
    rw [callOf_some e1 hb, attrOf_some e2]
  · cases h
noncomputable def mutOf (e : PySem.Expr) : Option (PySem.Expr × Mu × List PySem.Expr × Pos × Pos) := (methOf e).bind fun q => (muNames.lookup q.2.1).map fun mu => (q.1, mu, q.2.2.1, q.2.2.2.1, q.2.2.2.2)

noncomputable def two (es : List PySem.Expr) : Option (Str × Str) := match es with
  | [a, b] => do
    let x ← nameOf a
    let y ← nameOf b
    some (x, y)
  | _ => Option.none
noncomputable def tgt2 (t : PySem.Expr) : Option (Str × Str) := (tupOf t).bind fun q => two q.1
noncomputable def plainCall (e : PySem.Expr) : Option (Str × List PySem.Expr) := (callOf e).bind fun c => if c.2.2.1 = true then (nameOf c.1).map fun x => (x, c.2.1) else Option.none
noncomputable def compForT (r : PySem.Expr → Option CE) (q : PySem.Stmt → Option CS) (kd : Str → Option NameKind) (names : List Str) (t it : PySem.Expr) (body : List PySem.Stmt) : Option CS := do
  let xy ← tgt2 t
  let fa ← plainCall it
  let i ← slotOf kd names xy.1
  let j ← slotOf kd names xy.2
  let l ← allSome (fa.2.map r)
  let b ← allSome (body.map q)
  if isGlob kd fa.1 && xy.1 != xy.2 then
    if fa.1 = ("zip" : Str) ∧ l.length = 2 then some (.forT [i, j] .zip l b) else Option.none
  else Option.none
noncomputable def compFor (r : PySem.Expr → Option CE) (q : PySem.Stmt → Option CS) (kd : Str → Option NameKind) (names : List Str) (t it : PySem.Expr) (body : List PySem.Stmt) : Option CS := match nameOf t with
  | some x => do
    let i ← slotOf kd names x
    let c ← r it
    let b ← allSome (body.map q)
    some (.for1 i c b)
  | Option.none => compForT r q kd names t it body
noncomputable def compAsg (r : PySem.Expr → Option CE) (kd : Str → Option NameKind) (names : List Str) (x : Str) (v : PySem.Expr) : Option CS := do
  let i ← slotOf kd names x
  (r v).map (.assign i)
noncomputable def compAsgT (r : PySem.Expr → Option CE) (kd : Str → Option NameKind) (names : List Str) (es : List PySem.Expr) (v : PySem.Expr) : Option CS := do
  let xs ← allSome (es.map fun e => (nameOf e).bind (slotOf kd names))
  let c ← r v
  if isTup v || isComp v then Option.none else some (.assignT xs c)
noncomputable def compSet (r : PySem.Expr → Option CE) (o i v : PySem.Expr) : Option CS := do
  let a ← r v
  let b ← r o
  let c ← r i
  some (.setIdx b c a)
noncomputable def compAs1 (r : PySem.Expr → Option CE) (kd : Str → Option NameKind) (names : List Str) (t v : PySem.Expr) : Option CS := match t with
  | .Name x _ => compAsg r kd names x v
  | .Tuple es _ _ => compAsgT r kd names es v
  | .Subscript o i _ => compSet r o i v
  | _ => Option.none
noncomputable def compAs (r : PySem.Expr → Option CE) (kd : Str → Option NameKind) (names : List Str) (ts : List PySem.Expr) (v : PySem.Expr) : Option CS := match ts with
  | [t] => compAs1 r kd names t v
  | _ => Option.none
noncomputable def compEx (r : PySem.Expr → Option CE) (e : PySem.Expr) : Option CS := match mutOf e with
  | some (o, mu, args, ap, p) => do
    let a ← r o
    let l ← allSome (args.map r)
    if ap.endLine == p.line && l.length ≤ 2 then some (.mut mu a l) else Option.none
  | Option.none => if isComp e then Option.none else (r e).map .expr
noncomputable def compS1 (r : PySem.Expr → Option CE) (q : PySem.Stmt → Option CS) (kd : Str → Option NameKind) (names : List Str) (st : PySem.Stmt) : Option CS := match st with
  | .Pass _ => some .pass
  | .Return e _ => e.bind fun e => (r e).map .ret
  | .If t a b _ => do
    let c ← r t
    let x ← allSome (a.map q)
    let y ← allSome (b.map q)
    some (.ite c x y)
  | .For t it body els _ => if els.isEmpty then compFor r q kd names t it body else Option.none
  | .Assign ts v _ => compAs r kd names ts v
  | .Expr e _ => compEx r e
  | .Raise _ _ _ => some (.raise "")
  | .Try b hs e f _ => if e.isEmpty && f.isEmpty && !hs.isEmpty then (allSome (b.map q)).map fun x => .try x "" 0 [] else Option.none
  | _ => Option.none
noncomputable def compS (nt : NT) : Nat → (Str → Option NameKind) → List Str → PySem.Stmt → Option CS
  | 0, _, _, _ => Option.none
  | n + 1, kd, names, st => compS1 (compE nt n kd names) (compS nt n kd names) kd names st

theorem tgt2_some {t : PySem.Expr} {xy : Str × Str} (h : tgt2 t = some xy) : ∃ px py kk pt, t = .Tuple [.Name xy.1 px, .Name xy.2 py] kk pt := by
  obtain ⟨⟨es, kk, pt⟩, e0, h⟩ := Option.bind_eq_some_iff.mp h
  rw [tupOf_some e0]
  replace h : two es = some xy := h
  clear e0
  rcases es with _ | ⟨a, _ | ⟨b, _ | ⟨d, r⟩⟩⟩
  · cases h
  · cases h
  · obtain ⟨x, e1, h1⟩ := Option.bind_eq_some_iff.mp h
    obtain ⟨y, e2, h1⟩ := Option.bind_eq_some_iff.mp h1
    clear h
    cases h1
    obtain ⟨px, rfl⟩ := nameOf_some e1
    obtain ⟨py, rfl⟩ := nameOf_some e2
    exact ⟨px, py, kk, pt, rfl⟩
  · cases h
theorem plainCall_some {e : PySem.Expr} {fa : Str × List PySem.Expr} (h : plainCall e = some fa) : ∃ pf pc, e = .Call (.Name fa.1 pf) fa.2 [] pc := by
  obtain ⟨c, e1, h⟩ := Option.bind_eq_some_iff.mp h
  split at h
  · rename_i hb
    obtain ⟨z, e2, rfl⟩ := Option.map_eq_some_iff.mp h
    obtain ⟨pf, e3⟩ := nameOf_some e2
    exact ⟨pf, c.2.2.2, by rw [callOf_some e1 hb, e3]⟩
  · cases h
/-- how a block may end -/
noncomputable def SP (K : FC) (ρ : List Addr) (s : Shared) (Qn : Loc → AH → Prop) (Qr : AV → AH → Prop) (f : Flow) (s' : Shared) : Prop :=
  match f with
  | .next => ∃ ρ' loc' H', Mvd K.env ρ s ρ' s' ∧ Fr K ρ' loc' H' s' ∧ Qn loc' H'
  | .ret rv => ∃ ρ' loc' H' v, Mvd K.env ρ s ρ' s' ∧ Fr K ρ' loc' H' s' ∧ VRel K.S ρ' s'.heap v rv ∧ Qr v H'
  | _ => False
noncomputable def XOk (K : FC) (ρ : List Addr) (s : Shared) (Qx : Str → Loc → AH → Prop) (E : Value → Shared → Prop) : Prop :=
  ∀ ρ' loc' H' s1 e s', Mvd K.env ρ s ρ' s1 → Fr K ρ' loc' H' s1 → ExcC K.P K.A s1 (fun c => Qx c loc' H') e s' → E e s'
noncomputable def StOk (P : PC) (l : Lv) (env : Env) (names : List Str) (m : Sem Flow) (wp : Loc → AH → (Loc → AH → Prop) → (AV → AH → Prop) → (Str → Loc → AH → Prop) → Prop) : Prop :=
  ∀ (A : Around) (S₀ : Sx) (s₀ : Shared) (hid : List Value) (S : Sx) (ρ : List Addr) (loc : Loc) (H : AH) (s : Shared) (Qn : Loc → AH → Prop) (Qr : AV → AH → Prop) (Qx : Str → Loc → AH → Prop) (E : Value → Shared → Prop),
    Fr ⟨P, l, A, env, names, S₀, s₀, hid, S⟩ ρ loc H s → XOk ⟨P, l, A, env, names, S₀, s₀, hid, S⟩ ρ s Qx E → wp loc H Qn Qr Qx →
    wpAny (model P.prog P.w) A m (SP ⟨P, l, A, env, names, S₀, s₀, hid, S⟩ ρ s Qn Qr) E s

section
variable {K : FC} {ρ ρ₁ : List Addr} {loc loc' : Loc} {H H' : AH} {s s₁ : Shared} {h' : Heap} {tk : Nat} {Qx : Str → Loc → AH → Prop} {Qn : Loc → AH → Prop} {Qr : AV → AH → Prop} {E : Value → Shared → Prop}

theorem XOk.after (x : XOk K ρ s Qx E) (m : Mvd K.env ρ s ρ₁ s₁) : XOk K ρ₁ s₁ Qx E := fun ρ' loc' H' s2 e s' m2 F q => x ρ' loc' H' s2 e s' (m.trans m2) F q
theorem xOk_any : XOk K ρ s Qx E := fun _ _ _ _ _ _ _ _ q => (excC_false q).elim
theorem XOk.ex (x : XOk K ρ s Qx E) (F : Fr K ρ loc H s) : ExOk K.P K.A (fun c => Qx c loc H) E s := fun h tk e s' k q => x ρ loc H _ e s' (Mvd.kp0 k) (F.kp0 k) q
theorem SP.after {f : Flow} {s₂ : Shared} (m : Mvd K.env ρ s ρ₁ s₁) (h : SP K ρ₁ s₁ Qn Qr f s₂) : SP K ρ s Qn Qr f s₂ := by
  cases f with
  | next => obtain ⟨ρ', loc', H', m', F, q⟩ := h; exact ⟨ρ', loc', H', m.trans m', F, q⟩
  | ret v => obtain ⟨ρ', loc', H', v, m', F, V, q⟩ := h; exact ⟨ρ', loc', H', v, m.trans m', F, V, q⟩
  | _ => exact h.elim
theorem SP.mono {f : Flow} {s₂ : Shared} {Qn' : Loc → AH → Prop} (h : SP K ρ s Qn Qr f s₂) (hq : ∀ loc H, Qn loc H → Qn' loc H) : SP K ρ s Qn' Qr f s₂ := by
  cases f with
  | next => obtain ⟨ρ', loc', H', m', F, q⟩ := h; exact ⟨ρ', loc', H', m', F, hq _ _ q⟩
  | ret v => exact h
  | _ => exact h.elim

theorem RenLs.length {φ : List Nat} {a b : Loc} (r : RenLs φ H a b) : a.length = b.length := by
  induction r with
  | nil => rfl
  | keep _ _ ih => simp [ih]
  | drop _ ih => simp [ih]
theorem RenLs.get {φ : List Nat} {a b : Loc} (r : RenLs φ H a b) (i : Nat) (v' : AV) (e : b[i]?.join = some v') : ∃ v, a[i]?.join = some v ∧ Ren φ H v v' := by
  induction r generalizing i with
  | nil => simp at e
  | keep q _ ih =>
    cases i with
    | zero => simp at e; subst e; exact ⟨_, rfl, q⟩
    | succ i => simpa using ih i (by simpa using e)
  | drop _ ih =>
    cases i with
    | zero => simp at e
    | succ i => simpa using ih i (by simpa using e)
/-- the frame, with new numbers -/
theorem Fr.ren (F : Fr K ρ loc H s) (r : RenL loc H loc' H') : ∃ ρ', (∀ a ∈ ρ', a ∈ ρ) ∧ Fr K ρ' loc' H' s := by
  rcases r with ⟨rfl, rfl⟩ | ⟨φ, R, L⟩
  · exact ⟨ρ, fun _ h => h, F⟩
  · have hp : ∀ a ∈ pick ρ φ, a ∈ ρ := fun a ha => by obtain ⟨j, _, e⟩ := pick_mem ha; exact List.mem_of_getElem? e
    refine ⟨pick ρ φ, hp, { aok := F.aok, eok := F.eok, nd := F.nd, g0 := F.g0, pp := F.pp, pw := F.pw, sd := F.sd, sim := F.sim.ren R, fr := fun a ha => F.fr a (hp a ha), sub := F.sub, hL := F.hL, hC := F.hC, len := L.length ▸ F.len, ic := ?_, hh := ?_ }⟩
    · obtain ⟨m, cm, I, q⟩ := F.ic
      refine ⟨m, cm, I, fun i x v e1 e2 => ?_⟩
      obtain ⟨u, e3, r⟩ := L.get i v e2
      obtain ⟨rv, h1, h2⟩ := q i x u e1 e3
      exact ⟨rv, h1, VRel.ren' F.sim R.dom r h2⟩
    · intro i rv v e1 e2
      obtain ⟨u, e3, r⟩ := L.get _ v e2
      exact VRel.ren' F.sim R.dom r (F.hh i rv u e1 e3)
theorem Mvd.sub' {env : Env} {ρ' : List Addr} (h : ∀ a ∈ ρ', a ∈ ρ) : Mvd env ρ s ρ' s := ⟨⟨s.heap, s.toks, rfl⟩, fun _ _ _ _ _ e => e, fun a ha => .inl (h a ha), fun _ o e => ⟨o, e⟩⟩
theorem SP.cut {f : Flow} {s₂ : Shared} {R : Loc → AH → Prop} (h : SP K ρ s (Cut R) Qr f s₂) : SP K ρ s R Qr f s₂ := by
  cases f with
  | next =>
    obtain ⟨ρ', loc', H', m', F, loc₂, H₂, r, q⟩ := h
    obtain ⟨ρ₂, hs, F₂⟩ := F.ren r
    exact ⟨ρ₂, loc₂, H₂, m'.trans (Mvd.sub' hs), F₂, q⟩
  | ret v => exact h
  | _ => exact h.elim
end

open PySem PyProof.Rows PySem.SeqAt
section
variable {P : PC} {l : Lv} {env : Env} {names : List Str} {nt : NT} {n : Nat}

theorem pass_ok {p : Pos} : StOk P l env names (exec (.Pass p) env) (wpS P l .pass) := by
  intro A S₀ s₀ hid S ρ loc H s Qn Qr Qx E F hX h
  simp only [q_assign, q_assignT, q_setIdx, q_mut, q_popTo, q_expr, q_ite, q_for1, q_forT, q_while, q_ret, q_pass] at h
  exact wpAny_Pass ⟨ρ, loc, H, Mvd.refl, F, h⟩
theorem ret_ok {e : PySem.Expr} {p : Pos} {c : CE} (ie : EvOk P l env names e c) : StOk P l env names (exec (.Return (some e) p) env) (wpS P l (.ret c)) := by
  intro A S₀ s₀ hid S ρ loc H s Qn Qr Qx E F hX h
  simp only [q_assign, q_assignT, q_setIdx, q_mut, q_popTo, q_expr, q_ite, q_for1, q_forT, q_while, q_ret, q_pass] at h
  refine wpAny_Return_some (EP.then (ie A S ρ loc H s _ _ E F.cx (hX.ex F) h) fun x h1 tk1 n1 v1 G1 k1 f1 X1 V1 q1 => ?_)
  exact ⟨_, loc, _, v1, Mvd.kp k1 f1, F.kp k1 f1 X1, V1, q1⟩
theorem if_ok {t : PySem.Expr} {a b : List PySem.Stmt} {p : Pos} {c : CE} {x y : List CS} (it : TrOk P l env names t c) (ia : StOk P l env names (execs a env) (wpSs P l x)) (ib : StOk P l env names (execs b env) (wpSs P l y)) :
    StOk P l env names (exec (.If t a b p) env) (wpS P l (.ite c x y)) := by
  intro A S₀ s₀ hid S ρ loc H s Qn Qr Qx E F hX h
  simp only [q_assign, q_assignT, q_setIdx, q_mut, q_popTo, q_expr, q_ite, q_for1, q_forT, q_while, q_ret, q_pass] at h
  obtain ⟨R, hR, h⟩ := h
  refine wpAny_If (BP.then (it A S ρ loc H s (fun t H₁ => if t = true then wpSs P l x loc H₁ (Cut R) Qr Qx else wpSs P l y loc H₁ (Cut R) Qr Qx) _ E F.cx (hX.ex F) h) fun t h1 tk1 n1 G1 k1 f1 X1 q1 => ?_)
  have m : Mvd env ρ s (ρ ++ n1) { s with heap := h1, toks := tk1 } := Mvd.kp k1 f1
  cases t with
  | true =>
    simp only [if_true] at q1 ⊢
    exact wpAny_mono (ia A S₀ s₀ hid S _ loc _ _ (Cut R) Qr Qx E (F.kp k1 f1 X1) (hX.after m) q1) (fun f s₂ hf => (SP.after m (SP.cut hf)).mono hR) fun _ _ y => y
  | false =>
    simp only [Bool.false_eq_true, if_false] at q1 ⊢
    exact wpAny_mono (ib A S₀ s₀ hid S _ loc _ _ (Cut R) Qr Qx E (F.kp k1 f1 X1) (hX.after m) q1) (fun f s₂ hf => (SP.after m (SP.cut hf)).mono hR) fun _ _ y => y
theorem seq_ok (ih : ∀ (st : PySem.Stmt) (c : CS), compS nt n env.kindOf names st = some c → StOk P l env names (exec st env) (wpS P l c)) : ∀ (b : List PySem.Stmt) (cs : List CS), allSome (b.map (compS nt n env.kindOf names)) = some cs → StOk P l env names (execs b env) (wpSs P l cs)
  | [], cs, hc => by
    cases hc
    intro A S₀ s₀ hid S ρ loc H s Qn Qr Qx E F hX h
    simp only [q_nil, q_cons] at h
    exact wpAny_execs_nil ⟨ρ, loc, H, Mvd.refl, F, h⟩
  | st :: r, cs, hc => by
    obtain ⟨c, t, e1, e2, rfl⟩ := allSome_cons hc
    intro A S₀ s₀ hid S ρ loc H s Qn Qr Qx E F hX h
    simp only [q_nil, q_cons] at h
    refine wpAny_execs_cons (wpAny_mono (ih st c e1 A S₀ s₀ hid S ρ loc H s _ Qr Qx E F hX h) (fun f s₁ hf => ?_) fun _ _ y => y)
    cases f with
    | next =>
      obtain ⟨ρ₁, loc₁, H₁, m, F₁, q⟩ := hf
      exact wpAny_mono (seq_ok ih r t e2 A S₀ s₀ hid S ρ₁ loc₁ H₁ s₁ Qn Qr Qx E F₁ (hX.after m) q) (fun f s₂ hf => SP.after m hf) fun _ _ y => y
    | ret v => exact hf
    | _ => exact hf.elim

theorem swaps_false {v : PySem.Expr} {t : Option PySem.Expr} {k : Nat} (h : isComp v = false) : swapsWith v t k env = pure false := by
  cases v <;> first | rfl | cases h
/-- x = e -/
theorem assign_ok (ho : EnvOk env) {x : Str} {i : Nat} {v : PySem.Expr} {px p : Pos} {c : CE} (hx : slotOf env.kindOf names x = some i) (ie : EvOk P l env names v c) (hs : swapsWith v (some (.Name x px)) p.line env = pure false) :
    StOk P l env names (exec (.Assign [.Name x px] v p) env) (wpS P l (.assign i c)) := by
  intro A S₀ s₀ hid S ρ loc H s Qn Qr Qx E F hX h
  simp only [q_assign, q_assignT, q_setIdx, q_mut, q_popTo, q_expr, q_ite, q_for1, q_forT, q_while, q_ret, q_pass] at h
  refine wpAny_Assign_Name (EP.then (ie A S ρ loc H s _ _ E F.cx (hX.ex F) h) fun y h1 tk1 n1 v1 G1 k1 f1 X1 V1 q1 => ?_) hs
  refine wpAny_mono (store_ok (K := ⟨P, l, A, env, names, S₀, s₀, hid, S⟩) (F.kp (tk := tk1) k1 f1 X1) hx V1) (fun _ s₂ h2 => ?_) fun _ _ y => y
  exact ⟨_, _, _, (Mvd.kp k1 f1).trans h2.1, h2.2, q1⟩
theorem expr_st_ok (ho : EnvOk env) {e : PySem.Expr} {p : Pos} {c : CE} (ie : EvOk P l env names e c) (hs : isComp e = false) : StOk P l env names (exec (.Expr e p) env) (wpS P l (.expr c)) := by
  intro A S₀ s₀ hid S ρ loc H s Qn Qr Qx E F hX h
  simp only [q_assign, q_assignT, q_setIdx, q_mut, q_popTo, q_expr, q_ite, q_for1, q_forT, q_while, q_ret, q_pass] at h
  refine wpAny_Expr_any (EP.then (ie A S ρ loc H s _ _ E F.cx (hX.ex F) h) fun y h1 tk1 n1 v1 G1 k1 f1 X1 V1 q1 => ?_) (by unfold interactive; rw [ho.1]; rfl) (swaps_false hs)
  exact ⟨_, _, _, Mvd.kp k1 f1, F.kp k1 f1 X1, q1⟩

/-- o[i] = e -/
theorem set_vrels {S : Sx} {ρ : List Addr} {h : Heap} : ∀ {vs : List AV} {xs : List Value} {k : Nat} {v : AV} {x : Value}, VRels S ρ h vs xs → VRel S ρ h v x → VRels S ρ h (vs.set k v) (xs.set k x)
  | _, _, _, _, _, .nil, _ => .nil
  | _, _, 0, _, _, .cons _ r, V => .cons V r
  | _, _, k + 1, _, _, .cons a r, V => .cons a (set_vrels r V)
theorem PL.upd {h : Heap} {a : Addr} {items : Array Value} {m : Nat} (hp : h.get? a = some { cls := .type "list", data := .seq items m }) (f : Array Value → Array Value) : (h.update a (Obj.mapSeq f)).PlainList a (f items) := ⟨_, IsL.update hp f⟩
theorem setidx_ok {o i v : PySem.Expr} {sp p : Pos} {ca cb cc : CE} (iv : EvOk P l env names v ca) (io : EvOk P l env names o cb) (ii : EvOk P l env names i cc) :
    StOk P l env names (exec (.Assign [.Subscript o i sp] v p) env) (wpS P l (.setIdx cb cc ca)) := by
  intro A S₀ s₀ hid S ρ loc H s Qn Qr Qx E F hX h
  simp only [q_assign, q_assignT, q_setIdx, q_mut, q_popTo, q_expr, q_ite, q_for1, q_forT, q_while, q_ret, q_pass] at h
  have hs : swapsWith v (some (.Subscript o i sp)) p.line env = pure false := by cases v <;> rfl
  refine wpAny_Assign_Subscript (EP.then (iv A S ρ loc H s _ _ E F.cx (hX.ex F) h) fun y h1 tk1 n1 v1 G1 k1 f1 X1 V1 q1 => ?_) hs
  have C1 := F.cx.kp (tk := tk1) k1 f1 X1
  refine EP.then (io A S _ loc _ _ _ _ E C1 ((hX.ex F).kp k1) q1) fun y h2 tk2 n2 v2 G2 k2 f2 X2 V2 q2 => ?_
  have C2 := C1.kp (tk := tk2) k2 f2 X2
  refine EP.then (ii A S _ loc _ _ _ _ E C2 (((hX.ex F).kp k1).kp k2) q2) fun y h3 tk3 n3 v3 G3 k3 f3 X3 V3 q3 => ?_
  obtain ⟨r, k, vs, rfl, rfl, e1, e2, e3, e4, q⟩ := q3
  have V1' := (V1.kp k2 f2).kp k3 f3
  have V2' := V2.kp k3 f3
  have F3 := F.kp (tk := tk3) (e := n1 ++ n2 ++ n3) (G := G1 ++ G2 ++ G3) ((k1.trans k2).trans k3) (fresh_trans (k1.trans k2) (fresh_trans k1 f1 f2) f3) (by simpa [List.append_assoc] using X3)
  have m3 : Mvd env ρ s (ρ ++ (n1 ++ n2 ++ n3)) { s with heap := h3, toks := tk3 } := Mvd.kp ((k1.trans k2).trans k3) (fresh_trans (k1.trans k2) (fresh_trans k1 f1 f2) f3)
  cases V3
  cases V2' with
  | ref ha =>
  rename_i a
  obtain ⟨items, ⟨mm, hp⟩, vv⟩ := X3.get e1 ha
  have hl := vv.length
  simp only [Array.length_toList] at hl
  unfold smallN at e4
  refine PySem.W.ki_setAt (n := mm) hp e2 (by omega) (by omega) ?_
  have ha' : (ρ ++ (n1 ++ n2 ++ n3))[r]? = some a := by simpa [List.append_assoc] using ha
  have pl := PL.upd hp (·.setIfInBounds k.toNat y)
  have V' : VRels S (ρ ++ (n1 ++ n2 ++ n3)) h3 (vs.set k.toNat v1) (items.setIfInBounds k.toNat y).toList := by
    have := set_vrels (k := k.toNat) vv V1'
    rw [Array.toList_setIfInBounds]
    simpa [List.append_assoc] using this
  refine ⟨_, loc, _, m3.trans (Mvd.set (tk := tk3) ha' (Heap.SameBut.update ..) pl), F3.set (tk := tk3) ha' (Heap.SameBut.update ..) pl V', ?_⟩
  simpa [List.append_assoc] using q
end

open PySem PyProof.Rows PySem.SeqAt
section
variable {K : FC} {ρ : List Addr} {loc : Loc} {H : AH} {s : Shared} {h' : Heap} {tk : Nat} {E : Value → Shared → Prop}

/-- more addresses are protected, and lists are new -/
theorem Fr.guardG {x' e : List Addr} {G : AH} (F : Fr K ρ loc H s) (hx : ∀ b ∈ x', s.heap.get? b = none) (k : Kp s.heap h') (hd : ∀ b ∈ x', ∃ o, h'.get? b = some o) (f : Fresh s.heap e) (X : HSim ⟨K.S.ad ++ x', K.S.prog, K.S.w⟩ (ρ ++ e) (H ++ G) h') :
    Fr { K with S := ⟨K.S.ad ++ x', K.S.prog, K.S.w⟩ } (ρ ++ e) loc (H ++ G) { s with heap := h', toks := tk } where
  aok := F.aok
  eok := F.eok
  nd := F.nd
  g0 := F.g0
  pp := F.pp
  pw := F.pw
  sd := fun b hb => (List.mem_append.mp hb).elim (F.sd.kp k b) (hd b)
  sim := X
  fr := fun a ha => (List.mem_append.mp ha).elim (F.fr a) fun q => by
    cases q0 : K.s₀.heap.get? a with
    | none => rfl
    | some o => have := f a q; rw [F.keep a o q0] at this; cases this
  sub := fun b hb => List.mem_append_left _ (F.sub b hb)
  hL := List.mem_append_left _ F.hL
  hC := fun n c hc => List.mem_append_left _ (F.hC n c hc)
  len := F.len
  ic := let ⟨m, cm, I, q⟩ := F.ic; ⟨m, cm, InCallC.kp I k, fun i x v e1 e2 => let ⟨rv, h1, h2⟩ := q i x v e1 e2; ⟨rv, h1, (h2.avoid hx).kp k f⟩⟩
  hh := fun i rv v e1 e2 => ((F.hh i rv v e1 e2).avoid hx).kp k f
theorem Fr.guard {x' : List Addr} (F : Fr K ρ loc H s) (hx : ∀ b ∈ x', s.heap.get? b = none) (k : Kp s.heap h') (hd : ∀ b ∈ x', ∃ o, h'.get? b = some o) : Fr { K with S := ⟨K.S.ad ++ x', K.S.prog, K.S.w⟩ } ρ loc H { s with heap := h', toks := tk } := by
  have := F.guardG (e := []) (G := []) (tk := tk) hx k hd (Fresh.nil _) (by simpa using (F.sim.avoid hx).kp k)
  simpa using this
/-- the protected addresses that were added are given up, in whatever state -/
theorem Fr.unguard {x' : List Addr} {S : Sx} (F : Fr K ρ loc H s) (hS : K.S = ⟨S.ad ++ x', S.prog, S.w⟩) (hk : ∀ c o, c ∉ x' → s.heap.get? c = some o → h'.get? c = some o)
    (hf : ∀ b ∈ x', b ∉ S.ad ∧ K.s₀.heap.get? b = none) (hs : ∀ b ∈ K.S₀.ad, b ∈ S.ad) (hL : K.env.locals ∈ S.ad) (hC : ∀ n c, (n, c) ∈ K.env.cells → c ∈ S.ad) : Fr { K with S := S } ρ loc H { s with heap := h', toks := tk } := by
  have hx : ∀ b ∈ x', b ∈ K.S.ad := fun b hb => by rw [hS]; exact List.mem_append_right _ hb
  have hc : ∀ c o, c ∉ K.S.ad → s.heap.get? c = some o → h'.get? c = some o := fun c o hc e => hk c o (fun q => hc (hx c q)) e
  have hsub : ∀ b ∈ S.ad, b ∈ K.S.ad := fun b hb => by rw [hS]; exact List.mem_append_left _ hb
  have hp : K.S.prog = S.prog := by rw [hS]
  have hw : K.S.w = S.w := by rw [hS]
  have hn : ∀ b ∈ S.ad, b ∉ x' := fun b hb q => (hf b q).1 hb
  have ch : ∀ {v : AV} {x : Value}, VRel K.S ρ s.heap v x → VRel S ρ h' v x := fun V => VRel.sub hp hw hsub (V.chg hc)
  exact { aok := F.aok, eok := F.eok, nd := F.nd, g0 := F.g0, pp := hp.symm.trans F.pp, pw := hw.symm.trans F.pw
          sd := fun a ha => let ⟨o, ho⟩ := F.sd a (hsub a ha); ⟨o, hk a o (hn a ha) ho⟩
          sim := HSim.sub hp hw hsub (F.sim.chg hc)
          fr := F.fr, sub := hs, hL := hL, hC := hC, len := F.len
          ic := by
            obtain ⟨m, cm, I, q⟩ := F.ic
            refine ⟨m, cm, ⟨⟨let ⟨_, _, e⟩ := I.toInCall.same; ⟨h', tk, by rw [e]⟩, I.toInCall.ns.at' fun o e => hk _ o (hn _ hL) e, fun b o e => hk b o (fun q => by rw [(hf b q).2] at e; cases e) (I.toInCall.keep b o e), I.toInCall.fresh⟩, fun n c hc => ?_, I.apart, I.above⟩, fun i x v e1 e2 => let ⟨rv, h1, h2⟩ := q i x v e1 e2; ⟨rv, h1, ch h2⟩⟩
            obtain ⟨o, ho, hd⟩ := I.cell n c hc
            exact ⟨o, hk c o (hn c (hC n c (mem_of_lookup hc))) ho, hd⟩
          hh := fun i rv v e1 e2 => ch (F.hh i rv v e1 e2) }
theorem Mvd.junk {env : Env} {x' ρ' : List Addr} {s₂ : Shared} (m : Mvd env ρ s ρ' s₂) (hk : ∀ c o, c ∉ x' → s₂.heap.get? c = some o → h'.get? c = some o) (hx : ∀ b ∈ x', s.heap.get? b = none) : Mvd env ρ s ρ' { s₂ with heap := h', toks := tk } where
  same := by obtain ⟨h, t, rfl⟩ := m.same; exact ⟨h', tk, rfl⟩
  mv := fun b o h1 h2 h3 e => hk b o (fun q => by rw [hx b q] at e; cases e) (m.mv b o h1 h2 h3 e)
  sub := m.sub
  alive := fun b o e => by
    obtain ⟨o', e'⟩ := m.alive b o e
    exact ⟨o', hk b o' (fun q => by rw [hx b q] at e; cases e) e'⟩
end
section
variable {P : PC} {l : Lv} {env : Env} {names : List Str} {nt : NT} {n : Nat}

/-- x = [...], where the store comes before the comprehension's names are let go -/
theorem assign_comp_ok (ho : EnvOk env) {x : Str} {i : Nat} {py p : Pos} {scope : Scope} {cap : List Nat} {tgt : PySem.Expr} {nv : Nat} {txs : List Str} {pos : Pos} {elt it : PySem.Expr} {ifs : List PySem.Expr} {ce ci : CE} {cs : List CE}
    (hx : slotOf env.kindOf names x = some i)
    (ih : ∀ (env : Env) (names : List Str), EnvOk env → ∀ (e : PySem.Expr) (c : CE), compE nt n env.kindOf names e = some c → EvOk P l env names e c ∧ TrOk P l env names e c)
    (hi : compE nt n env.kindOf names it = some ci) (hcap : allSome ((freeNames scope).map fun x => idxOf x names) = some cap) (he : compE nt n (compKd scope env.kindOf) (freeNames scope ++ txs) elt = some ce)
    (hc : allSome (ifs.map (compE nt n (compKd scope env.kindOf) (freeNames scope ++ txs))) = some cs) (hok : compOk scope env.kindOf txs = true) (htg : tgtNames tgt = some (nv, txs)) (hnd : txs.Nodup) (hcs : cs.length ≤ 1)
    (hs : swapsWith (.ListComp elt [⟨tgt, it, ifs, 0⟩] scope pos) (some (.Name x py)) p.line env = pure true) :
    StOk P l env names (exec (.Assign [.Name x py] (.ListComp elt [⟨tgt, it, ifs, 0⟩] scope pos) p) env) (wpS P l (.assign i (.comp ce cs cap nv ci))) := by
  intro A S₀ s₀ hid S ρ loc H s Qn Qr Qx E F hX h
  simp only [q_assign, q_assignT, q_setIdx, q_mut, q_popTo, q_expr, q_ite, q_for1, q_forT, q_while, q_ret, q_pass] at h
  rw [exec_Assign_Name_used _ _ _ _ hs]
  refine wpAny_bind (wpAny_standAt (wpAny_bind ?_))
  show wpAny _ A (do let _ ← comprehension (.ListComp elt [⟨tgt, it, ifs, 0⟩] scope pos) scope env (firstIterPos [⟨tgt, it, ifs, 0⟩] pos) (newList []) false (eval it env) (some (assign (.Name x py) env))) _ _ s
  refine wpAny_bind (wpAny_mono (comp_run (QQ := fun _ s' => SP ⟨P, l, A, env, names, S₀, s₀, hid, S⟩ ρ s Qn Qr .next s') ho ih hi hcap he hc hok htg hnd hcs F.cx (hX.ex F) h ?_) (fun _ s' hq => wpAny_pure (wpAny_pure hq)) fun _ _ e => e)
  intro h₁ tk₁ e₁ G₁ D Cc h' tk m ys vs k1 f1 C1 hD hCc hDC hn hp hV hl k' q
  show wpAny _ A (assign (.Name x py) env (.ref D)) _ _ _
  obtain ⟨Sp, hp1, hp2, hp3, hp4, hp5, hV⟩ := hV
  have F1 := F.kp (tk := tk₁) k1 f1 C1.sim
  have hCo : ∃ o, h'.get? Cc = some o := let ⟨o, _, _, ho, _⟩ := hn; ⟨o, ho⟩
  have hDS : D ∉ S.ad ++ [Cc] := fun hm => by
    rcases List.mem_append.mp hm with q | q
    · obtain ⟨o, ho⟩ := C1.sd D q; rw [hD] at ho; cases ho
    · simp at q; exact hDC q
  have fD : Fresh h₁ [D] := fun a ha => by simp at ha; subst ha; exact hD
  have X2 : HSim ⟨S.ad ++ [Cc], S.prog, S.w⟩ (ρ ++ e₁ ++ [D]) (H ++ G₁ ++ [vs]) h' := by
    refine (HSim.avoid (x' := [Cc]) C1.sim (fun b hb => by simp at hb; subst hb; exact hCc)).pushO k' hD hDS hp ?_
    exact VRels.own (S := ⟨S.ad ++ [Cc], S.prog, S.w⟩) hp1 hp2 (fun b hb => (List.mem_append.mp hb).elim (hp3 b) fun q => by simp at q; subst q; exact hp5) (fun b hb => by simp at hb; subst hb; exact hp4) hV
  have F2 := F1.guardG (x' := [Cc]) (e := [D]) (G := [vs]) (tk := tk) (fun b hb => by simp at hb; subst hb; exact hCc) k' (fun b hb => by simp at hb; subst hb; exact hCo) fD X2
  have VD : VRel ⟨S.ad ++ [Cc], S.prog, S.w⟩ (ρ ++ e₁ ++ [D]) h' (.ref (H ++ G₁).length) (.ref D) := .ref (by rw [← C1.sim.len]; simp)
  have hCL : Cc ≠ env.locals := fun q => by obtain ⟨o, ho⟩ := F1.sd _ F1.hL; rw [← q, hCc] at ho; cases ho
  have hCC : ∀ n c, (n, c) ∈ env.cells → Cc ≠ c := fun n c hm q => by obtain ⟨o, ho⟩ := F1.sd _ (F1.hC n c hm); rw [← q, hCc] at ho; cases ho
  refine wpAny_assign_Name (wpAny_mono (store_ok F2 hx VD) (fun _ s₂ h2 => ?_) fun _ _ y => y)
  obtain ⟨M2, F3⟩ := h2
  have hCr : Cc ∉ ρ ++ e₁ ++ [D] := fun hm => by
    rcases List.mem_append.mp hm with q | q
    · obtain ⟨o, ho⟩ := C1.sim.mem q; rw [hCc] at ho; cases ho
    · simp at q; exact hDC q.symm
  have hn2 : s₂.heap.Ns Cc m := hn.at' fun o e => M2.mv Cc o hCL hCC hCr e
  refine ⟨m, hn2, fun h3 hs3 => ?_⟩
  have hk3 : ∀ c o, c ∉ [Cc] → s₂.heap.get? c = some o → h3.get? c = some o := fun c o hc e => hs3.extBut c o (fun q => hc (by simp [q])) e
  have F4 := F3.unguard (x' := [Cc]) (S := S) (h' := h3) (tk := s₂.toks) rfl hk3
    (fun b hb => by
      simp at hb; rw [hb]
      refine ⟨fun q => ?_, ?_⟩
      · obtain ⟨o, ho⟩ := F1.sd _ q; rw [hCc] at ho; cases ho
      · cases q0 : s₀.heap.get? Cc with
        | none => rfl
        | some o => have := F1.keep _ _ q0; rw [hCc] at this; cases this) F.sub F.hL F.hC
  have m1 : Mvd env ρ s (ρ ++ e₁) { s with heap := h₁, toks := tk₁ } := Mvd.kp k1 f1
  have m2 : Mvd env (ρ ++ e₁) { s with heap := h₁, toks := tk₁ } (ρ ++ e₁ ++ [D]) { s with heap := h', toks := tk } := Mvd.kp k' fD
  exact ⟨_, _, _, m1.trans ((m2.trans M2).junk (x' := [Cc]) (tk := s₂.toks) hk3 fun b hb => by simp at hb; subst hb; exact hCc), F4, q⟩
end

open PySem PyProof.Rows PySem.SeqAt
section
variable {prog : Program} {w : World} {A : Around} {S : Sx} {ρ : List Addr} {H : AH} {s : Shared} {E : Value → Shared → Prop} {v : AV} {x : Value}

theorem VRel.mono2 {h h' : Heap} (hk : ∀ b o, b ∉ ρ → b ∉ S.ad → h.get? b = some o → h'.get? b = some o) {v : AV} {x : Value} (V : VRel S ρ h v x) : VRel S ρ h' v x :=
  VRel.rec (motive_1 := fun v x _ => VRel S ρ h' v x) (motive_2 := fun v x _ => VRels S ρ h' v x)
    (.none)
    (fun b => .bool b)
    (fun i t => .int i t)
    (fun x t => .str x t)
    (fun ha hs hi hv ih => .tup ha hs (hi.at fun o e => hk _ o ha hs e) ih)
    (fun ha hs hi hv ih => .fl ha hs (PlainList.at' hi fun o e => hk _ o ha hs e) ih)
    (fun hi => .ref hi)
    (fun hr ha hs hi => .rng hr ha hs (hk _ _ ha hs hi))
    (fun ha hs hm he hv ih => .dict ha hs (DMap.at hm fun o e => hk _ o ha hs e) he ih)
    (fun ha hs hi => .exc ha hs (hi.at fun o e => hk _ o ha hs e))
    .nil (fun _ _ i1 i2 => .cons i1 i2) V
theorem VRels.mono2 {h h' : Heap} (hk : ∀ b o, b ∉ ρ → b ∉ S.ad → h.get? b = some o → h'.get? b = some o) {v : List AV} {x : List Value} (V : VRels S ρ h v x) : VRels S ρ h' v x :=
  VRels.ind (M := fun v x => VRels S ρ h' v x) .nil (fun _ _ _ _ a _ i2 => .cons (VRel.mono2 hk a) i2) V
end
section
variable {P : PC} {l : Lv} {env : Env} {names : List Str} {nt : NT} {n : Nat}

theorem stores_ok {K : FC} {E : Value → Shared → Prop} : ∀ (es : List PySem.Expr) (xs : List Nat) (vs : List AV) (ys : List Value) {ρ : List Addr} {loc : Loc} {H : AH} {s : Shared}, allSome (es.map fun e => (nameOf e).bind (slotOf K.env.kindOf K.names)) = some xs → VRels K.S ρ s.heap vs ys → vs.length = xs.length → Fr K ρ loc H s →
    wpAny (model K.P.prog K.P.w) K.A (assignInOrder ((assignEach es K.env).map (·.2)) ys) (fun _ s' => Mvd K.env ρ s ρ s' ∧ Fr K ρ (setAll loc xs vs) H s') E s
  | [], xs, vs, ys, ρ, loc, H, s, hc, V, hl, F => by
    cases hc
    have : vs = [] := List.length_eq_zero_iff.mp hl
    subst this
    exact wpAny_pure ⟨Mvd.refl, F⟩
  | e :: r, xs, vs, ys, ρ, loc, H, s, hc, V, hl, F => by
    obtain ⟨a, t, e1, e2, rfl⟩ := allSome_cons hc
    obtain ⟨x, ex, ea⟩ := Option.bind_eq_some_iff.mp e1
    cases V with
    | nil => simp at hl
    | cons V Vr =>
    rename_i v vs y ys
    cases e <;> first | (cases ex; done) | skip
    cases ex
    rename_i p
    show wpAny _ _ (do holding ys (assign (.Name x p) K.env y); assignInOrder ((assignEach r K.env).map (·.2)) ys) _ _ s
    refine wpAny_bind (wpAny_holding (wpAny_assign_Name (wpAny_mono (store_ok F ea V) (fun _ s₁ h₁ => ?_) fun _ _ y => y)))
    obtain ⟨m1, F1⟩ := h₁
    have Vr' : VRels K.S ρ s₁.heap vs ys := by
      exact Vr.mono2 fun b o hb hs e => m1.mv b o (fun q => hs (q ▸ F.hL)) (fun n c hc q => hs (q ▸ F.hC n c hc)) hb e
    refine wpAny_mono (stores_ok r t vs ys e2 Vr' (by simpa using hl) F1) (fun _ s₂ h₂ => ?_) fun _ _ y => y
    exact ⟨m1.trans h₂.1, h₂.2⟩

theorem each_map : ∀ (es : List PySem.Expr) (xs : List Nat), allSome (es.map fun e => (nameOf e).bind (slotOf env.kindOf names)) = some xs → (assignEach es env).length = xs.length ∧ (assignEach es env).findIdx? (·.1) = none
  | [], xs, hc => by cases hc; exact ⟨rfl, rfl⟩
  | e :: r, xs, hc => by
    obtain ⟨a, t, e1, e2, rfl⟩ := allSome_cons hc
    obtain ⟨x, ex, ea⟩ := Option.bind_eq_some_iff.mp e1
    cases e <;> first | (cases ex; done) | skip
    cases ex
    rename_i p
    have q := each_map r t e2
    have e0 : assignEach (.Name x p :: r) env = (false, assign (.Name x p) env) :: assignEach r env := rfl
    rw [e0]
    refine ⟨by simp [q.1], ?_⟩
    rw [List.findIdx?_cons]
    simp [q.2]
/-- a, b = e -/
theorem assignT_ok (ho : EnvOk env) {es : List PySem.Expr} {xs : List Nat} {v : PySem.Expr} {kk : Nat} {tp p : Pos} {c : CE} (hx : allSome (es.map fun e => (nameOf e).bind (slotOf env.kindOf names)) = some xs) (ie : EvOk P l env names v c) (ht : isTup v = false) (hc : isComp v = false) :
    StOk P l env names (exec (.Assign [.Tuple es kk tp] v p) env) (wpS P l (.assignT xs c)) := by
  intro A S₀ s₀ hid S ρ loc H s Qn Qr Qx E F hX h
  simp only [q_assign, q_assignT, q_setIdx, q_mut, q_popTo, q_expr, q_ite, q_for1, q_forT, q_while, q_ret, q_pass] at h
  obtain ⟨hq, h⟩ := h
  have hm := each_map (env := env) (names := names) es xs hx
  refine Assign_Tuple (EP.then (ie A S ρ loc H s _ _ E F.cx (hX.ex F) h) fun y h1 tk1 n1 v1 G1 k1 f1 X1 V1 qz => ?_) (by unfold swapsWithSole; exact swaps_false hc) (by cases v <;> first | rfl | cases ht)
  obtain ⟨vs, e1, qy⟩ := opt_of qz
  obtain ⟨loc', ez, q1⟩ := opt_of qy
  obtain ⟨e2, rfl⟩ := setAllO_of xs vs ez
  rw [show assign (.Tuple es kk tp) env y = (do standAt tp; unpack y (assignEach es env)) from rfl]
  refine wpAny_bind (wpAny_standAt ?_)
  unfold unpack
  rw [hm.1, hm.2, ← e2]
  refine wpAny_bind (wpAny_holding (unpack_real (F.aok.1 hq) X1 V1 e1 fun ys h2 tk2 k2 V2 => ?_))
  have F1 := F.kp (tk := tk1) k1 f1 X1
  have F2 := F1.kp0 (tk := tk2) k2
  refine wpAny_mono (stores_ok (K := ⟨P, l, A, env, names, S₀, s₀, hid, S⟩) es xs vs ys hx (V2.kp0 k2) e2 F2) (fun _ s₂ h₂ => ?_) fun _ _ y => y
  exact ⟨_, _, _, ((Mvd.kp k1 f1).trans (Mvd.kp0 (s := { s with heap := h1, toks := tk1 }) k2)).trans h₂.1, h₂.2, q1⟩
end

open PySem PyProof.Rows PySem.SeqAt
section
variable {K : FC} {ρ : List Addr} {loc : Loc} {H : AH} {s : Shared} {tk : Nat} {Qn : Loc → AH → Prop} {Qr : AV → AH → Prop}
theorem mut_fin {r m : Nat} {a : Addr} {items : Array Value} {ys : List AV} (F : Fr K ρ loc H s) (ha : ρ[r]? = some a) (hp : s.heap.get? a = some { cls := .type "list", data := .seq items m }) (f : Array Value → Array Value) (V : VRels K.S ρ s.heap ys (f items).toList) (q : Qn loc (H.set r ys)) :
    SP K ρ s Qn Qr .next { s with heap := s.heap.update a (Obj.mapSeq f), toks := tk } :=
  ⟨ρ, loc, _, Mvd.set ha (Heap.SameBut.update ..) (PL.upd hp f), F.set ha (Heap.SameBut.update ..) (PL.upd hp f) V, q⟩
end
section
variable {P : PC} {l : Lv} {env : Env} {names : List Str} {nt : NT} {n : Nat}

theorem opMut1 {vs : List AV} {k : AV → Option (List AV)} {ys : List AV} (h : mut1 vs k = some ys) : ∃ v, vs = [v] ∧ k v = some ys := by
  rcases vs with _ | ⟨v, _ | ⟨u, r⟩⟩
  · cases h
  · exact ⟨v, rfl, h⟩
  · cases h
theorem opMut0 {vs : List AV} {k : Option (List AV)} {ys : List AV} (h : mut0 vs k = some ys) : vs = [] ∧ k = some ys := by
  rcases vs with _ | ⟨v, r⟩
  · exact ⟨rfl, h⟩
  · cases h
theorem opMut2 {vs : List AV} {k : Int → AV → Option (List AV)} {ys : List AV} (h : mut2 vs k = some ys) : ∃ i v, vs = [.int i, v] ∧ k i v = some ys := by
  rcases vs with _ | ⟨v, _ | ⟨u, _ | ⟨u2, r⟩⟩⟩
  · cases h
  · cases h
  · cases v <;> first | (cases h; done) | exact ⟨_, _, rfl, h⟩
  · cases h
theorem meth_arg {m : Mu} {r : Nat} {H : AH} {xs ys vs : List AV} (h0 : opMut H m xs vs = some ys) :
    (m = .append ∧ ∃ v, vs = [v] ∧ xs.length < smallN ∧ ys = xs ++ [v]) ∨ (m = .insert ∧ ∃ k v, vs = [.int k, v] ∧ xs.length < smallN ∧ -1000000 < k ∧ k < 1000000 ∧ ys = insAt xs k v) ∨ (m = .clear ∧ vs = [] ∧ xs.length ≤ smallN ∧ ys = []) ∨
    (m = .extend ∧ ∃ v zs, vs = [v] ∧ v.items? H = some zs ∧ xs.length + zs.length ≤ smallN ∧ ys = xs ++ zs) ∨ (m = .reverse ∧ vs = [] ∧ xs.length ≤ smallN ∧ ys = xs.reverse) ∨ (m = .pop ∧ vs = [] ∧ xs.length ≤ smallN ∧ 0 < xs.length ∧ ys = xs.eraseIdx (xs.length - 1)) := by
  cases m with
  | append =>
    obtain ⟨v, rfl, h⟩ := opMut1 h0
    clear h0
    refine .inl ⟨rfl, v, rfl, ?_⟩
    split at h
    · rename_i hh; cases h; exact ⟨hh, rfl⟩
    · cases h
  | insert =>
    obtain ⟨k, v, rfl, h⟩ := opMut2 h0
    clear h0
    refine .inr (.inl ⟨rfl, k, v, rfl, ?_⟩)
    split at h
    · rename_i hh; cases h; exact ⟨hh.1, hh.2.1, hh.2.2, rfl⟩
    · cases h
  | clear =>
    obtain ⟨rfl, h⟩ := opMut0 h0
    clear h0
    refine .inr (.inr (.inl ⟨rfl, rfl, ?_⟩))
    split at h
    · rename_i hh; cases h; exact ⟨hh, rfl⟩
    · cases h
  | extend =>
    obtain ⟨v, rfl, h⟩ := opMut1 h0
    clear h0
    refine .inr (.inr (.inr (.inl ⟨rfl, v, ?_⟩)))
    split at h
    · rename_i zs hz
      split at h
      · rename_i hh; cases h; exact ⟨zs, rfl, hz, hh, rfl⟩
      · cases h
    · cases h
  | reverse =>
    obtain ⟨rfl, h⟩ := opMut0 h0
    clear h0
    refine .inr (.inr (.inr (.inr (.inl ⟨rfl, rfl, ?_⟩))))
    split at h
    · rename_i hh; cases h; exact ⟨hh, rfl⟩
    · cases h
  | pop =>
    obtain ⟨rfl, h⟩ := opMut0 h0
    clear h0
    refine .inr (.inr (.inr (.inr (.inr ⟨rfl, rfl, ?_⟩))))
    split at h
    · rename_i hh; cases h; exact ⟨hh.1, hh.2, rfl⟩
    · cases h

theorem mut_ok (ho : EnvOk env) {o : PySem.Expr} {name : Str} {ap p pos : Pos} {es : List PySem.Expr} {c : CE} {cs : List CE} {m : Mu}
    (ih : ∀ (e : PySem.Expr) (c : CE), compE nt n env.kindOf names e = some c → EvOk P l env names e c) (e1 : compE nt n env.kindOf names o = some c) (e2 : allSome (es.map (compE nt n env.kindOf names)) = some cs) (hl : (ap.endLine == p.line) = true) (hlen : cs.length ≤ 2) (hm : muNames.lookup name = some m) :
    StOk P l env names (exec (.Expr (.Call (.Attribute o name ap) es [] p) pos) env) (wpS P l (.mut m c cs)) := by
  intro A S₀ s₀ hid S ρ loc H s Qn Qr Qx E Fm hX h
  simp only [q_assign, q_assignT, q_setIdx, q_mut, q_popTo, q_expr, q_ite, q_for1, q_forT, q_while, q_ret, q_pass] at h
  refine wpAny_Expr_any ?_ (by unfold interactive; rw [ho.1]; rfl) rfl
  have hmem := lookup_mem hm
  simp only [muNames, List.mem_cons, Prod.mk.injEq, List.not_mem_nil, or_false] at hmem
  have hX' := hX.ex Fm
  have sl : sizeLine = 2 ^ 24 := rfl
  -- what is common to all
  have go : ∀ {h' : Heap} {tk : Nat} {e : List Addr} {G : AH} {u : AV} {vs : List AV} {x : Value}, Kp s.heap h' → Fresh s.heap e → Cx P l A env names S (ρ ++ e) loc (H ++ G) { s with heap := h', toks := tk } → VRel S (ρ ++ e) h' u x →
      (∃ r xs ys, u = .ref r ∧ (H ++ G)[r]? = some xs ∧ opMut (H ++ G) m xs vs = some ys ∧ (∀ v, vs = [v] → m = .extend → v ≠ u) ∧ Qn loc ((H ++ G).set r ys)) →
      ∃ r xs ys a items mm, u = .ref r ∧ x = .ref a ∧ h'.get? a = some { cls := .type "list", data := .seq items mm } ∧ VRels S (ρ ++ e) h' xs items.toList ∧ opMut (H ++ G) m xs vs = some ys ∧ (∀ v, vs = [v] → m = .extend → v ≠ u) ∧
        ∀ (f : Array Value → Array Value) (tk' : Nat), VRels S (ρ ++ e) h' ys (f items).toList → SP ⟨P, l, A, env, names, S₀, s₀, hid, S⟩ ρ s Qn Qr .next { s with heap := h'.update a (Obj.mapSeq f), toks := tk' } := by
    intro h' tk e G u vs x k fr C V hq
    obtain ⟨r, xs, ys, rfl, er, eo, hne, q⟩ := hq
    cases V with
    | ref ha =>
    rename_i a
    obtain ⟨items, ⟨mm, hp⟩, vv⟩ := C.sim.get er ha
    refine ⟨r, xs, ys, a, items, mm, rfl, rfl, hp, vv, eo, hne, fun f tk' V => ?_⟩
    have F' := Fm.kp (tk := tk) k fr C.sim
    exact SP.after (Mvd.kp (tk := tk) k fr) (mut_fin (tk := tk') F' ha hp f V q)
  rcases hmem with ⟨rfl, rfl⟩ | ⟨rfl, rfl⟩
  · refine meth_run ih e1 e2 hl (by omega) F.slot_list_append F.type_list_append Fm.cx hX' h ?_
    intro h' tk e G v vs x xs k fr C' V Vs hL q
    obtain ⟨r, as, ys, a, items, mm, rfl, rfl, hp, vv, eo, hne, fin⟩ := go k fr C' V q
    rcases meth_arg (r := r) eo with ⟨_, u, rfl, hs, rfl⟩ | ⟨hh, _⟩ | ⟨hh, _⟩ | ⟨hh, _⟩ | ⟨hh, _⟩ | ⟨hh, _⟩ <;> try cases hh
    have hz := vv.length
    simp only [Array.length_toList] at hz
    unfold smallN at hs
    obtain ⟨y, ey, Vu⟩ := Vs.of1
    subst ey
    · skip
      refine call_meets F.slot_list_append ⟨_, hp, rfl⟩ F.entry_list_append (F.args_list_append_2 _ _) (list_append a items mm y (by omega)) ⟨hp, ?_⟩
      exact fin (·.push y) tk (by simpa using vv.app (.cons Vu .nil))
  · refine meth_run ih e1 e2 hl (by omega) F.slot_list_insert F.type_list_insert Fm.cx hX' h ?_
    intro h' tk e G v vs x xs k fr C' V Vs hL q
    obtain ⟨r, as, ys, a, items, mm, rfl, rfl, hp, vv, eo, hne, fin⟩ := go k fr C' V q
    rcases meth_arg (r := r) eo with ⟨hh, _⟩ | ⟨_, j, u, rfl, hs, h1, h2, rfl⟩ | ⟨hh, _⟩ | ⟨hh, _⟩ | ⟨hh, _⟩ | ⟨hh, _⟩ <;> try cases hh
    have hz := vv.length
    simp only [Array.length_toList] at hz
    unfold smallN at hs
    obtain ⟨y0, y, ey, Vi, Vu⟩ := Vs.of2
    subst ey
    obtain ⟨t, ei⟩ := Vi.ofInt
    subst ei
    · skip
      have hfit : ¬(!Builtin.List.listFitsIndex j) = true := by
        simp only [Builtin.List.listFitsIndex]
        simp
        omega
      refine call_meets F.slot_list_insert ⟨_, hp, rfl⟩ F.entry_list_insert (F.args_list_insert_3 _ _ _) (AutoSeq1.list_insert_list_int_val_1 a items mm j t y hfit (by omega)) ⟨hp, ?_⟩
      refine fin _ tk ?_
      have hk : (if j < 0 then (j + (items.size : Int)).toNat else min j.toNat items.size) = (if j < 0 then (j + (as.length : Int)).toNat else min j.toNat as.length) := by rw [hz]
      simp only [insAt]
      rw [← hk]
      generalize (if j < 0 then (j + (items.size : Int)).toNat else min j.toNat items.size) = q
      have := (vv.take q).app (.cons Vu (vv.drop q))
      simpa [List.take_of_length_le] using this
end

open PySem PyProof.Rows PySem.SeqAt

/-- an iterator at its place -/
noncomputable def ItAt (h : Heap) (I : Addr) (x : Value) (n k : Nat) : AV → Prop
  | .rng i _ st => IsRangeIter h I (i + (k : Nat) * st) ((n : Int) - (k : Nat)) st
  | .tup _ => ∃ l, x = .ref l ∧ h.IsTupleIter I l k ∧ l ≠ I
  | .fl _ => ∃ l, x = .ref l ∧ h.IsListIter I l k ∧ l ≠ I
  | .str z => ∃ t, h.IsStrIter I "str_ascii_iterator" z t k ∨ h.IsStrIter I "str_iterator" z t k
  | _ => False
theorem ItAt.at {h h' : Heap} {I : Addr} {x : Value} {n k : Nat} {κ : AV} (t : ItAt h I x n k κ) (hk : ∀ o, h.get? I = some o → h'.get? I = some o) : ItAt h' I x n k κ := by
  cases κ with
  | rng i j st => exact hk _ t
  | tup _ => obtain ⟨l, e, t, hne⟩ := t; exact ⟨l, e, t.at fun o q => hk o q, hne⟩
  | fl _ => obtain ⟨l, e, t, hne⟩ := t; exact ⟨l, e, t.at fun o q => hk o q, hne⟩
  | str z => obtain ⟨u, t⟩ := t; exact ⟨u, t.imp (fun ⟨o, e, r⟩ => ⟨o, hk o e, r⟩) fun ⟨o, e, r⟩ => ⟨o, hk o e, r⟩⟩
  | _ => exact t.elim
theorem ItAt.alive {h : Heap} {I : Addr} {x : Value} {n k : Nat} {κ : AV} (t : ItAt h I x n k κ) : ∃ o, h.get? I = some o := by
  cases κ with
  | rng i j st => exact ⟨_, t⟩
  | tup _ => obtain ⟨l, e, ⟨o, t, _⟩, hne⟩ := t; exact ⟨o, t⟩
  | fl _ => obtain ⟨l, e, ⟨o, t, _⟩, hne⟩ := t; exact ⟨o, t⟩
  | str z => obtain ⟨u, ⟨o, t, _⟩ | ⟨o, t, _⟩⟩ := t <;> exact ⟨o, t⟩
  | _ => exact t.elim
section
variable {prog : Program} {w : World} {A : Around} {S : Sx} {ρ : List Addr} {H : AH} {s : Shared} {E : Value → Shared → Prop} {v : AV} {x : Value} {its : List AV}

theorem iter_start {QQ : Value → Shared → Prop} (X : HSim S ρ H s.heap) (V : VRel S ρ s.heap v x) (e : iterOf H v = some its)
    (h : ∀ (I : Addr) (h₂ : Heap), ItAt h₂ I x its.length 0 v.ik → Kp s.heap h₂ → s.heap.get? I = none → QQ (.ref I) { s with heap := h₂ }) : wpAny (model prog w) A (pyIter x) QQ E s := by
  cases V with
  | rng hr ha hs0 hi =>
    rename_i a i j k t u u'
    simp [iterOf] at e
    have hs := rng_size hr
    refine wpAny_pyIter_range hi (rng_small hr) (h _ _ ?_ (push_kp _ _) (size_none _))
    have el : its.length = (Builtin.Range.rangeSize i j k).toNat := by rw [← e]; simp [rngList]
    have e0 : i + ((0 : Nat) : Int) * k = i := by simp
    have e1 : ((its.length : Nat) : Int) - ((0 : Nat) : Int) = Builtin.Range.rangeSize i j k := by rw [el]; omega
    show IsRangeIter _ _ (i + ((0 : Nat) : Int) * k) (((its.length : Nat) : Int) - ((0 : Nat) : Int)) k
    rw [e0, e1]
    exact Heap.get?_push_size _ rfl
  | tup ha hs hi hv =>
    refine wpAny_pyIter_tuple hi.isTuple (h _ _ ⟨_, rfl, ⟨_, Heap.get?_push_size _ rfl, rfl, rfl⟩, ?_⟩ (push_kp _ _) (size_none _))
    obtain ⟨n, hl⟩ := hi; exact Nat.ne_of_lt (Heap.lt_size hl)
  | fl ha hs hi hv =>
    refine wpAny_pyIter_list (PL.isList hi) (h _ _ ⟨_, rfl, ⟨_, Heap.get?_push_size _ rfl, rfl, rfl⟩, ?_⟩ (push_kp _ _) (size_none _))
    obtain ⟨n, hl⟩ := hi; exact Nat.ne_of_lt (Heap.lt_size hl)
  | ref hr =>
    obtain ⟨items, hi, _⟩ := X.mem' hr
    refine wpAny_pyIter_list (PL.isList hi) (h _ _ ⟨_, rfl, ⟨_, Heap.get?_push_size _ rfl, rfl, rfl⟩, ?_⟩ (push_kp _ _) (size_none _))
    obtain ⟨n, hl⟩ := hi; exact Nat.ne_of_lt (Heap.lt_size hl)
  | str z t =>
    cases ha : z.cps.all (· < 128)
    · exact wpAny_pyIter_wide ha (h _ _ ⟨t, .inr ⟨_, Heap.get?_push_size _ rfl, rfl, rfl⟩⟩ (push_kp _ _) (size_none _))
    · exact wpAny_pyIter_ascii ha (h _ _ ⟨t, .inl ⟨_, Heap.get?_push_size _ rfl, rfl, rfl⟩⟩ (push_kp _ _) (size_none _))
  | _ => simp [iterOf, AV.seq?, AV.items?] at e

theorem seq_kind (X : HSim S ρ H s.heap) (V : VRel S ρ s.heap v x) (e : v.seq? H = some its) : ∃ l items, x = .ref l ∧ VRels S ρ s.heap its items.toList ∧ ((v.ik = .tup [] ∧ PT s.heap l items) ∨ (v.ik = .fl [] ∧ s.heap.PlainList l items)) := by
  cases V with
  | tup ha hs hi hv => simp [AV.seq?, AV.items?] at e; subst e; exact ⟨_, _, rfl, hv, .inl ⟨rfl, hi⟩⟩
  | fl ha hs hi hv => simp [AV.seq?, AV.items?] at e; subst e; exact ⟨_, _, rfl, hv, .inr ⟨rfl, hi⟩⟩
  | ref hr =>
    simp [AV.seq?, AV.items?] at e
    obtain ⟨items, hi, hv⟩ := X.get e hr
    exact ⟨_, _, rfl, hv, .inr ⟨rfl, hi⟩⟩
  | _ => simp [AV.seq?, AV.items?] at e

theorem iter_item {I : Addr} {k : Nat} {u : AV} {QQ : Option Value → Shared → Prop} (hh : A.handled = none) (X : HSim S ρ H s.heap) (V : VRel S ρ s.heap v x) (e : iterOf H v = some its) (ei : its[k]? = some u) (t : ItAt s.heap I x its.length k v.ik)
    (h : ∀ y h' tk, VRel S ρ s.heap u y → ItAt h' I x its.length (k + 1) v.ik → (∀ b o, b ≠ I → s.heap.get? b = some o → h'.get? b = some o) → QQ (some y) { s with heap := h', toks := tk }) : wpAny (model prog w) A (pyNext (.ref I)) QQ E s := by
  have hk : k < its.length := (List.getElem?_eq_some_iff.mp ei).1
  have seqc : v.seq? H = some its → wpAny (model prog w) A (pyNext (.ref I)) QQ E s := fun es => by
    obtain ⟨l, items, rfl, vv, q⟩ := seq_kind X V es
    have hz := vv.length
    simp only [Array.length_toList] at hz
    rcases q with ⟨eκ, hp⟩ | ⟨eκ, hp⟩
    · rw [eκ] at t h
      obtain ⟨l', e', t, hne⟩ := t
      cases e'
      refine (Walks.tuple (prog := prog) (w := w) hh I l hne items).item k s _ E (by omega) ⟨t, hp.isTuple⟩ fun y h' tk hy st hkeep => ?_
      obtain ⟨u', eu, Vu⟩ := vv.getR (by simpa using hy)
      rw [ei] at eu; cases eu
      exact h y h' tk Vu ⟨l, rfl, st.1, hne⟩ fun b o hb eb => hkeep b o (by simpa using hb) eb
    · rw [eκ] at t h
      obtain ⟨l', e', t, hne⟩ := t
      cases e'
      refine (Walks.list (prog := prog) (w := w) hh I l hne items).item k s _ E (by omega) ⟨t, PL.isList hp⟩ fun y h' tk hy st hkeep => ?_
      obtain ⟨u', eu, Vu⟩ := vv.getR (by simpa using hy)
      rw [ei] at eu; cases eu
      exact h y h' tk Vu ⟨l, rfl, st.1, hne⟩ fun b o hb eb => hkeep b o (by simpa using hb) eb
  cases v with
  | rng i j st =>
    simp [iterOf] at e
    refine (Walks.range (prog := prog) (w := w) hh I i st its.length).item k s _ E hk t fun y h' tk hy st' hkeep => ?_
    obtain ⟨t', rfl⟩ := hy
    have hu : u = .int (i + (k : Int) * st) := by
      rw [← e] at ei
      simp [rngList] at ei
      obtain ⟨a, ha, ea⟩ := ei
      rw [List.getElem?_eq_some_iff] at ha
      obtain ⟨h1, h2⟩ := ha
      simp at h2
      rw [← ea, ← h2]
    subst hu
    exact h _ h' tk (.int _ _) st' fun b o hb eb => hkeep b o (by simpa using hb) eb
  | str z =>
    have hl : its = signs z := (Option.some.inj e).symm
    subst hl
    have hk' : k < z.cps.size := by unfold signs at hk; simpa using hk
    obtain ⟨tt, st⟩ := t
    have fin : ∀ y h' tk, SignAt z k y → (h'.IsStrIter I "str_ascii_iterator" z tt (k + 1) ∨ h'.IsStrIter I "str_iterator" z tt (k + 1)) → (∀ b o, b ∉ [I] → s.heap.get? b = some o → h'.get? b = some o) → QQ (some y) { s with heap := h', toks := tk } := by
      rintro y h' tk ⟨c, u', ec, rfl⟩ st' hkeep
      refine h _ h' tk ?_ ⟨tt, st'⟩ fun b o hb eb => hkeep b o (by simpa using hb) eb
      unfold signs at ei
      rw [List.getElem?_map, Array.getElem?_toList, ec] at ei
      cases ei
      exact .str _ _
    rcases st with st | st
    · exact (Walks.strAscii (prog := prog) (w := w) hh I z tt).item k s _ E hk' st fun y h' tk hy st' hkeep => fin y h' tk hy (.inl st') hkeep
    · exact (Walks.strWide (prog := prog) (w := w) hh I z tt).item k s _ E hk' st fun y h' tk hy st' hkeep => fin y h' tk hy (.inr st') hkeep
  | _ => exact seqc (by simpa [iterOf] using e)
theorem iter_done {I : Addr} {QQ : Option Value → Shared → Prop} (hh : A.handled = none) (X : HSim S ρ H s.heap) (V : VRel S ρ s.heap v x) (e : iterOf H v = some its) (t : ItAt s.heap I x its.length its.length v.ik)
    (h : ∀ h' tk, (∀ b o, b ≠ I → s.heap.get? b = some o → h'.get? b = some o) → QQ none { s with heap := h', toks := tk }) : wpAny (model prog w) A (pyNext (.ref I)) QQ E s := by
  have seqc : v.seq? H = some its → wpAny (model prog w) A (pyNext (.ref I)) QQ E s := fun es => by
    obtain ⟨l, items, rfl, vv, q⟩ := seq_kind X V es
    have hz := vv.length
    simp only [Array.length_toList] at hz
    rcases q with ⟨eκ, hp⟩ | ⟨eκ, hp⟩
    · rw [eκ] at t
      obtain ⟨l', e', t, hne⟩ := t
      cases e'
      exact (Walks.tuple (prog := prog) (w := w) hh I l hne items).done s _ E ⟨hz ▸ t, hp.isTuple⟩ fun h' tk hkeep => h h' tk fun b o hb eb => hkeep b o (by simpa using hb) eb
    · rw [eκ] at t
      obtain ⟨l', e', t, hne⟩ := t
      cases e'
      exact (Walks.list (prog := prog) (w := w) hh I l hne items).done s _ E ⟨hz ▸ t, PL.isList hp⟩ fun h' tk hkeep => h h' tk fun b o hb eb => hkeep b o (by simpa using hb) eb
  cases v with
  | rng i j st => exact (Walks.range (prog := prog) (w := w) hh I i st its.length).done s _ E t fun h' tk hkeep => h h' tk fun b o hb eb => hkeep b o (by simpa using hb) eb
  | str z =>
    have hl : its.length = z.cps.size := by rw [show its = signs z from (Option.some.inj e).symm]; unfold signs; simp
    rw [hl] at t
    obtain ⟨tt, st⟩ := t
    rcases st with st | st
    · exact (Walks.strAscii (prog := prog) (w := w) hh I z tt).done s _ E st fun h' tk hkeep => h h' tk fun b o hb eb => hkeep b o (by simpa using hb) eb
    · exact (Walks.strWide (prog := prog) (w := w) hh I z tt).done s _ E st fun h' tk hkeep => h h' tk fun b o hb eb => hkeep b o (by simpa using hb) eb
  | _ => exact seqc (by simpa [iterOf] using e)
end

open PySem PyProof.Rows PySem.SeqAt
section
variable {K : FC} {ρ : List Addr} {loc : Loc} {H : AH} {s : Shared} {h' : Heap} {tk : Nat} {E : Value → Shared → Prop}

/-- protected addresses that are not the frame's own are changed -/
theorem Fr.junk {x' : List Addr} (F : Fr K ρ loc H s) (hb : ∀ b ∈ x', b ∈ K.S.ad) (hk : ∀ c o, c ∉ x' → s.heap.get? c = some o → h'.get? c = some o) (hl : ∀ b ∈ x', ∃ o, h'.get? b = some o)
    (hf : ∀ b ∈ x', b ≠ K.env.locals ∧ (∀ n c, (n, c) ∈ K.env.cells → b ≠ c) ∧ K.s₀.heap.get? b = none) : Fr K ρ loc H { s with heap := h', toks := tk } := by
  have hc : ∀ c o, c ∉ K.S.ad → s.heap.get? c = some o → h'.get? c = some o := fun c o hc e => hk c o (fun q => hc (hb c q)) e
  exact { aok := F.aok, eok := F.eok, nd := F.nd, g0 := F.g0, pp := F.pp, pw := F.pw
          sd := fun a ha => by
            by_cases hx : a ∈ x'
            · exact hl a hx
            · obtain ⟨o, ho⟩ := F.sd a ha; exact ⟨o, hk a o hx ho⟩
          sim := F.sim.chg hc
          fr := F.fr, sub := F.sub, hL := F.hL, hC := F.hC, len := F.len
          ic := by
            obtain ⟨m, cm, I, q⟩ := F.ic
            refine ⟨m, cm, ⟨⟨let ⟨_, _, e⟩ := I.toInCall.same; ⟨h', tk, by rw [e]⟩, I.toInCall.ns.at' fun o e => hk _ o (fun q => (hf _ q).1 rfl) e, fun b o e => hk b o (fun q => by rw [(hf b q).2.2] at e; cases e) (I.toInCall.keep b o e), I.toInCall.fresh⟩, fun n c hc => ?_, I.apart, I.above⟩, fun i x v e1 e2 => let ⟨rv, h1, h2⟩ := q i x v e1 e2; ⟨rv, h1, h2.chg hc⟩⟩
            obtain ⟨o, ho, hd⟩ := I.cell n c hc
            exact ⟨o, hk c o (fun q => (hf c q).2.1 n c (mem_of_lookup hc) rfl) ho, hd⟩
          hh := fun i rv v e1 e2 => (F.hh i rv v e1 e2).chg hc }
/-- the iterables are kept beside the names -/
theorem Fr.hide {vs : List AV} {xs : List Value} (F : Fr K ρ loc H s) (V : VRels K.S ρ s.heap vs xs) : Fr { K with hid := K.hid ++ xs } ρ (loc ++ vs.map some) H s where
  aok := F.aok
  eok := F.eok
  nd := F.nd
  g0 := F.g0
  pp := F.pp
  pw := F.pw
  sd := F.sd
  sim := F.sim
  fr := F.fr
  sub := F.sub
  hL := F.hL
  hC := F.hC
  len := by have := F.len; have := V.length; simp only [List.length_append, List.length_map]; omega
  ic := let ⟨m, cm, I, q⟩ := F.ic; ⟨m, cm, I, fun i x v e1 e2 => q i x v e1 (by
    have hi : i < K.names.length := (List.getElem?_eq_some_iff.mp e1).1
    have := F.len
    rw [List.getElem?_append_left (by omega)] at e2
    exact e2)⟩
  hh := fun i rv v e1 e2 => by
    have hl := F.len
    by_cases hi : i < K.hid.length
    · refine F.hh i rv v (by rw [← e1]; exact (List.getElem?_append_left hi).symm) ?_
      rw [List.getElem?_append_left (by show K.names.length + i < _; omega)] at e2
      exact e2
    · rw [List.getElem?_append_right (Nat.le_of_not_lt hi)] at e1
      rw [List.getElem?_append_right (by show _ ≤ K.names.length + i; omega)] at e2
      have e3 : K.names.length + i - loc.length = i - K.hid.length := by omega
      have e2' : (vs.map some)[i - K.hid.length]?.join = some v := by rw [← e3]; exact e2
      obtain ⟨u, eu, V'⟩ := V.getR e1
      simp [eu] at e2'
      rw [← e2']; exact V'
theorem Fr.unhide {xs : List Value} {loc' : Loc} (F : Fr { K with hid := K.hid ++ xs } ρ loc H s) (hl : loc'.length + xs.length = loc.length) (hg : ∀ i, i < loc'.length → loc'[i]? = loc[i]?) : Fr K ρ loc' H s where
  aok := F.aok
  eok := F.eok
  nd := F.nd
  g0 := F.g0
  pp := F.pp
  pw := F.pw
  sd := F.sd
  sim := F.sim
  fr := F.fr
  sub := F.sub
  hL := F.hL
  hC := F.hC
  len := by have := F.len; simp only [List.length_append] at this; omega
  ic := let ⟨m, cm, I, q⟩ := F.ic; ⟨m, cm, I, fun i x v e1 e2 => q i x v e1 (by
    have hi : i < loc'.length := by
      cases hh : loc'[i]? with
      | none => rw [hh] at e2; cases e2
      | some o => exact (List.getElem?_eq_some_iff.mp hh).1
    rw [← hg i hi]; exact e2)⟩
  hh := fun i rv v e1 e2 => by
    have hi : K.names.length + i < loc'.length := by
      cases hh : loc'[K.names.length + i]? with
      | none => rw [hh] at e2; cases e2
      | some o => exact (List.getElem?_eq_some_iff.mp hh).1
    have hi2 : i < K.hid.length := (List.getElem?_eq_some_iff.mp e1).1
    exact F.hh i rv v (by show (K.hid ++ xs)[i]? = _; rw [List.getElem?_append_left hi2]; exact e1) (by show loc[K.names.length + i]?.join = _; rw [← hg _ hi]; exact e2)
theorem Fr.hidden {xs : List Value} {vs : List AV} {loc' : Loc} (F : Fr { K with hid := K.hid ++ xs } ρ (loc' ++ vs.map some) H s) (hl : loc'.length = K.names.length + K.hid.length) (hl2 : vs.length = xs.length) : VRels K.S ρ s.heap vs xs := by
  refine vrels_of_get hl2 fun j y e => ?_
  have hj : j < vs.length := by rw [hl2]; exact (List.getElem?_eq_some_iff.mp e).1
  refine ⟨vs[j], by simp [hj], F.hh (K.hid.length + j) y vs[j] ?_ ?_⟩
  · show (K.hid ++ xs)[K.hid.length + j]? = _
    rw [List.getElem?_append_right (by omega)]; simpa using e
  · show (loc' ++ vs.map some)[K.names.length + (K.hid.length + j)]?.join = _
    rw [List.getElem?_append_right (by omega)]
    have : K.names.length + (K.hid.length + j) - loc'.length = j := by omega
    rw [this]
    simp [hj]
end
section
variable {P : PC} {l : Lv} {env : Env} {names : List Str} {nt : NT} {n : Nat}

theorem set_app {α : Type} {a b : List α} {i : Nat} {x : α} (h : i < a.length) : (a ++ b).set i x = a.set i x ++ b := by rw [List.set_append_left _ _ h]

theorem next_turn {k m N : Nat} (hkm : k + m = N) (hkn : k < N) : ∃ m', m = m' + 1 :=
  Nat.exists_eq_add_one_of_ne_zero fun q => Nat.lt_irrefl k (by rw [q] at hkm; exact Nat.lt_of_lt_of_le hkn (Nat.le_of_eq hkm.symm))

theorem last_turn {k m N : Nat} (hkm : k + m = N) (hkn : ¬ k < N) : k = N :=
  Nat.le_antisymm (Nat.le_trans (Nat.le_add_right k m) (Nat.le_of_eq hkm)) (Nat.le_of_not_lt hkn)

theorem take_last {α : Type} {l : List α} {c : Nat} (h : c ≤ l.length) : (l.take (l.length - c)).length + c = l.length := by
  rw [List.length_take, Nat.min_eq_left (Nat.sub_le _ _), Nat.sub_add_cancel h]

theorem take_get {α : Type} {l : List α} {k i : Nat} (hi : i < (l.take k).length) : (l.take k)[i]? = l[i]? :=
  List.getElem?_take_of_lt (Nat.lt_of_lt_of_le hi (by rw [List.length_take]; exact Nat.min_le_left _ _))

/-- for x in it, from the iterable on; err is what an exception of the block meets -/
theorem for1_core {x : Str} {i : Nat} {px : Pos} {body : List PySem.Stmt} (hx : slotOf env.kindOf names x = some i) {A : Around} {S₀ : Sx} {s₀ : Shared} {hid : List Value} {S : Sx} {ρ ρ1 : List Addr} {loc : Loc} {H1 : AH} {s s1 : Shared} {Qn : Loc → AH → Prop} {Qr : AV → AH → Prop} {E : Value → Shared → Prop}
    (hh : A.handled = none) (F1 : Fr ⟨P, l, A, env, names, S₀, s₀, hid, S⟩ ρ1 loc H1 s1) (m01 : Mvd env ρ s ρ1 s1) {v1 : AV} {y : Value} (V1 : VRel S ρ1 s1.heap v1 y) {N : Nat} {κ : AV} {Inv : Nat → AV → Loc → AH → Prop}
    (h0 : ∃ v' loc' H', RenL (loc ++ [some v1]) H1 (loc' ++ [some v']) H' ∧ loc'.length = loc.length ∧ Inv 0 v' loc' H') (hI : ∀ k v loc H, k ≤ N → Inv k v loc H → v.ik = κ ∧ ∃ its, iterOf H v = some its ∧ its.length = N)
    (hB : ∀ k v loc' H its u (I : Addr) ρk s4, k < N → loc'.length = loc.length → Inv k v loc' H → iterOf H v = some its → its[k]? = some u → Fr ⟨P, l, A, env, names, S₀, s₀, hid ++ [y], ⟨S.ad ++ [I], S.prog, S.w⟩⟩ ρk (loc'.set i (some u) ++ [some v]) H s4 →
      wpAny (model P.prog P.w) A (execs body env) (SP ⟨P, l, A, env, names, S₀, s₀, hid ++ [y], ⟨S.ad ++ [I], S.prog, S.w⟩⟩ ρk s4 (fun loc₂ H₂ => ∃ v₃ loc₃ H₃, RenL loc₂ H₂ (loc₃ ++ [some v₃]) H₃ ∧ loc₃.length = loc.length ∧ Inv (k + 1) v₃ loc₃ H₃) Qr) (notedBy (model P.prog P.w) A env (cameBackBy (model P.prog P.w) A env E)) s4)
    (hE : ∀ v loc H, Inv N v loc H → Qn loc H) :
    wpAny (model P.prog P.w) A (pyIter y) (fun it s₂ => codeAny (model P.prog P.w) A (.forLoop (.Name x px) it body [] env) (fun r s' => match r with | .ok f => SP ⟨P, l, A, env, names, S₀, s₀, hid, S⟩ ρ s Qn Qr f s' | .error e => cameBackBy (model P.prog P.w) A env E e s') s₂) E s1 := by
  obtain ⟨v0, loc0, H0, R0, hl0, I0⟩ := h0
  have F1' := F1.hide (vs := [v1]) (xs := [y]) (.cons V1 .nil)
  obtain ⟨ρ2, hs2, F2⟩ := F1'.ren R0
  have hlen : loc.length = names.length + hid.length := F1.len
  have il : i < names.length := by
    unfold slotOf at hx
    split at hx
    · exact (List.getElem?_eq_some_iff.mp (idxOf_get hx)).1
    · cases hx
  have gv : ∀ {ρ' : List Addr} {v' : AV} {loc' : Loc} {H' : AH} {s' : Shared} {S' : Sx}, Fr ⟨P, l, A, env, names, S₀, s₀, hid ++ [y], S'⟩ ρ' (loc' ++ [some v']) H' s' → loc'.length = loc.length → VRel S' ρ' s'.heap v' y := by
    intro ρ' v' loc' H' s' S' F hl
    have := Fr.hidden (K := ⟨P, l, A, env, names, S₀, s₀, hid, S'⟩) (vs := [v']) (xs := [y]) F (by rw [hl]; exact hlen) rfl
    cases this with
    | cons V _ => exact V
  obtain ⟨eκ, its, ei, el⟩ := hI 0 v0 loc0 H0 (Nat.zero_le _) I0
  refine iter_start (s := s1) F2.sim (gv F2 hl0) ei fun I h₂ t0 k₂ hIn => ?_
  rw [el, eκ] at t0
  have F3 := F2.guard (x' := [I]) (tk := s1.toks) (fun b hb => by simp at hb; subst hb; exact hIn) k₂ (fun b hb => by simp at hb; subst hb; exact t0.alive)
  have hIL : I ≠ env.locals := fun q => by obtain ⟨o, ho⟩ := F2.sd _ F2.hL; rw [← q, hIn] at ho; cases ho
  have hIC : ∀ n c, (n, c) ∈ env.cells → I ≠ c := fun n c hm q => by obtain ⟨o, ho⟩ := F2.sd _ (F2.hC n c hm); rw [← q, hIn] at ho; cases ho
  have hIS : I ∉ S.ad := fun q => by obtain ⟨o, ho⟩ := F2.sd _ q; rw [hIn] at ho; cases ho
  have hI0 : s₀.heap.get? I = none := by
    cases q0 : s₀.heap.get? I with
    | none => rfl
    | some o => have := F2.keep _ _ q0; rw [hIn] at this; cases this
  have m1 : Mvd env ρ s ρ2 s1 := m01.trans (Mvd.sub' hs2)
  have m2 : Mvd env ρ2 s1 ρ2 { s1 with heap := h₂, toks := s1.toks } := Mvd.kp0 k₂
  -- the end of the loop, seen from the frame
  have back : ∀ {ρ' : List Addr} {loc' loc'' : Loc} {H' : AH} {s' : Shared} {h' : Heap} {tk' : Nat}, Fr ⟨P, l, A, env, names, S₀, s₀, hid ++ [y], ⟨S.ad ++ [I], S.prog, S.w⟩⟩ ρ' loc' H' s' → loc''.length + 1 = loc'.length → (∀ i, i < loc''.length → loc''[i]? = loc'[i]?) → (∀ b o, b ≠ I → s'.heap.get? b = some o → h'.get? b = some o) →
      Fr ⟨P, l, A, env, names, S₀, s₀, hid, S⟩ ρ' loc'' H' { s' with heap := h', toks := tk' } := by
    intro ρ' loc' loc'' H' s' h' tk' F hl hg hk
    exact Fr.unhide (K := ⟨P, l, A, env, names, S₀, s₀, hid, S⟩) (xs := [y]) (F.unguard (x' := [I]) (S := S) rfl (fun c o hc e => hk c o (by simpa using hc) e) (fun b hb => by simp at hb; subst hb; exact ⟨hIS, hI0⟩) F1.sub F1.hL F1.hC) hl hg
  let J : Nat → Shared → Prop := fun m s' => ∃ (k : Nat) (ρk : List Addr) (v : AV) (lock : Loc) (Hk : AH), k + m = N ∧ Mvd env ρ2 s1 ρk s' ∧ Fr ⟨P, l, A, env, names, S₀, s₀, hid ++ [y], ⟨S.ad ++ [I], S.prog, S.w⟩⟩ ρk (lock ++ [some v]) Hk s' ∧ lock.length = loc.length ∧ Inv k v lock Hk ∧ ItAt s'.heap I y N k κ
  refine codeAny_forLoop J (fun m s' hJ => ?_) N ⟨0, ρ2, v0, loc0, H0, Nat.zero_add N, m2, F3, hl0, I0, t0⟩
  obtain ⟨k, ρk, v, lock, Hk, hkm, mk, Fk, hlk, Ik, tk⟩ := hJ
  obtain ⟨eκ', its', ei', el'⟩ := hI k v lock Hk (Nat.le_trans (Nat.le_add_right k m) (Nat.le_of_eq hkm)) Ik
  have Vk := gv Fk hlk
  have hIr : I ∉ ρk := fun q => Fk.sim.off I q (List.mem_append_right _ (List.mem_singleton.mpr rfl))
  obtain ⟨hs', tks', es'⟩ := mk.same
  by_cases hkn : k < N
  · obtain ⟨u, eu⟩ : ∃ u, its'[k]? = some u := ⟨its'[k]'(Nat.lt_of_lt_of_le hkn (Nat.le_of_eq el'.symm)), List.getElem?_eq_getElem _⟩
    refine iter_item hh Fk.sim Vk ei' eu (by rw [el', eκ']; exact tk) fun z h3 tk3 Vu t3 hk3 => ?_
    rw [el', eκ'] at t3
    have Fk3 := Fk.junk (x' := [I]) (h' := h3) (tk := tk3) (fun b hb => List.mem_append_right _ hb) (fun c o hc e => hk3 c o (by simpa using hc) e) (fun b hb => by simp at hb; subst hb; exact t3.alive) (fun b hb => by simp at hb; subst hb; exact ⟨hIL, hIC, hI0⟩)
    have mk3 : Mvd env ρ2 s1 ρk { s' with heap := h3, toks := tk3 } := mk.junk (x' := [I]) (fun c o hc e => hk3 c o (by simpa using hc) e) fun b hb => by simp at hb; subst hb; exact hIn
    have Vu3 : VRel ⟨S.ad ++ [I], S.prog, S.w⟩ ρk h3 u z := Vu.mono2 fun b o _ hb e => hk3 b o (fun q => hb (List.mem_append_right _ (by simp [q]))) e
    refine wpAny_assign_Name (wpAny_mono (store_ok Fk3 hx Vu3) (fun _ s4 h4 => ?_) fun _ _ y => y)
    obtain ⟨m4, F4⟩ := h4
    rw [set_app (Nat.lt_of_lt_of_le il (Nat.le_trans (Nat.le_add_right _ _) (Nat.le_of_eq (hlk.trans hlen).symm)))] at F4
    refine wpAny_mono (hB k v lock Hk its' u I ρk s4 hkn hlk Ik ei' eu F4) (fun f s5 hf => ?_) fun _ _ y => y
    cases f with
    | next =>
      obtain ⟨ρ5, loc5, H5, m5, F5, v6, loc6, H6, R6, hl6, I6⟩ := hf
      obtain ⟨ρ6, hs6, F6⟩ := F5.ren R6
      obtain ⟨m', rfl⟩ := next_turn hkm hkn
      refine ⟨m', Nat.lt_succ_self _, k + 1, ρ6, v6, loc6, H6, (Nat.succ_add_eq_add_succ k m').trans hkm, ((mk3.trans m4).trans m5).trans (Mvd.sub' hs6), F6, hl6, I6, ?_⟩
      exact t3.at fun o e => m5.mv I o hIL hIC hIr (m4.mv I o hIL hIC hIr e)
    | ret rv =>
      obtain ⟨ρ5, loc5, H5, v5, m5, F5, V5, q5⟩ := hf
      have hl5 : loc5.length = names.length + (hid ++ [y]).length := F5.len
      rw [List.length_append, ← Nat.add_assoc] at hl5
      have F7 := back (loc'' := loc5.take (loc5.length - 1)) (h' := s5.heap) (tk' := s5.toks) F5 (take_last (hl5 ▸ Nat.le_add_left _ _)) (fun i hi => take_get hi) (fun b o _ e => e)
      refine ⟨ρ5, _, H5, v5, m1.trans ((mk3.trans m4).trans m5), F7, ?_, q5⟩
      exact VRel.sub (S := S) (S' := ⟨S.ad ++ [I], S.prog, S.w⟩) rfl rfl (fun b hb => List.mem_append_left _ hb) V5
    | _ => exact hf.elim
  · have hkN : k = N := last_turn hkm hkn
    subst hkN
    refine iter_done hh Fk.sim Vk ei' (by rw [el', eκ']; exact tk) fun h3 tk3 hk3 => ?_
    refine wpAny_execs_nil ?_
    have F7 := back (loc'' := lock) (h' := h3) (tk' := tk3) Fk (by rw [List.length_append]; rfl) (fun i hi => (List.getElem?_append_left hi).symm) hk3
    exact ⟨ρk, lock, Hk, m1.trans (mk.junk (x' := [I]) (fun c o hc e => hk3 c o (by simpa using hc) e) fun b hb => by simp at hb; subst hb; exact hIn), F7, hE v lock Hk Ik⟩

/-- for x in it -/
theorem for1_ok {x : Str} {i : Nat} {px p : Pos} {it : PySem.Expr} {body : List PySem.Stmt} {c : CE} {b : List CS} (hx : slotOf env.kindOf names x = some i) (hit : compE nt n env.kindOf names it = some c) (ie : EvOk P l env names it c) (ib : StOk P l env names (execs body env) (wpSs P l b)) :
    StOk P l env names (exec (.For (.Name x px) it body [] p) env) (wpS P l (.for1 i c b)) := by
  intro A S₀ s₀ hid S ρ loc H s Qn Qr Qx E Fm hX h
  simp only [q_assign, q_assignT, q_setIdx, q_mut, q_popTo, q_expr, q_ite, q_for1, q_forT, q_while, q_ret, q_pass] at h
  obtain ⟨hq, h⟩ := h
  refine wpAny_For (EP.then (ie A S ρ loc H s _ _ E Fm.cx (hX.ex Fm) h) fun y h1 tk1 n1 v1 G1 k1 f1 X1 V1 qq => ?_) (fun y => folded_id hit y)
  obtain ⟨N, κ, Inv, h0, hI, hN, hB, hE⟩ := qq
  exact for1_core hx (Fm.aok.1 hq) (Fm.kp (tk := tk1) k1 f1 X1) (Mvd.kp k1 f1) V1 h0 hI (fun k v lock Hk its u I ρk s4 a1 a2 a3 a4 a5 F4 => ib A S₀ s₀ _ _ ρk _ Hk s4 _ Qr _ _ F4 xOk_any (hB k v lock Hk its u a1 a2 a3 a4 a5)) hE

end

open PySem PyProof.Rows PySem.SeqAt

/-- an iterator of enumerate or zip at its place -/
noncomputable def TAt (h : Heap) (J : Addr) (aux : List Addr) (xs : List Value) (k : Nat) : It → Prop
  | .enumerate => False
  | .zip => ∃ TI TO i1 i2 l1 l2, aux = [J, TI, TO, i1, i2] ∧ xs = [.ref l1, .ref l2] ∧ IsZip h J TI TO .none ∧ IsPair h TI (.ref i1) (.ref i2) ∧ (∃ a b, IsPair h TO a b) ∧ h.IsListIter i1 l1 k ∧ h.IsListIter i2 l2 k ∧ ZipApart J TI TO i1 i2 l1 l2
  | .rows => False
theorem TAt.at {h h' : Heap} {J : Addr} {aux : List Addr} {xs : List Value} {k : Nat} {kd : It} (t : TAt h J aux xs k kd) (hk : ∀ b ∈ aux, ∀ o, h.get? b = some o → h'.get? b = some o) : TAt h' J aux xs k kd := by
  cases kd with
  | enumerate => exact False.elim t
  | zip =>
    obtain ⟨TI, TO, i1, i2, l1, l2, rfl, rfl, hz, h1, ⟨a, b, h2⟩, h3, h4, r⟩ := t
    exact ⟨TI, TO, i1, i2, l1, l2, rfl, rfl, hk J (by simp) _ hz, hk TI (by simp) _ h1, ⟨a, b, hk TO (by simp) _ h2⟩, h3.at fun o e => hk i1 (by simp) o e, h4.at fun o e => hk i2 (by simp) o e, r⟩
  | rows => exact t.elim
theorem TAt.alive {h : Heap} {J : Addr} {aux : List Addr} {xs : List Value} {k : Nat} {kd : It} (t : TAt h J aux xs k kd) : ∀ b ∈ aux, ∃ o, h.get? b = some o := by
  intro b hb
  cases kd with
  | enumerate => exact False.elim t
  | zip =>
    obtain ⟨TI, TO, i1, i2, l1, l2, rfl, rfl, hz, h1, ⟨a, b, h2⟩, ⟨o3, h3, _⟩, ⟨o4, h4, _⟩, r⟩ := t
    simp at hb
    rcases hb with rfl | rfl | rfl | rfl | rfl
    · exact ⟨_, hz⟩
    · exact ⟨_, h1⟩
    · exact ⟨_, h2⟩
    · exact ⟨_, h3⟩
    · exact ⟨_, h4⟩
  | rows => exact t.elim
theorem ne_add0 {a n : Nat} (h : a < n) : a ≠ n := by omega
theorem ne_add {a n k : Nat} (h : a < n) : a ≠ n + k := by omega
noncomputable def It.val : It → Value
  | .enumerate => .type "enumerate"
  | _ => .type "zip"
section
variable {prog : Program} {w : World} {A : Around} {S : Sx} {ρ : List Addr} {H : AH} {s : Shared} {E : Value → Shared → Prop} {vs : List AV} {xs : List Value} {its : List (List AV)} {kd : It}

theorem turns_zip {H : AH} {vs : List AV} {its : List (List AV)} (e : turnsOf H .zip vs = some its) : ∃ u v xs ys, vs = [u, v] ∧ u.items? H = some xs ∧ v.items? H = some ys ∧ ((xs.zip ys).map fun p => [p.1, p.2]) = its := by
  rcases vs with _ | ⟨v, _ | ⟨u, _ | ⟨u2, r⟩⟩⟩
  · cases e
  · cases e
  · obtain ⟨xs, ex, e⟩ := Option.bind_eq_some_iff.mp (show (v.items? H).bind (fun xs => (u.items? H).bind fun ys => some ((xs.zip ys).map fun p => [p.1, p.2])) = some its from e)
    obtain ⟨ys, ey, e⟩ := Option.bind_eq_some_iff.mp e
    cases e
    exact ⟨v, u, xs, ys, rfl, ex, ey, rfl⟩
  · cases e
theorem tat_start {QQ : Value → Shared → Prop} (X : HSim S ρ H s.heap) (V : VRels S ρ s.heap vs xs) (e : turnsOf H kd vs = some its)
    (h : ∀ J aux h', TAt h' J aux xs 0 kd → Kp s.heap h' → (∀ b ∈ aux, s.heap.get? b = none) → wpAny (model prog w) A (pyIter (.ref J)) QQ E { s with heap := h' }) :
    wpAny (model prog w) A (call kd.val xs) (fun v s₁ => wpAny (model prog w) A (pyIter v) QQ E s₁) E s := by
  have nn : ∀ j, s.heap.objs.size ≤ j → s.heap.get? j = none := fun j hj => Heap.get?_none_of_le hj
  cases kd with
  | enumerate => cases e
  | zip =>
    obtain ⟨v1, v2, w1, w2, ev, e1, e2, eu⟩ := turns_zip e
    subst ev
    obtain ⟨y1, y2, ey, V1, V2⟩ := V.of2
    cases ey
    · · skip
        obtain ⟨l1, items1, rfl, hp1, vv1⟩ := items_real X V1 e1
        obtain ⟨l2, items2, rfl, hp2, vv2⟩ := items_real X V2 e2
        have hlt1 : l1 < s.heap.objs.size := by obtain ⟨m, hl⟩ := hp1; exact Heap.lt_size hl
        have hlt2 : l2 < s.heap.objs.size := by obtain ⟨m, hl⟩ := hp2; exact Heap.lt_size hl
        refine call_zip_2 (PL.isList hp1) (PL.isList hp2) fun h' hz h1 h2 h3 h4 hsz hk => h _ [s.heap.objs.size + 4, s.heap.objs.size + 2, s.heap.objs.size + 3, s.heap.objs.size, s.heap.objs.size + 1] h' ⟨_, _, _, _, l1, l2, rfl, rfl, hz, h1, ⟨_, _, h2⟩, h3, h4, ?_⟩ hk fun b hb => ?_
        · constructor <;> first | exact ne_add0 hlt1 | exact ne_add hlt1 | exact ne_add0 hlt2 | exact ne_add hlt2 | ((show (_ : Nat) ≠ _); omega)
        · simp at hb
          rcases hb with rfl | rfl | rfl | rfl | rfl <;> exact nn _ (by omega)
  | rows => simp [turnsOf] at e

theorem tat_self {J : Addr} {aux : List Addr} {k : Nat} {QQ : Value → Shared → Prop} (hh : A.handled = none) (X : HSim S ρ H s.heap) (V : VRels S ρ s.heap vs xs) (e : turnsOf H kd vs = some its) (t : TAt s.heap J aux xs k kd) (h : QQ (.ref J) s) : wpAny (model prog w) A (pyIter (.ref J)) QQ E s := by
  cases kd with
  | enumerate => exact False.elim t
  | zip =>
    obtain ⟨TI, TO, i1, i2, l1, l2, rfl, rfl, hz, h1, h2, h3, h4, D⟩ := t
    exact wpAny_pyIter_zip hz h
  | rows => exact t.elim

theorem tat_item {J : Addr} {aux : List Addr} {k kk : Nat} {us : List AV} {elts : List PySem.Expr} {pos : Pos} {QQ : Value → Shared → Prop} (hh : A.handled = none) (X : HSim S ρ H s.heap) (V : VRels S ρ s.heap vs xs) (e : turnsOf H kd vs = some its) (ei : its[k]? = some us) (t : TAt s.heap J aux xs k kd)
    (h : ∀ T ys h' tk, h'.IsTuple T ys → VRels S ρ s.heap us ys.toList → TAt h' J aux xs (k + 1) kd → (∀ b o, b ∉ aux → s.heap.get? b = some o → h'.get? b = some o) → QQ (.ref T) { s with heap := h', toks := tk }) :
    wpAny (model prog w) A (pyNext (.ref J)) (fun r s₁ => ∃ v, r = some v ∧ wpAny (model prog w) A (letOwnedTupleGo (.Tuple elts kk pos) (.ref J) v) (fun _ s₂ => QQ v s₂) E s₁) E s := by
  cases kd with
  | enumerate => exact False.elim t
  | zip =>
    obtain ⟨TI, TO, i1, i2, l1, l2, rfl, rfl, hz, h1, h2, h3, h4, D⟩ := t
    obtain ⟨v1, v2, w1, w2, ev, e1, e2, eu⟩ := turns_zip e
    subst ev eu
    obtain ⟨y1, y2, ey, V1, V2⟩ := V.of2
    cases ey
    · · skip
        obtain ⟨l1', items1, el1, hp1, vv1⟩ := items_real X V1 e1
        obtain ⟨l2', items2, el2, hp2, vv2⟩ := items_real X V2 e2
        cases el1
        cases el2
        have hz1 := vv1.length
        have hz2 := vv2.length
        simp only [Array.length_toList] at hz1 hz2
        simp only [List.getElem?_map, Option.map_eq_some_iff] at ei
        obtain ⟨⟨a, b⟩, eab, rfl⟩ := ei
        rw [List.getElem?_zip_eq_some] at eab
        have hk1 : k < items1.size := by rw [← hz1]; exact (List.getElem?_eq_some_iff.mp eab.1).1
        have hk2 : k < items2.size := by rw [← hz2]; exact (List.getElem?_eq_some_iff.mp eab.2).1
        have W := WalksT.zip2 (prog := prog) (w := w) hh J TI TO i1 i2 l1 l2 D items1 items2
        have hsub : ∀ b o (h h' : Heap), b ∉ [J, TI, TO, i1, i2] → (∀ b o, b ∉ [J, TO, i1, i2] → h.get? b = some o → h'.get? b = some o) → h.get? b = some o → h'.get? b = some o := fun b o h h' hb hk e => hk b o (fun q => hb (by simp at q ⊢; rcases q with q | q | q | q <;> simp [q])) e
        refine W.item k s _ E (by omega) ⟨hz, h1, h2, h3, h4, PL.isList hp1, PL.isList hp2⟩ fun T vals h' tk hv _ hT hM hk' => ⟨.ref T, rfl, W.go elts kk pos k T _ _ E hM fun h2 st2 hk2' => ?_⟩
        obtain ⟨x, y, ex, ey, rfl⟩ := hv
        obtain ⟨o, ho, r⟩ := hT
        obtain ⟨u1, eu1, Vu1⟩ := vv1.getR (by simpa using ex)
        obtain ⟨u2, eu2, Vu2⟩ := vv2.getR (by simpa using ey)
        rw [eab.1] at eu1; cases eu1
        rw [eab.2] at eu2; cases eu2
        obtain ⟨g1, g2, g3, g4, g5, _⟩ := st2
        exact h T _ h2 tk ⟨o, hk2' T o (W.apart _ _ _ hM) ho, r⟩ (.cons Vu1 (.cons Vu2 .nil)) ⟨TI, TO, i1, i2, l1, l2, rfl, rfl, g1, g2, g3, g4, g5, D⟩ (fun b o hb e => hsub b o _ _ hb hk2' (hsub b o _ _ hb hk' e))
  | rows => exact t.elim

theorem tat_done {J : Addr} {aux : List Addr} {QQ : Option Value → Shared → Prop} (hh : A.handled = none) (X : HSim S ρ H s.heap) (V : VRels S ρ s.heap vs xs) (e : turnsOf H kd vs = some its) (t : TAt s.heap J aux xs its.length kd)
    (h : ∀ h' tk, (∀ b o, b ∉ aux → s.heap.get? b = some o → h'.get? b = some o) → QQ none { s with heap := h', toks := tk }) : wpAny (model prog w) A (pyNext (.ref J)) QQ E s := by
  cases kd with
  | enumerate => exact False.elim t
  | zip =>
    obtain ⟨TI, TO, i1, i2, l1, l2, rfl, rfl, hz, h1, h2, h3, h4, D⟩ := t
    obtain ⟨v1, v2, w1, w2, ev, e1, e2, eu⟩ := turns_zip e
    subst ev eu
    obtain ⟨y1, y2, ey, V1, V2⟩ := V.of2
    cases ey
    · · skip
        obtain ⟨l1', items1, el1, hp1, vv1⟩ := items_real X V1 e1
        obtain ⟨l2', items2, el2, hp2, vv2⟩ := items_real X V2 e2
        cases el1
        cases el2
        have hz1 := vv1.length
        have hz2 := vv2.length
        simp only [Array.length_toList] at hz1 hz2
        simp only [List.length_map, List.length_zip, hz1, hz2] at h3 h4
        refine (WalksT.zip2 (prog := prog) (w := w) hh J TI TO i1 i2 l1 l2 D items1 items2).done s _ E ⟨hz, h1, h2, h3, h4, PL.isList hp1, PL.isList hp2⟩ fun h' tk hk => h h' tk fun b o hb e => hk b o (fun q => hb (by simp at q ⊢; rcases q with q | q | q | q <;> simp [q])) e
  | rows => exact t.elim
end

open PySem PyProof.Rows PySem.SeqAt
section
variable {P : PC} {l : Lv} {env : Env} {names : List Str} {nt : NT} {n : Nat}

theorem two_lt {i j q n : Nat} (h1 : i < n) (h2 : j < n) (hq : q ∈ [i, j]) : q < n := by
  rcases List.mem_cons.mp hq with rfl | hq
  · exact h1
  · rw [List.mem_singleton.mp hq]; exact h2
theorem slot_lt {kd : Str → Option NameKind} {x : Str} {i : Nat} (hx : slotOf kd names x = some i) : i < names.length := by
  unfold slotOf at hx
  split at hx
  · exact (List.getElem?_eq_some_iff.mp (idxOf_get hx)).1
  · cases hx
theorem setAll_app {a b : Loc} : ∀ {xs : List Nat} {vs : List AV} {a : Loc}, (∀ i ∈ xs, i < a.length) → setAll (a ++ b) xs vs = setAll a xs vs ++ b
  | [], _, _, _ => rfl
  | x :: xs, [], _, _ => rfl
  | x :: xs, v :: vs, a, h => by
    simp only [setAll_cons]
    rw [set_app (h x (.head _))]
    exact setAll_app (a := a) fun i hi => by simpa using h i (.tail _ hi)
theorem turns_len {H : AH} {kd : It} {vs : List AV} {its : List (List AV)} (h : turnsOf H kd vs = some its) : (kd = .enumerate ∧ vs.length = 1) ∨ (kd = .zip ∧ vs.length = 2) := by
  cases kd with
  | enumerate => cases h
  | zip => obtain ⟨_, _, _, _, rfl, _⟩ := turns_zip h; exact .inr ⟨rfl, rfl⟩
  | rows => cases h
theorem turns_two {H : AH} {kd : It} {vs us : List AV} {its : List (List AV)} {k : Nat} (h : turnsOf H kd vs = some its) (e : its[k]? = some us) : us.length = 2 := by
  cases kd with
  | enumerate => cases h
  | zip =>
    obtain ⟨_, _, _, _, _, _, _, rfl⟩ := turns_zip h
    simp only [List.getElem?_map, Option.map_eq_some_iff] at e
    obtain ⟨_, _, rfl⟩ := e; rfl
  | rows => cases h

/-- for x, y in enumerate(..), zip(..) -/
theorem forT_ok (ho : EnvOk env) {kd : It} {f : Str} {x y : Str} {i j kk : Nat} {px py pt pf pc p : Pos} {args : List PySem.Expr} {body : List PySem.Stmt} {cs : List CE} {b : List CS} (hx : slotOf env.kindOf names x = some i) (hy : slotOf env.kindOf names y = some j)
    (hg : isGlob env.kindOf f = true) (hf : biOf f = some kd.val) (ih : ∀ (e : PySem.Expr) (c : CE), compE nt n env.kindOf names e = some c → EvOk P l env names e c) (ha : allSome (args.map (compE nt n env.kindOf names)) = some cs)
    (hcs : (kd = .enumerate ∧ cs.length = 1) ∨ (kd = .zip ∧ cs.length = 2)) (ib : StOk P l env names (execs body env) (wpSs P l b)) :
    StOk P l env names (exec (.For (.Tuple [.Name x px, .Name y py] kk pt) (.Call (.Name f pf) args [] pc) body [] p) env) (wpS P l (.forT [i, j] kd cs b)) := by
  intro A S₀ s₀ hid S ρ loc H s Qn Qr Qx E Fm hX h
  simp only [q_assign, q_assignT, q_setIdx, q_mut, q_popTo, q_expr, q_ite, q_for1, q_forT, q_while, q_ret, q_pass] at h
  obtain ⟨hq, h⟩ := h
  have hh := Fm.aok.1 hq
  have hlen : loc.length = names.length + hid.length := Fm.len
  cases args with
  | nil => cases ha; rcases hcs with ⟨_, q⟩ | ⟨_, q⟩ <;> simp at q
  | cons e0 r0 =>
  obtain ⟨c0, t0, e1, e2, rfl⟩ := allSome_cons ha
  refine wpAny_For ?_ (fun y => rfl)
  refine Call_ (bi_ok ho Fm.cx.gok hg hf ?_)
  have fin : wpAny (model P.prog P.w) A (spliced (backTo pc (starEach (e0 :: r0) env))) (fun xs s₁ => wpAny (model P.prog P.w) A (call kd.val xs) (fun z s₁ => wpAny (model P.prog P.w) A (pyIter z) (fun it s₂ => codeAny (model P.prog P.w) A (.forLoop (.Tuple [.Name x px, .Name y py] kk pt) it body [] env)
      (fun r s' => match r with | .ok f => SP ⟨P, l, A, env, names, S₀, s₀, hid, S⟩ ρ s Qn Qr f s' | .error e => cameBackBy (model P.prog P.w) A env E e s') s₂) E s₁) E s₁) E s := by
    refine EPs.then (args_ok ih (e0 :: r0) (c0 :: t0) ha Fm.cx (hX.ex Fm) h) fun xs h1 tk1 n1 vs1 G1 k1 f1 X1 V1 qq => ?_
    obtain ⟨N, Inv, ⟨vs0, loc0, H0, R0, hl0, hv0, I0⟩, hI, hN, hB, hE⟩ := qq
    have F1 := Fm.kp (tk := tk1) k1 f1 X1
    have F1' := F1.hide V1
    obtain ⟨ρ2, hs2, F2⟩ := F1'.ren R0
    have hxl : xs.length = vs1.length := V1.length.symm
    obtain ⟨its, ei, el⟩ := hI 0 vs0 loc0 H0 (Nat.zero_le _) I0
    have hcl : (c0 :: t0).length = xs.length := by
      rcases turns_len ei with ⟨q1, q2⟩ | ⟨q1, q2⟩ <;> rcases hcs with ⟨q3, q4⟩ | ⟨q3, q4⟩
      · exact q4.trans (q2.symm.trans (hv0.trans hxl.symm))
      · rw [q1] at q3; cases q3
      · rw [q1] at q3; cases q3
      · exact q4.trans (q2.symm.trans (hv0.trans hxl.symm))
    have gv : ∀ {ρ' : List Addr} {vs' : List AV} {loc' : Loc} {H' : AH} {s' : Shared} {S' : Sx}, Fr ⟨P, l, A, env, names, S₀, s₀, hid ++ xs, S'⟩ ρ' (loc' ++ vs'.map some) H' s' → loc'.length = loc.length → vs'.length = xs.length → VRels S' ρ' s'.heap vs' xs := by
      intro ρ' v' loc' H' s' S' F hl hl2
      exact Fr.hidden (K := ⟨P, l, A, env, names, S₀, s₀, hid, S'⟩) F (by rw [hl]; exact hlen) hl2
    have V0 := gv F2 hl0 (hv0.trans hxl.symm)
    refine tat_start (s := { s with heap := h1, toks := tk1 }) F2.sim V0 ei fun J aux h₂ t0' k₂ hJn => ?_
    have F3 := F2.guard (x' := aux) (tk := tk1) hJn k₂ t0'.alive
    have hx1 : ∀ b ∈ aux, b ≠ env.locals := fun b hb q => by obtain ⟨o, ho⟩ := F2.sd _ F2.hL; rw [← q, hJn b hb] at ho; cases ho
    have hx2 : ∀ b ∈ aux, ∀ n c, (n, c) ∈ env.cells → b ≠ c := fun b hb n c hm q => by obtain ⟨o, ho⟩ := F2.sd _ (F2.hC n c hm); rw [← q, hJn b hb] at ho; cases ho
    have hx3 : ∀ b ∈ aux, b ∉ S.ad := fun b hb q => by obtain ⟨o, ho⟩ := F2.sd _ q; rw [hJn b hb] at ho; cases ho
    have hx4 : ∀ b ∈ aux, s₀.heap.get? b = none := fun b hb => by
      cases q0 : s₀.heap.get? b with
      | none => rfl
      | some o => have := F2.keep _ _ q0; rw [hJn b hb] at this; cases this
    have m1 : Mvd env ρ s ρ2 { s with heap := h1, toks := tk1 } := (Mvd.kp k1 f1).trans (Mvd.sub' hs2)
    have m2 : Mvd env ρ2 { s with heap := h1, toks := tk1 } ρ2 { s with heap := h₂, toks := tk1 } := Mvd.kp0 k₂
    have back : ∀ {ρ' : List Addr} {loc' loc'' : Loc} {H' : AH} {s' : Shared} {h' : Heap} {tk' : Nat}, Fr ⟨P, l, A, env, names, S₀, s₀, hid ++ xs, ⟨S.ad ++ aux, S.prog, S.w⟩⟩ ρ' loc' H' s' → loc''.length + xs.length = loc'.length → (∀ i, i < loc''.length → loc''[i]? = loc'[i]?) → (∀ b o, b ∉ aux → s'.heap.get? b = some o → h'.get? b = some o) →
        Fr ⟨P, l, A, env, names, S₀, s₀, hid, S⟩ ρ' loc'' H' { s' with heap := h', toks := tk' } := by
      intro ρ' loc' loc'' H' s' h' tk' F hl hg hk
      exact Fr.unhide (K := ⟨P, l, A, env, names, S₀, s₀, hid, S⟩) (xs := xs) (F.unguard (x' := aux) (S := S) rfl hk (fun b hb => ⟨hx3 b hb, hx4 b hb⟩) Fm.sub Fm.hL Fm.hC) hl hg
    let JJ : Nat → Shared → Prop := fun m s' => ∃ (k : Nat) (ρk : List Addr) (vs : List AV) (lock : Loc) (Hk : AH), k + m = N ∧ Mvd env ρ2 { s with heap := h1, toks := tk1 } ρk s' ∧ Fr ⟨P, l, A, env, names, S₀, s₀, hid ++ xs, ⟨S.ad ++ aux, S.prog, S.w⟩⟩ ρk (lock ++ vs.map some) Hk s' ∧ lock.length = loc.length ∧ vs.length = xs.length ∧ Inv k vs lock Hk ∧ TAt s'.heap J aux xs k kd
    refine tat_self hh F3.sim (gv F3 hl0 (hv0.trans hxl.symm)) ei t0' ?_
    refine codeAny_forLoop_any JJ (fun m s' hJ => ?_) N ⟨0, ρ2, vs0, loc0, H0, Nat.zero_add N, m2, F3, hl0, hv0.trans hxl.symm, I0, t0'⟩
    obtain ⟨k, ρk, vs, lock, Hk, hkm, mk, Fk, hlk, hvk, Ik, tk⟩ := hJ
    obtain ⟨its', ei', el'⟩ := hI k vs lock Hk (Nat.le_trans (Nat.le_add_right k m) (Nat.le_of_eq hkm)) Ik
    have Vk := gv Fk hlk hvk
    have hJr : ∀ b ∈ aux, b ∉ ρk := fun b hb q => Fk.sim.off b q (List.mem_append_right _ hb)
    by_cases hkn : k < N
    · obtain ⟨us, eu⟩ : ∃ us, its'[k]? = some us := ⟨its'[k]'(Nat.lt_of_lt_of_le hkn (Nat.le_of_eq el'.symm)), List.getElem?_eq_getElem _⟩
      obtain ⟨hul, hw⟩ := hB k vs lock Hk its' us hkn hlk Ik ei' eu
      refine wpAny_mono (tat_item (elts := [.Name x px, .Name y py]) (kk := kk) (pos := pt) (QQ := fun v s₂ => wpAny (model P.prog P.w) A (assign (.Tuple [.Name x px, .Name y py] kk pt) env v) (fun _ s₂ => wpAny (model P.prog P.w) A (execs body env) (fun f s₃ => match f with
          | .next | .cont => ∃ m', m' < m ∧ JJ m' s₃
          | .brk => SP ⟨P, l, A, env, names, S₀, s₀, hid, S⟩ ρ s Qn Qr .next s₃
          | .ret v => SP ⟨P, l, A, env, names, S₀, s₀, hid, S⟩ ρ s Qn Qr (.ret v) s₃) (notedBy (model P.prog P.w) A env fun e s' => cameBackBy (model P.prog P.w) A env E e s') s₂) (notedBy (model P.prog P.w) A env fun e s' => cameBackBy (model P.prog P.w) A env E e s') s₂) hh Fk.sim Vk ei' eu tk fun T ys h3 tk3 hT Vu t3 hk3 => ?_) (fun r s₁ hr => ?_) fun _ _ y => y
      · have Fk3 := Fk.junk (x' := aux) (h' := h3) (tk := tk3) (fun b hb => List.mem_append_right _ hb) hk3 t3.alive (fun b hb => ⟨hx1 b hb, hx2 b hb, hx4 b hb⟩)
        have mk3 : Mvd env ρ2 { s with heap := h1, toks := tk1 } ρk { s' with heap := h3, toks := tk3 } := mk.junk (x' := aux) hk3 hJn
        have Vu3 : VRels ⟨S.ad ++ aux, S.prog, S.w⟩ ρk h3 us ys.toList := Vu.mono2 fun b o _ hb e => hk3 b o (fun q => hb (List.mem_append_right _ q)) e
        have hyl : ys.size = 2 := by have := Vu3.length; rw [turns_two ei' eu] at this; simpa using this.symm
        have hall : allSome ([PySem.Expr.Name x px, .Name y py].map fun e => (nameOf e).bind (slotOf env.kindOf names)) = some [i, j] := by
          simp [nameOf_name, hx, hy, allSome]
        have hm := each_map (env := env) (names := names) _ _ hall
        refine wpAny_assign_Tuple hh hT (by rw [hm.1]; simp [hyl]) hm.2 fun h4 he4 => ?_
        have k4 : Kp h3 h4 := fun b o e => he4 b o (fun q => by rw [q] at e; have := Heap.lt_size e; exact Nat.lt_irrefl _ this) e
        have Fk4 := Fk3.kp0 (tk := tk3) k4
        refine wpAny_mono (stores_ok (K := ⟨P, l, A, env, names, S₀, s₀, hid ++ xs, ⟨S.ad ++ aux, S.prog, S.w⟩⟩) _ [i, j] us ys.toList hall (Vu3.kp0 k4) (turns_two ei' eu) Fk4) (fun _ s5 h5 => ?_) fun _ _ y => y
        obtain ⟨m5, F5⟩ := h5
        have m45 : Mvd env ρk { s' with heap := h3, toks := tk3 } ρk s5 := (Mvd.kp0 (s := { s' with heap := h3, toks := tk3 }) k4).trans m5
        rw [setAll_app (a := lock) (fun q hq => Nat.lt_of_lt_of_le (two_lt (slot_lt hx) (slot_lt hy) hq) (Nat.le_trans (Nat.le_add_right _ _) (Nat.le_of_eq (hlk.trans hlen).symm)))] at F5
        refine wpAny_mono (ib A S₀ s₀ (hid ++ xs) _ ρk _ Hk s5 _ Qr _ _ F5 xOk_any hw) (fun f s6 hf => ?_) fun _ _ y => y
        cases f with
        | next =>
          obtain ⟨ρ6, loc6, H6, m6, F6, vs7, loc7, H7, R7, hl7, hv7, I7⟩ := hf
          obtain ⟨ρ7, hs7, F7⟩ := F6.ren R7
          obtain ⟨m', rfl⟩ := next_turn hkm hkn
          refine ⟨m', Nat.lt_succ_self _, k + 1, ρ7, vs7, loc7, H7, (Nat.succ_add_eq_add_succ k m').trans hkm, ((mk3.trans m45).trans m6).trans (Mvd.sub' hs7), F7, hl7, hv7.trans hcl, I7, ?_⟩
          exact t3.at fun b hb o e => m6.mv b o (hx1 b hb) (hx2 b hb) (hJr b hb) (m45.mv b o (hx1 b hb) (hx2 b hb) (hJr b hb) e)
        | ret rv =>
          obtain ⟨ρ6, loc6, H6, v6, m6, F6, V6, q6⟩ := hf
          have hl6 : loc6.length = names.length + (hid ++ xs).length := F6.len
          rw [List.length_append, ← Nat.add_assoc] at hl6
          have F8 := back (loc'' := loc6.take (loc6.length - xs.length)) (h' := s6.heap) (tk' := s6.toks) F6 (take_last (hl6 ▸ Nat.le_add_left _ _)) (fun i hi => take_get hi) (fun b o _ e => e)
          refine ⟨ρ6, _, H6, v6, m1.trans ((mk3.trans m45).trans m6), F8, ?_, q6⟩
          exact VRel.sub (S := S) (S' := ⟨S.ad ++ aux, S.prog, S.w⟩) rfl rfl (fun b hb => List.mem_append_left _ hb) V6
        | _ => exact hf.elim
      · obtain ⟨v, rfl, hr⟩ := hr
        exact hr
    · have hkN : k = N := last_turn hkm hkn
      subst hkN
      refine tat_done hh Fk.sim Vk ei' (by rw [el']; exact tk) fun h3 tk3 hk3 => ?_
      refine wpAny_execs_nil ?_
      have F8 := back (loc'' := lock) (h' := h3) (tk' := tk3) Fk (by rw [List.length_append, List.length_map, hvk]) (fun i hi => (List.getElem?_append_left hi).symm) hk3
      exact ⟨ρk, lock, Hk, m1.trans (mk.junk (x' := aux) hk3 hJn), F8, hE vs lock Hk Ik⟩
  have hp := star_any (env := env) (pos := pc) r0 t0 e2
  cases kd with
  | enumerate => exact PyProof.Rows.callWith_type1 fin (not_starred e1 r0) hp
  | zip => exact PyProof.Rows.callWith_type1 fin (not_starred e1 r0) hp
  | rows => rcases hcs with ⟨q, _⟩ | ⟨q, _⟩ <;> cases q
end

open PySem PyProof.Rows PySem.SeqAt
section
variable {P : PC} {l : Lv} {env : Env} {names : List Str} {nt : NT} {n : Nat}

/-- x = e, whatever e is -/
theorem assign_any_ok (ho : EnvOk env) {x : Str} {i : Nat} {v : PySem.Expr} {px p : Pos} {c : CE} (hx : slotOf env.kindOf names x = some i)
    (ih : ∀ (n : Nat) (env : Env) (names : List Str), EnvOk env → ∀ (e : PySem.Expr) (c : CE), compE nt n env.kindOf names e = some c → EvOk P l env names e c ∧ TrOk P l env names e c) (hv : compE nt n env.kindOf names v = some c) :
    StOk P l env names (exec (.Assign [.Name x px] v p) env) (wpS P l (.assign i c)) := by
  have ie := (ih n env names ho v c hv).1
  by_cases hc : isComp v = true
  · cases n with
    | zero => cases hv
    | succ n =>
    cases v <;> first | (cases hc; done) | skip
    · -- a list's comprehension
      rename_i elt gens scope pos
      have hs : ∃ b, swapsWith (.ListComp elt gens scope pos) (some (.Name x px)) p.line env = pure b := ⟨_, rfl⟩
      obtain ⟨b, hs⟩ := hs
      cases b with
      | false => exact assign_ok ho hx ie hs
      | true =>
        obtain ⟨g, e0, h1⟩ := Option.bind_eq_some_iff.mp hv
        obtain ⟨c1, e1, h1⟩ := Option.bind_eq_some_iff.mp h1
        obtain ⟨cap, e2, h1⟩ := Option.bind_eq_some_iff.mp h1
        obtain ⟨c2, e3, h1⟩ := Option.bind_eq_some_iff.mp h1
        obtain ⟨l1, e4, h1⟩ := Option.bind_eq_some_iff.mp h1
        clear hv ie
        obtain ⟨rfl, htg, hnd⟩ := genOf_some e0
        split at h1
        · rename_i hc
          cases h1
          simp only [Bool.and_eq_true, decide_eq_true_eq] at hc
          exact assign_comp_ok ho hx (ih n) e1 e2 e3 e4 hc.1 htg hnd hc.2 hs
        · cases h1
    · cases hv
    · cases hv
  · exact assign_ok ho hx ie (swaps_false (by simpa using hc))

/-- a try whose block does not raise -/
theorem try_body_ok {b : List PySem.Stmt} {h0 : ExceptHandler} {hs : List ExceptHandler} {p : Pos} {x : List CS} (ib : StOk P l env names (execs b env) (wpSs P l x)) : StOk P l env names (exec (.Try b (h0 :: hs) [] [] p) env) (wpS P l (.try x "" 0 [])) := by
  intro A S₀ s₀ hid S ρ loc H s Qn Qr Qx E F hX h
  refine wpAny_Try_except (wpAny_mono (ib A S₀ s₀ hid S ρ loc H s Qn Qr Qx _ F xOk_any h) (fun f s' h' => ?_) fun _ _ y => y)
  cases f with
  | next => exact wpAny_execs_nil h'
  | _ => exact h'
/-- every statement that is compiled runs as its form says -/
theorem stmt_ok (hnt : P.nt = nt) (ho : EnvOk env) : ∀ (n : Nat) (st : PySem.Stmt) (c : CS), compS nt n env.kindOf names st = some c → StOk P l env names (exec st env) (wpS P l c)
  | 0, _, _, h => by cases h
  | n + 1, st, c, h => by
    have ih := stmt_ok hnt ho n
    have ie0 := fun n env names ho => expr_ok (P := P) (l := l) hnt n env names ho
    have ie : ∀ (e : PySem.Expr) (c : CE), compE nt n env.kindOf names e = some c → EvOk P l env names e c := fun e c h => (ie0 n env names ho e c h).1
    have it : ∀ (e : PySem.Expr) (c : CE), compE nt n env.kindOf names e = some c → TrOk P l env names e c := fun e c h => (ie0 n env names ho e c h).2
    have ib := fun b cs h => seq_ok (P := P) (l := l) ih b cs h
    cases st with
    | Pass p => cases h; exact pass_ok
    | Return e p =>
      obtain ⟨e, rfl, h⟩ := Option.bind_eq_some_iff.mp h
      obtain ⟨c1, e1, rfl⟩ := Option.map_eq_some_iff.mp h
      exact ret_ok (ie e c1 e1)
    | If t a b p =>
      obtain ⟨c1, e1, h⟩ := Option.bind_eq_some_iff.mp h
      obtain ⟨x, e2, h⟩ := Option.bind_eq_some_iff.mp h
      obtain ⟨y, e3, h⟩ := Option.bind_eq_some_iff.mp h
      cases h
      exact if_ok (it t c1 e1) (ib a x e2) (ib b y e3)
    | For t itr body els p =>
      rcases els with _ | ⟨a, r⟩
      · replace h : compFor (compE nt n env.kindOf names) (compS nt n env.kindOf names) env.kindOf names t itr body = some c := h
        unfold compFor at h
        cases hn : nameOf t with
        | some x =>
          simp only [hn] at h
          obtain ⟨px, rfl⟩ := nameOf_some hn
          obtain ⟨i, e1, h⟩ := Option.bind_eq_some_iff.mp h
          obtain ⟨c1, e2, h⟩ := Option.bind_eq_some_iff.mp h
          obtain ⟨b, e3, h⟩ := Option.bind_eq_some_iff.mp h
          cases h
          exact for1_ok e1 e2 (ie itr c1 e2) (ib body b e3)
        | none =>
          simp only [hn] at h
          obtain ⟨xy, g1, h2⟩ := Option.bind_eq_some_iff.mp h
          obtain ⟨fa, g2, h3⟩ := Option.bind_eq_some_iff.mp h2
          obtain ⟨i, e1, h4⟩ := Option.bind_eq_some_iff.mp h3
          obtain ⟨j, e2, h5⟩ := Option.bind_eq_some_iff.mp h4
          obtain ⟨l1, e3, h6⟩ := Option.bind_eq_some_iff.mp h5
          obtain ⟨b, e4, h1⟩ := Option.bind_eq_some_iff.mp h6
          clear h hn h2 h3 h4 h5 h6
          obtain ⟨px, py, kk, pt, rfl⟩ := tgt2_some g1
          obtain ⟨pf, pc, rfl⟩ := plainCall_some g2
          split at h1
          · rename_i hg
            simp only [Bool.and_eq_true] at hg
            split at h1
            · rename_i hf
              cases h1
              have hb : biOf fa.1 = some It.zip.val := by rw [hf.1]; decide +kernel
              exact forT_ok ho e1 e2 hg.1 hb ie e3 (.inr ⟨rfl, hf.2⟩) (ib body b e4)
            · cases h1
          · cases h1
      · cases h
    | Assign ts v p =>
      rcases ts with _ | ⟨t, _ | ⟨t', r⟩⟩
      · cases h
      · cases t with
        | Name x px =>
          obtain ⟨i, e1, h⟩ := Option.bind_eq_some_iff.mp h
          obtain ⟨c1, e2, rfl⟩ := Option.map_eq_some_iff.mp h
          exact assign_any_ok ho e1 ie0 e2
        | Tuple es kk tp =>
          obtain ⟨xs, e1, h⟩ := Option.bind_eq_some_iff.mp h
          obtain ⟨c1, e2, h⟩ := Option.bind_eq_some_iff.mp h
          split at h
          · cases h
          · rename_i hc
            cases h
            simp only [Bool.or_eq_true, not_or, Bool.not_eq_true] at hc
            exact assignT_ok ho e1 (ie v c1 e2) hc.1 hc.2
        | Subscript o i sp =>
          obtain ⟨c1, e1, h⟩ := Option.bind_eq_some_iff.mp h
          obtain ⟨c2, e2, h⟩ := Option.bind_eq_some_iff.mp h
          obtain ⟨c3, e3, h⟩ := Option.bind_eq_some_iff.mp h
          cases h
          exact setidx_ok (ie v c1 e1) (ie o c2 e2) (ie i c3 e3)
        | _ => cases h
      · cases h
    | Expr e p =>
      replace h : compEx (compE nt n env.kindOf names) e = some c := h
      unfold compEx at h
      cases hm : mutOf e with
      | some q =>
        simp only [hm] at h
        obtain ⟨c1, e2, h2⟩ := Option.bind_eq_some_iff.mp h
        obtain ⟨l1, e3, h1⟩ := Option.bind_eq_some_iff.mp h2
        clear h h2
        obtain ⟨z, g1, g2⟩ := Option.bind_eq_some_iff.mp hm
        obtain ⟨mu', e4, e5⟩ := Option.map_eq_some_iff.mp g2
        clear hm g2
        have ee := methOf_some g1
        subst ee
        subst e5
        split at h1
        · rename_i hc
          cases h1
          simp only [Bool.and_eq_true, decide_eq_true_eq] at hc
          exact mut_ok ho ie e2 e3 hc.1 hc.2 e4
        · cases h1
      | none =>
        simp only [hm] at h
        split at h
        · cases h
        · rename_i hc
          obtain ⟨c1, e2, rfl⟩ := Option.map_eq_some_iff.mp h
          exact expr_st_ok ho (ie e c1 e2) (by simpa using hc)
    | Try b hs e f p =>
      rcases e with _ | ⟨a, r⟩
      · rcases f with _ | ⟨a, r⟩
        · rcases hs with _ | ⟨h0, hs⟩
          · cases h
          · obtain ⟨x, e2, rfl⟩ := Option.map_eq_some_iff.mp h
            exact try_body_ok (ib b x e2)
        · cases h
      · cases h
    | Raise a b p =>
      cases h
      intro A S₀ s₀ hid S ρ loc H s Qn Qr Qx E F hx hw
      exact False.elim hw
    | _ => cases h
theorem body_ok (hnt : P.nt = nt) (ho : EnvOk env) {n : Nat} {b : List PySem.Stmt} {cs : List CS} (h : allSome (b.map (compS nt n env.kindOf names)) = some cs) : StOk P l env names (execs b env) (wpSs P l cs) :=
  seq_ok (stmt_ok hnt ho n) b cs h
end

open PySem PyProof.Rows PySem.SeqAt

theorem cells_names : ∀ (names : List (Str × NameKind)) (n : Nat) (acc : List (Str × Addr)), (cellsFrom n names acc).map (·.1) = ((names.filter fun p => p.2 == .cell).map (·.1)).reverse ++ acc.map (·.1)
  | [], _, _ => rfl
  | (x, k) :: r, n, acc => by
    unfold cellsFrom
    by_cases hk : (k == .cell) = true
    · rw [if_pos hk, cells_names r]
      simp [hk]
    · rw [if_neg hk, cells_names r]
      simp [hk]
theorem mem_lookup {α : Type} : ∀ {l : List (Str × α)} {x : Str} {c : α}, (l.map (·.1)).Nodup → (x, c) ∈ l → l.lookup x = some c
  | (y, d) :: r, x, c, h, hm => by
    rw [List.lookup_cons]
    rw [List.map_cons, List.nodup_cons] at h
    rcases List.mem_cons.mp hm with e | hm
    · cases e; simp
    · have : x ≠ y := fun e => h.1 (e ▸ List.mem_map.mpr ⟨_, hm, rfl⟩)
      have hb : (x == y) = false := by simpa using this
      rw [hb]
      exact mem_lookup h.2 hm
theorem bindL_not {kd : Str → Option NameKind} {x : Str} : ∀ {binds : List (Str × Value)} {m : Str → Option Value}, x ∉ binds.map (·.1) → bindL kd binds m x = m x
  | [], _, _ => rfl
  | (n, v) :: r, m, h => by
    simp only [List.map_cons, List.mem_cons, not_or] at h
    unfold bindL
    rw [bindL_not h.2]
    split
    · simp [h.1]
    · rfl
theorem bindC_not {kd : Str → Option NameKind} {x : Str} : ∀ {binds : List (Str × Value)} {m : Str → Option Value}, x ∉ binds.map (·.1) → bindC kd binds m x = m x
  | [], _, _ => rfl
  | (n, v) :: r, m, h => by
    simp only [List.map_cons, List.mem_cons, not_or] at h
    unfold bindC
    rw [bindC_not h.2]
    split
    · rfl
    · simp [h.1]
theorem bindL_mem {kd : Str → Option NameKind} {x : Str} {v : Value} (hk : kd x = some .local) : ∀ {binds : List (Str × Value)} {m : Str → Option Value}, (binds.map (·.1)).Nodup → (x, v) ∈ binds → bindL kd binds m x = some v
  | (n, u) :: r, m, h, hm => by
    rw [List.map_cons, List.nodup_cons] at h
    unfold bindL
    rcases List.mem_cons.mp hm with e | hm
    · cases e
      rw [bindL_not h.1, if_pos hk]
      simp
    · exact bindL_mem hk h.2 hm
theorem bindC_mem {kd : Str → Option NameKind} {x : Str} {v : Value} (hk : kd x ≠ some .local) : ∀ {binds : List (Str × Value)} {m : Str → Option Value}, (binds.map (·.1)).Nodup → (x, v) ∈ binds → bindC kd binds m x = some v
  | (n, u) :: r, m, h, hm => by
    rw [List.map_cons, List.nodup_cons] at h
    unfold bindC
    rcases List.mem_cons.mp hm with e | hm
    · cases e
      rw [bindC_not h.1, if_neg hk]
      simp
    · exact bindC_mem hk h.2 hm

theorem rep_join {n k : Nat} : ((List.replicate n (Option.none : Option AV))[k]?).join = Option.none := by
  rw [List.getElem?_replicate]; split <;> rfl
/-- a def's block is of the plain sort -/
noncomputable def defOk (scope : Scope) (ps rest : List Str) : Bool :=
  scope.kind == .function && !scope.isCoroutine && !scope.isGenerator && decide (ps ++ rest).Nodup && decide (scope.names.map (·.1)).Nodup && ps.all fun x => scope.names.lookup x == some .local || scope.names.lookup x == some .cell

/-- into a def's block -/
theorem enter_ok {P : PC} {l : Lv} {f : Nat} {x : Str} {d : DefRec} {ps rest : List Str} {vs : List AV}
    (hf : P.nt.fns[f]? = some x) (hd : P.defs[f]? = some d) (hk : 0 < l.k)
    (hb : ∀ xs pm code doc, xs.length = ps.length → bindArgs (Calls.docDef d.name d.params d.body d.scope pm code doc) ⟨xs, []⟩ = pure (ps.zip xs))
    (hs : defOk d.scope ps rest = true) (hl : vs.length = ps.length)
    {A : Around} {s : Shared} {S : Sx} {xs : List Value} {x' : Str} {a : Addr} {R : Result → Shared → Prop} (hA : Aok l A) (hG : GOk P s.heap) (hx : P.nt.fns[f]? = some x') (ha : P.mg x' = some (.ref a)) (hpp : S.prog = P.prog) (hpw : S.w = P.w) (hsd : SD S s.heap) (V : VRels S [] s.heap vs xs)
    (h : ∀ (env : Env) (s₁ : Shared) (S' : Sx), env.frame = some env.locals → env.kindOf = (fun x => d.scope.names.lookup x) → EnvOk env → (∀ b ∈ S.ad, b ∈ S'.ad) → S'.prog = S.prog → S'.w = S.w →
      Fr ⟨P, ⟨l.k - 1, l.q⟩, A.deeper env, env, ps ++ rest, S, s, [], S'⟩ [] (vs.map some ++ List.replicate rest.length none) [] s₁ →
      wpAny (model P.prog P.w) (A.deeper env) (execs d.body env) (fun f s' => R (.ok (.ret (match f with | .ret v => v | _ => .none))) s')
        (fun e s' => wpAny (model P.prog P.w) (A.deeper env) (leaving env e) (fun _ s'' => R (.error e) s'') (fun e' s'' => R (.error e') s'') s') s₁) :
    codeAny (model P.prog P.w) A (.call (.ref a) ⟨xs, []⟩) R s := by
  rw [hf] at hx; cases hx
  obtain ⟨a', o, pm, code, doc, ea, eo, ed, ecd⟩ := hG.df f x d hf hd
  rw [ha] at ea; cases ea
  simp only [defOk, Bool.and_eq_true, Bool.not_eq_true', decide_eq_true_eq, beq_iff_eq] at hs
  obtain ⟨⟨⟨⟨⟨hs1, hs2⟩, hs3⟩, hs4⟩, hs5⟩, hs6⟩ := hs
  have hxl : xs.length = ps.length := by rw [← V.length]; exact hl
  have hfst : (ps.zip xs).map (·.1) = ps := by rw [List.map_fst_zip]; omega
  have hdeep := hA.2.1
  have hkinds : ((ps.zip xs).all fun y => d.scope.names.lookup y.1 == some .local || d.scope.names.lookup y.1 == some .cell) = true := by
    rw [List.all_eq_true]
    intro y hy
    exact List.all_eq_true.mp hs6 y.1 (by rw [← hfst]; exact List.mem_map.mpr ⟨y, hy, rfl⟩)
  refine codeAny_call_cells (body := d.body) (by omega) eo ed hG.nolimit ecd rfl (hb xs pm code doc hxl) rfl (PySem.W.kindsX hkinds _) (fun s₁ I => ?_) hs2 hs3 hs1
  generalize hfd : Calls.docDef d.name d.params d.body d.scope pm code doc = fd at I ⊢
  have esc : fd.scope = d.scope := by rw [← hfd]; rfl
  have egl : fd.globals = mainGlobals := by rw [← hfd]; rfl
  have ebl : fd.builtins = builtinsNs := by rw [← hfd]; rfl
  generalize henv : callEnvC fd s.heap.objs.size a = env at I ⊢
  have e1 : env.scope = d.scope := by rw [← henv, ← esc]; rfl
  have e2 : env.globals = mainGlobals := by rw [← henv, ← egl]; rfl
  have e3 : env.builtins = builtinsNs := by rw [← henv, ← ebl]; rfl
  have e4 : env.cells = cellsFrom (s.heap.objs.size + 1) d.scope.names [] := by rw [← henv, ← esc]; rfl
  have e5 : env.locals = s.heap.objs.size := by rw [← henv]; rfl
  have e6 : env.frame = some env.locals := by rw [← henv]; rfl
  have ekd : env.kindOf = fun x => d.scope.names.lookup x := by funext y; show env.scope.names.lookup y = _; rw [e1]
  have hEok : EnvOk env := ⟨by rw [e1]; exact hs1, e2, e3, fun y hy => by
    rw [ekd] at hy
    rw [e4]
    exact Option.isSome_iff_exists.mp (PySem.W.cellsFrom_some _ _ _ (.inl hy))⟩
  have hcn : (env.cells.map (·.1)).Nodup := by
    rw [e4, cells_names]
    simp only [List.map_nil, List.append_nil]
    have := List.Nodup.sublist (List.Sublist.map (fun q : Str × NameKind => q.1) (List.filter_sublist (p := fun q : Str × NameKind => q.2 == NameKind.cell))) hs5
    unfold List.Nodup at this ⊢
    rw [List.pairwise_reverse]
    exact this.imp fun h => h.symm
  have hfresh : ∀ b ∈ env.locals :: env.cells.map (·.2), s.heap.get? b = none := fun b hb => by
    rcases List.mem_cons.mp hb with rfl | hb
    · rw [e5]; exact size_none _
    · obtain ⟨⟨y, c⟩, hm, rfl⟩ := List.mem_map.mp hb
      have := I.above y c hm
      rw [e5] at this
      exact Heap.get?_none_of_le (Nat.le_of_lt this)
  have halive : ∀ b ∈ env.locals :: env.cells.map (·.2), ∃ o, s₁.heap.get? b = some o := fun b hb => by
    rcases List.mem_cons.mp hb with rfl | hb
    · obtain ⟨o, _, _, ho, _⟩ := I.toInCall.ns; exact ⟨o, ho⟩
    · obtain ⟨⟨y, c⟩, hm, rfl⟩ := List.mem_map.mp hb
      obtain ⟨o, ho, _⟩ := I.cell y c (mem_lookup hcn hm)
      exact ⟨o, ho⟩
  have kp : Kp s.heap s₁.heap := I.toInCall.keep
  let S' : Sx := ⟨S.ad ++ (env.locals :: env.cells.map (·.2)), S.prog, S.w⟩
  have V' : VRels S' [] s₁.heap vs xs := (V.avoid hfresh).kp0 kp
  have F : Fr ⟨P, ⟨l.k - 1, l.q⟩, A.deeper env, env, ps ++ rest, S, s, [], S'⟩ [] (vs.map some ++ List.replicate rest.length none) [] s₁ := {
    aok := ⟨hA.1, by show A.depth + 1 + (l.k - 1) < _; omega, by have := hA.2.2; show A.units + 3 + 10 * (l.k - 1) + 200 < _; omega⟩
    eok := hEok, nd := hs4, g0 := hG, pp := hpp, pw := hpw
    sd := fun b hb => (List.mem_append.mp hb).elim (fun q => let ⟨o, ho⟩ := hsd b q; ⟨o, kp b o ho⟩) (halive b)
    sim := ⟨rfl, List.nodup_nil, fun _ hm => (by cases hm), fun i vs e => by simp at e⟩
    fr := fun _ hm => (by cases hm)
    sub := fun b hb => List.mem_append_left _ hb
    hL := List.mem_append_right _ (.head _)
    hC := fun y c hc => List.mem_append_right _ (.tail _ (List.mem_map.mpr ⟨(y, c), hc, rfl⟩))
    len := by simp [hl]
    ic := ⟨_, _, I, fun i y v ey ev => by
      have hi : i < vs.length := by
        apply Classical.byContradiction
        intro hi
        rw [List.getElem?_append_right (by simpa using hi)] at ev
        rw [rep_join] at ev; cases ev
      have eu : vs[i]? = some v := by
        rw [List.getElem?_append_left (by simpa using hi)] at ev
        rw [List.getElem?_map] at ev
        cases hvi : vs[i]? with
        | none => rw [hvi] at ev; cases ev
        | some u => rw [hvi] at ev; simpa using ev
      obtain ⟨rv, er, Vr⟩ := V'.get eu
      have ey' : ps[i]? = some y := by
        have : i < ps.length := by omega
        have ey2 : (ps ++ rest)[i]? = some y := ey
        rw [List.getElem?_append_left this] at ey2
        exact ey2
      have hm : (y, rv) ∈ ps.zip xs := List.mem_of_getElem? (List.getElem?_zip_eq_some.mpr ⟨ey', er⟩)
      have hnd : ((ps.zip xs).map (·.1)).Nodup := by rw [hfst]; exact (List.nodup_append.mp hs4).1
      have hky := List.all_eq_true.mp hkinds _ hm
      refine ⟨rv, ?_, Vr⟩
      rcases Bool.or_eq_true_iff.mp hky with q | q
      · have q' : env.kindOf y = some .local := by rw [ekd]; simpa using q
        exact .inl ⟨q', bindL_mem q' hnd hm⟩
      · have q' : env.kindOf y = some .cell := by rw [ekd]; simpa using q
        exact .inr ⟨q', bindC_mem (by rw [q']; simp) hnd hm⟩⟩
    hh := fun i rv v e => by simp at e }
  exact h env s₁ S' e6 ekd hEok (fun b hb => List.mem_append_left _ hb) rfl rfl F

/-- a def's call, by its body -/
theorem CallJ.of_body {P : PC} {l : Lv} {f : Nat} {x : Str} {d : DefRec} {ps rest : List Str} {n : Nat} {cs : List CS} {vs : List AV} {Q : AV → AH → Prop} {X : Str → Prop}
    (hf : P.nt.fns[f]? = some x) (hd : P.defs[f]? = some d) (hk : 0 < l.k)
    (hb : ∀ xs pm code doc, xs.length = ps.length → bindArgs (Calls.docDef d.name d.params d.body d.scope pm code doc) ⟨xs, []⟩ = pure (ps.zip xs))
    (hs : defOk d.scope ps rest = true) (hc : allSome (d.body.map (compS P.nt n (fun x => d.scope.names.lookup x) (ps ++ rest))) = some cs) (hl : vs.length = ps.length)
    (hw : wpSs P ⟨l.k - 1, l.q⟩ cs (vs.map some ++ List.replicate rest.length none) [] (fun _ H => Q .none H) Q (fun c _ _ => X c)) : CallJ P l f vs Q X := by
  intro A s S xs x' a hA hG hx ha hpp hpw hsd V
  refine enter_ok hf hd hk hb hs hl hA hG hx ha hpp hpw hsd V fun env s₁ S' _ ekd hEok hsub hp' hw' F => ?_
  have hc' : allSome (d.body.map (compS P.nt n env.kindOf (ps ++ rest))) = some cs := by rw [ekd]; exact hc
  refine wpAny_mono (body_ok (P := P) (l := ⟨l.k - 1, l.q⟩) rfl hEok hc' (A.deeper env) S s [] S' [] _ [] s₁ _ Q _ _ F xOk_any hw) (fun fl s' hfl => ?_) fun _ _ y => y
  have fin : ∀ {ρ' : List Addr} {loc' : Loc} {H' : AH} {v : AV} {rv : Value}, Fr ⟨P, ⟨l.k - 1, l.q⟩, A.deeper env, env, ps ++ rest, S, s, [], S'⟩ ρ' loc' H' s' → VRel S' ρ' s'.heap v rv → Q v H' → ∃ rv' h' tk ρ v Hc, Flow.ret rv = .ret rv' ∧ s' = { s with heap := h', toks := tk } ∧ Kp s.heap h' ∧ Fresh s.heap ρ ∧ HSim S ρ Hc h' ∧ VRel S ρ h' v rv' ∧ Q v Hc := by
    intro ρ' loc' H' v rv F' V' q
    obtain ⟨m, cm, I', _⟩ := F'.ic
    obtain ⟨h', tk, es⟩ := I'.toInCall.same
    subst es
    exact ⟨rv, h', tk, ρ', v, H', rfl, rfl, I'.toInCall.keep, F'.fr, HSim.sub (S := S) (S' := S') hp' hw' hsub F'.sim, VRel.sub (S := S) (S' := S') hp' hw' hsub V', q⟩
  cases fl with
  | next => obtain ⟨ρ', loc', H', m, F', q⟩ := hfl; exact fin F' .none q
  | ret rv => obtain ⟨ρ', loc', H', v, m, F', V', q⟩ := hfl; exact fin F' V' q
  | _ => exact hfl.elim

open PySem PyProof.Rows PySem.SeqAt

noncomputable def avData : PyData → Option AV
  | .none => some .none
  | .bool b => some (.bool b)
  | .int i => some (.int i)
  | .str x => some (.str x)
  | _ => Option.none
theorem avData_rel {d : PyData} {v : AV} {rv : Value} (e : avData d = some v) (h : ∀ h' : Heap, Reads h' rv d []) : ∀ S ρ h, VRel S ρ h v rv := by
  intro S ρ h0
  have q := h h0
  cases q <;> first | (cases e; constructor) | cases e
/-- no name of the module hides a built-in that is used -/
noncomputable def biFree (p : Program) (loose : List Str) : Bool :=
  ((["isinstance", "enumerate", "zip", "bool"] : List Str) ++ prNames.map (·.1)).all fun x => !startupNames.contains x && !loose.contains x && !((recsOf p).map (·.name)).contains x && !((litsOf p).map (·.1)).contains x && !((clssOf p loose).map (·.name)).contains x
theorem bi_boot : ((["isinstance", "enumerate", "zip", "bool"] : List Str) ++ prNames.map (·.1)).all (fun x => x != ("__name__" : Str) && bootBuiltins x == biOf x) = true := by decide +kernel
theorem bi_mem {x : Str} {v : Value} (h : biOf x = some v) : x ∈ (["isinstance", "enumerate", "zip", "bool"] : List Str) ++ prNames.map (·.1) := by
  unfold biOf at h
  have := lookup_mem h
  simp only [List.mem_append] at this ⊢
  rcases this with q | q
  · left
    simp only [List.mem_cons, Prod.mk.injEq, List.not_mem_nil, or_false] at q ⊢
    rcases q with ⟨rfl, _⟩ | ⟨rfl, _⟩ | ⟨rfl, _⟩ | ⟨rfl, _⟩ <;> simp
  · right
    obtain ⟨y, hy, e⟩ := List.mem_map.mp q
    cases e
    exact List.mem_map.mpr ⟨y, hy, rfl⟩

/-- the module's top -/
theorem GOk.of_top {p : Program} {loose : List Str} {mean : ExcName → Option Value} {mg mb : Str → Option Value} {h : Heap} (T : Top p loose mean mg mb h) {prog : Program} {w : World} {consts : List (Str × AV)} {defs : List DefRec} {own : Str → Addr → Option Bool} {sup : Addr}
    (hd : recsOf p = defs) (hb : biFree p loose = true) (hc : consts.all (fun c => match valOf p c.1 with | some d => (avData d).isSome | Option.none => false) = true) (hc2 : ∀ x v, consts.lookup x = some v → ∃ d, valOf p x = some d ∧ avData d = some v)
    (how : ∀ t c b, own t c = some b → OwnIs ⟨prog, w, mg, mb, ⟨defs.map (·.name), consts⟩, defs, own, sup⟩ h t c b) :
    GOk ⟨prog, w, mg, mb, ⟨defs.map (·.name), consts⟩, defs, own, sup⟩ h where
  g := T.g
  b := T.b
  nolimit := T.nolimit
  bi := fun x v e => by
    have hm := bi_mem e
    have h1 := List.all_eq_true.mp hb x hm
    have h2 := List.all_eq_true.mp bi_boot x hm
    simp only [Bool.and_eq_true, Bool.not_eq_true', List.contains_eq_mem, decide_eq_false_iff_not] at h1
    simp only [Bool.and_eq_true, bne_iff_ne, ne_eq, beq_iff_eq] at h2
    obtain ⟨⟨⟨⟨a1, a2⟩, a3⟩, a4⟩, a5⟩ := h1
    exact ⟨T.free x a1 a2 a3 a4 a5, by rw [← e, ← h2.2]; exact T.builtins x h2.1⟩
  cst := fun x v e => by
    obtain ⟨d, e1, e2⟩ := hc2 x v e
    obtain ⟨rv, e3, e4⟩ := T.const x d e1
    exact ⟨rv, e3, avData_rel e2 e4⟩
  ow := how
  fn := fun f x e => by
    obtain ⟨d, hd', rfl⟩ : ∃ d, defs[f]? = some d ∧ d.name = x := by simpa using e
    obtain ⟨a, o, pm, code, doc, h1, h2, h3, h4⟩ := T.fn d (by rw [hd]; exact List.mem_of_getElem? hd')
    exact ⟨a, o, h1, h2, _, h3⟩
  df := fun f x d e e' => by
    obtain ⟨d', hd', rfl⟩ : ∃ d, defs[f]? = some d ∧ d.name = x := by simpa using e
    have e' : defs[f]? = some d := e'
    rw [hd'] at e'; cases e'
    exact T.fn _ (by rw [hd]; exact List.mem_of_getElem? hd')

/-- a list of ints, as the law's caller lays it -/
theorem ints_of_well {P : Params} {h : Heap} : ∀ {vs : List Value} {xs : List PySem.W.WData} {ns : List Int}, PySem.W.WellAll P h vs xs → xs = ns.map PySem.W.WData.int → ∀ S ρ h', VRels S ρ h' (ns.map AV.int) vs
  | _, _, [], .nil, _, _, _, _ => .nil
  | _, _, _ :: _, .nil, e, _, _, _ => by cases e
  | _, _, [], .cons _ _, e, _, _, _ => by cases e
  | _, _, n :: ns, .cons x r, e, S, ρ, h' => by
    simp only [List.map_cons, List.cons.injEq] at e
    obtain ⟨rfl, e⟩ := e
    cases x
    exact .cons (.int _ _) (ints_of_well r e S ρ h')
open PySem PyProof.Rows PySem.SeqAt PySem.W
theorem law_good {c : ClaimW} {cl : Str → Option Addr} {mean : ExcName → Option Value} {args : List WData} {s₁ s' : Shared} (hr : ∀ cls, c.raises args cls = false) (hp : c.post args (.bool true) args = true) (hk : Kp s₁.heap s'.heap) (hos : s'.os = s₁.os) (hg : s'.gens = #[]) :
    GoodWG c cl mean args s₁ (.ok (.ret (.bool true))) s' :=
  GoodW.toG ⟨.inl ⟨_, .bool true, [], rfl, hr, .bool true, hp, fun _ => ⟨List.nodup_nil, fun _ h => nomatch h⟩⟩, hk, hos, hg⟩

theorem ofPy_ints : ∀ (ns : List Int), ofPys (ns.map PyData.int) = ns.map WData.int
  | [] => rfl
  | n :: r => by simp [ofPys, ofPy, ofPy_ints r]
open PySem PyProof.Rows PySem.SeqAt

noncomputable def six : List Str := ["BadStrip", "BadOrder", "NoFold", "NothingDone", "TooMany", "BadText"]
noncomputable def adOf (mg : Str → Option Value) (x : Str) : Addr := match mg x with
  | some (.ref a) => a
  | _ => 0
noncomputable def own6 (mg : Str → Option Value) (t : Str) (c : Addr) : Option Bool :=
  if c ∈ six.map (adOf mg) then (if t = "ValueError" then some true else if t ∈ six then some (decide (adOf mg t = c)) else none) else none
noncomputable def quietC (h : Heap) (name : Str) : Bool := match h.clsAt mainGlobals name with
  | some (_, _, cd) => qn.all fun n => (h.nsMap cd.ns n).isNone
  | none => false
/-- the test of the classes, at the module's end -/
noncomputable def clsT (h : Heap) : Bool :=
  (six.all fun x => h.ownExcOk x ["FoldError"] veMro "ValueError.__new__" && quietC h x) && (h.ownExcOk "FoldError" [] veMro "ValueError.__new__" && quietC h "FoldError") && decide ((("FoldError" : Str) :: six).map (adOf (h.nsMap mainGlobals))).Nodup
/-- the classes -/
structure Cls6 (mg : Str → Option Value) (h : Heap) : Prop where
  at6 : ∀ x ∈ six, mg x = some (.ref (adOf mg x)) ∧ XCls h (adOf mg x) (adOf mg "FoldError")
  sup : mg "FoldError" = some (.ref (adOf mg "FoldError"))
  nd : ((("FoldError" : Str) :: six).map (adOf mg)).Nodup
theorem Cls6.keeps {mg : Str → Option Value} {h h' : Heap} (x : Cls6 mg h) (k : ∀ b o, h.get? b = some o → h'.get? b = some o) : Cls6 mg h' := ⟨fun y hy => ⟨(x.at6 y hy).1, (x.at6 y hy).2.keeps k⟩, x.sup, x.nd⟩
theorem cls_of_ok {h : Heap} {name : Str} {chain : List Str} (x : h.ownExcOk name chain veMro "ValueError.__new__" = true) (y : quietC h name = true) :
    h.nsMap mainGlobals name = some (.ref (adOf (h.nsMap mainGlobals) name)) ∧ XObj h (adOf (h.nsMap mainGlobals) name) ((chain.map fun n => (h.nsMap mainGlobals n).getD .none) ++ veMro) := by
  obtain ⟨C, N, nm, q, bs, hdct, sn, sub, ab, col, dd, k0, k1, k2, k3, k5, hb, hC, hN, _⟩ := Heap.ownExc_of_ok x
  have ea : adOf (h.nsMap mainGlobals) name = C := by unfold adOf; rw [hb]
  rw [ea]
  refine ⟨hb, _, N, _, hC, ⟨nm, q, bs, hdct, sn, sub, ab, col, dd, k0, k1, k2, k3, k5, rfl⟩, hN, fun n hn => ?_⟩
  unfold quietC at y
  cases hf : h.clsAt mainGlobals name with
  | none => rw [hf] at y; cases y
  | some z =>
    obtain ⟨C', o', cd'⟩ := z
    rw [hf] at y
    obtain ⟨hn', ho', hd'⟩ := Heap.clsAt_spec hf
    rw [hb] at hn'
    obtain rfl : C = C' := by injection hn' with q1; injection q1
    rw [hC] at ho'
    obtain rfl := Option.some.inj ho'
    obtain rfl : _ = cd' := by injection hd'
    exact Option.isNone_iff_eq_none.mp (List.all_eq_true.mp y n hn)
theorem Cls6.of {h : Heap} (e : clsT h = true) : Cls6 (h.nsMap mainGlobals) h := by
  unfold clsT at e
  simp only [Bool.and_eq_true, List.all_eq_true, decide_eq_true_eq] at e
  obtain ⟨⟨e1, e2, e3⟩, e4⟩ := e
  obtain ⟨s1, s2⟩ := cls_of_ok e2 e3
  refine ⟨fun x hx => ?_, s1, e4⟩
  obtain ⟨a1, a2⟩ := cls_of_ok (e1 x hx).1 (e1 x hx).2
  rw [show (((["FoldError"] : List Str).map fun n => (h.nsMap mainGlobals n).getD .none) ++ veMro) = .ref (adOf (h.nsMap mainGlobals) "FoldError") :: veMro from by show (h.nsMap mainGlobals "FoldError").getD .none :: veMro = _; rw [s1]; rfl] at a2
  exact ⟨a1, a2, s2⟩
/-- no name of the module hides ValueError -/
noncomputable def veFree (p : Program) (loose : List Str) : Bool :=
  !startupNames.contains ("ValueError" : Str) && !loose.contains ("ValueError" : Str) && !((recsOf p).map (·.name)).contains ("ValueError" : Str) && !((litsOf p).map (·.1)).contains ("ValueError" : Str) && !((clssOf p loose).map (·.name)).contains ("ValueError" : Str)
theorem ve_boot : bootBuiltins "ValueError" = some (.type "ValueError") := by decide +kernel
theorem ve_of {p : Program} {loose : List Str} {mean : ExcName → Option Value} {mg mb : Str → Option Value} {h : Heap} (T : Top p loose mean mg mb h) (hb : veFree p loose = true) : mg "ValueError" = none ∧ mb "ValueError" = some (.type "ValueError") := by
  unfold veFree at hb
  simp only [Bool.and_eq_true, Bool.not_eq_true', List.contains_eq_mem, decide_eq_false_iff_not] at hb
  obtain ⟨⟨⟨⟨a1, a2⟩, a3⟩, a4⟩, a5⟩ := hb
  exact ⟨T.free _ a1 a2 a3 a4 a5, (T.builtins _ (by decide)).trans ve_boot⟩
/-- isinstance, as the classes are -/
theorem own_of {P : PC} {h : Heap} (X : Cls6 P.mg h) (hv : P.mg "ValueError" = none ∧ P.mb "ValueError" = some (.type "ValueError")) (hs : P.sup = adOf P.mg "FoldError") : ∀ t c b, own6 P.mg t c = some b → OwnIs P h t c b := by
  intro t c b e
  unfold own6 at e
  split at e
  · rename_i hc
    obtain ⟨y, hy, rfl⟩ := List.mem_map.mp hc
    unfold OwnIs
    rw [hs]
    refine ⟨(X.at6 y hy).2, ?_⟩
    split at e
    · rename_i ht
      subst ht
      cases e
      exact .inl ⟨hv.1, hv.2, rfl⟩
    · split at e
      · rename_i ht
        cases e
        by_cases hd : adOf P.mg t = adOf P.mg y
        · refine .inr (.inl ⟨by rw [(X.at6 t ht).1, hd], decide_eq_true hd⟩)
        · refine .inr (.inr ⟨adOf P.mg t, (X.at6 t ht).1, (X.at6 t ht).2, fun q => hd q.symm, fun q => ?_, decide_eq_false hd⟩)
          have := X.nd
          rw [List.map_cons, List.nodup_cons] at this
          exact this.1 (q ▸ List.mem_map.mpr ⟨t, ht, rfl⟩)
      · cases e
  · cases e
theorem ad_ne {mg : Str → Option Value} {h : Heap} (X : Cls6 mg h) {i j : Nat} {x y : Str} (hx : six[i]? = some x) (hy : six[j]? = some y) (hn : i ≠ j) : adOf mg x ≠ adOf mg y := fun q => by
  have := X.nd
  rw [List.map_cons, List.nodup_cons] at this
  have h1 : (six.map (adOf mg))[i]? = some (adOf mg x) := by rw [List.getElem?_map, hx]; rfl
  have h2 : (six.map (adOf mg))[j]? = some (adOf mg x) := by rw [List.getElem?_map, hy, q]; rfl
  exact hn (List.getElem?_inj (List.getElem?_eq_some_iff.mp h1).1 this.2 |>.mp (h1.trans h2.symm))
/-- what isinstance finds of an object of the i-th class -/
theorem own6_is {mg : Str → Option Value} {h : Heap} (X : Cls6 mg h) {i j : Nat} {x y : Str} (hx : six[i]? = some x) (hy : six[j]? = some y) : own6 mg x (adOf mg y) = some (decide (i = j)) := by
  have mx := List.mem_of_getElem? hx
  have my := List.mem_of_getElem? hy
  unfold own6
  rw [if_pos (List.mem_map.mpr ⟨y, my, rfl⟩), if_neg (fun q => by subst q; exact absurd mx (by decide)), if_pos mx]
  congr 1
  by_cases hn : i = j
  · subst hn
    rw [hx] at hy; cases hy
    simp
  · rw [decide_eq_false hn, decide_eq_false (ad_ne X hx hy hn)]
theorem own6_ve {mg : Str → Option Value} {j : Nat} {y : Str} (hy : six[j]? = some y) : own6 mg "ValueError" (adOf mg y) = some true := by
  unfold own6
  rw [if_pos (List.mem_map.mpr ⟨y, List.mem_of_getElem? hy, rfl⟩), if_pos rfl]

open PySem PyProof.Rows PySem.SeqAt

/-- a call's result may get new numbers -/
theorem CallJ.ren {P : PC} {l : Lv} {f : Nat} {vs : List AV} {Q : AV → AH → Prop} {X : Str → Prop} (h : CallJ P l f vs (fun v H => ∃ φ H' v', RenH φ H H' ∧ Ren φ H v v' ∧ Q v' H') X) : CallJ P l f vs Q X := by
  intro A s S xs x a h1 h2 h3 h4 h5 h6 h7 h8
  refine codeAny_mono (h A s S xs x a h1 h2 h3 h4 h5 h6 h7 h8) fun r s' hr => ?_
  cases r with
  | ok fl =>
    obtain ⟨rv, h', tk, ρ, v, Hc, e1, e2, k, fr, Z, V, φ, H', v', R, r, q⟩ := hr
    refine ⟨rv, h', tk, pick ρ φ, v', H', e1, e2, k, fun a ha => ?_, Z.ren R, VRel.ren' Z R.dom r V, q⟩
    obtain ⟨j, _, e⟩ := pick_mem ha
    exact fr a (List.mem_of_getElem? e)
  | error e => exact hr

theorem RenH.nil {H : AH} : RenH [] H [] := ⟨rfl, List.nodup_nil, fun _ h => (by cases h), fun i j xs e => by simp at e⟩
theorem RenH.two {H : AH} {a b : Nat} {xs xs' ys ys' : List AV} (ha : H[a]? = some xs) (hb : H[b]? = some ys) (hne : a ≠ b) (rx : Rens [a, b] H xs xs') (ry : Rens [a, b] H ys ys') : RenH [a, b] H [xs', ys'] := by
  refine ⟨rfl, by simpa using hne, fun j hj => ?_, fun i j ws e e' => ?_⟩
  · simp at hj
    rcases hj with rfl | rfl
    · exact (List.getElem?_eq_some_iff.mp ha).1
    · exact (List.getElem?_eq_some_iff.mp hb).1
  · match i, e with
    | 0, e => simp at e; subst e; rw [ha] at e'; cases e'; exact ⟨_, rfl, rx⟩
    | 1, e => simp at e; subst e; rw [hb] at e'; cases e'; exact ⟨_, rfl, ry⟩
    | i + 2, e => simp at e
@[simp] theorem shifts_ints (k : Nat) (l : List Int) : AV.shifts k (l.map AV.int) = l.map AV.int := by
  induction l with
  | nil => rfl
  | cons x r ih => simp [shs_nil, shs_cons, sh_none, sh_bool, sh_int, sh_str, sh_ref, sh_tup, sh_fl, ih]
@[simp] theorem shifts_strs (k : Nat) (l : List Str) : AV.shifts k (l.map AV.str) = l.map AV.str := by
  induction l with
  | nil => rfl
  | cons x r ih => simp [shs_nil, shs_cons, sh_none, sh_bool, sh_int, sh_str, sh_ref, sh_tup, sh_fl, ih]

/-- a call whose arguments have no lists that may change -/
theorem CallP.plain {P : PC} {l : Lv} {f : Nat} {vs : List AV} {H : AH} {Q : AV → AH → Prop} {X : Str → Prop} {R : AV → AH → Prop} (hr : Rens [] H vs vs) (h : CallJ P l f vs R X) (hq : ∀ v Hc, R v Hc → Q (v.shift H.length) (H ++ Hc.map (AV.shifts H.length))) : CallP P l f vs H Q X :=
  ⟨vs, hr, h.mono fun v Hc q => ⟨.inl rfl, hq v Hc q⟩⟩
theorem CallP.frz {P : PC} {l : Lv} {f : Nat} {vs vs' : List AV} {H : AH} {Q : AV → AH → Prop} {X : Str → Prop} {R : AV → AH → Prop} (hr : Rens [] H vs vs') (h : CallJ P l f vs' R X) (hn : ∀ v Hc, R v Hc → NoFl v ∧ ∀ xs ∈ Hc, NoFls xs) (hq : ∀ v Hc, R v Hc → Q (v.shift H.length) (H ++ Hc.map (AV.shifts H.length))) : CallP P l f vs H Q X :=
  ⟨vs', hr, h.mono fun v Hc q => ⟨.inr (hn v Hc q), hq v Hc q⟩⟩

theorem idx_in {xs : List AV} {k : Int} (h0 : 0 ≤ k) (h1 : k < xs.length) : seqIndex? k xs.length = some k.toNat := by
  unfold seqIndex?
  simp
  omega

/-- what each def of a law must be -/
noncomputable def FnIs (P : PC) (f : Nat) (ps rest : List Str) (cs : List CS) : Prop :=
  ∃ x d n, P.nt.fns[f]? = some x ∧ P.defs[f]? = some d ∧ defOk d.scope ps rest = true ∧ allSome (d.body.map (compS P.nt n (fun x => d.scope.names.lookup x) (ps ++ rest))) = some cs ∧
    ∀ xs pm code doc, xs.length = ps.length → bindArgs (Calls.docDef d.name d.params d.body d.scope pm code doc) ⟨xs, []⟩ = pure (ps.zip xs)
theorem FnIs.call {P : PC} {l : Lv} {f : Nat} {ps rest : List Str} {cs : List CS} {vs : List AV} {Q : AV → AH → Prop} {X : Str → Prop} (F : FnIs P f ps rest cs) (hk : 0 < l.k) (hl : vs.length = ps.length)
    (hw : wpSs P ⟨l.k - 1, l.q⟩ cs (vs.map some ++ List.replicate rest.length none) [] (fun _ H => Q .none H) Q (fun c _ _ => X c)) : CallJ P l f vs Q X := by
  obtain ⟨x, d, n, h1, h2, h3, h4, h5⟩ := F
  exact CallJ.of_body h1 h2 hk h5 h3 h4 hl hw

-- the defs that the laws share

section
variable {H : AH} {Q : AV → AH → Prop} {i j k : Int} {x y : Str} {a b : AV} {u v : List AV} {m n : Nat} {p q : Bool}
theorem b_add : opBin .Add (.int i) (.int j) H Q = (Q (.int (i + j)) H) := rfl
theorem b_sub : opBin .Sub (.int i) (.int j) H Q = (Q (.int (i - j)) H) := rfl
theorem b_mul : opBin .Mult (.int i) (.int j) H Q = ((j.natAbs < 2 ^ 60 ∨ i.natAbs < 2 ^ 60) ∧ Q (.int (i * j)) H) := rfl
theorem b_div : opBin .FloorDiv (.int i) (.int j) H Q = ((0 < j ∧ j < 1000000000) ∧ Q (.int (i / j)) H) := rfl
theorem b_mod : opBin .Mod (.int i) (.int j) H Q = (0 < j ∧ Q (.int (i % j)) H) := rfl
theorem b_adds : opBin .Add (.str x) (.str y) H Q = (x.length + y.length ≤ smallN ∧ Q (.str (x ++ y)) H) := rfl
theorem b_rr : opBin .Add (.ref m) (.ref n) H Q = (opt (H[m]?) fun xs => opt (H[n]?) fun ys => xs.length + ys.length ≤ smallN ∧ Q (.ref H.length) (H ++ [xs ++ ys])) := rfl
theorem b_rf : opBin .Add (.ref m) (.fl v) H Q = (opt (H[m]?) fun xs => opt (some v) fun ys => xs.length + ys.length ≤ smallN ∧ Q (.ref H.length) (H ++ [xs ++ ys])) := rfl
theorem b_fr : opBin .Add (.fl u) (.ref n) H Q = (opt (some u) fun xs => opt (H[n]?) fun ys => xs.length + ys.length ≤ smallN ∧ Q (.ref H.length) (H ++ [xs ++ ys])) := rfl
theorem b_ff : opBin .Add (.fl u) (.fl v) H Q = (opt (some u) fun xs => opt (some v) fun ys => xs.length + ys.length ≤ smallN ∧ Q (.ref H.length) (H ++ [xs ++ ys])) := rfl
theorem b_rm : opBin .Mult (.ref m) (.int j) H Q = (opt (H[m]?) fun xs => (0 ≤ j ∧ xs.length * j.toNat ≤ smallN ∧ j ≤ smallN) ∧ Q (.ref H.length) (H ++ [(List.replicate j.toNat xs).flatten])) := rfl
theorem c_lt : opCmp .Lt (.int i) (.int j) H Q = (Q (.bool (decide (i < j))) H) := rfl
theorem c_le : opCmp .LtE (.int i) (.int j) H Q = (Q (.bool (decide (i ≤ j))) H) := rfl
theorem c_gt : opCmp .Gt (.int i) (.int j) H Q = (Q (.bool (decide (j < i))) H) := rfl
theorem c_ge : opCmp .GtE (.int i) (.int j) H Q = (Q (.bool (decide (j ≤ i))) H) := rfl
theorem c_eq : opCmp .Eq (.int i) (.int j) H Q = (Q (.bool (decide (i = j))) H) := rfl
theorem c_ne : opCmp .NotEq (.int i) (.int j) H Q = (Q (.bool (!decide (i = j))) H) := rfl
theorem c_isn : opCmp .Is a .none H Q = (Q (.bool (isNone a)) H) := rfl
theorem c_isnn : opCmp .IsNot a .none H Q = (Q (.bool (!isNone a)) H) := rfl
theorem p_len : opPrim .len [a] H Q = (opt (lenOf H a) fun n => n ≤ smallN ∧ Q (.int n) H) := rfl
theorem p_int : opPrim .int [.bool p] H Q = (Q (.int (if p then 1 else 0)) H) := rfl
theorem p_lr : opPrim .list [.rng i j k] H Q = (rngOk i j k ∧ Q (.ref H.length) (H ++ [(rngList i j k).map AV.int])) := rfl
theorem p_lref : opPrim .list [.ref m] H Q = (opt (H[m]?) fun xs => xs.length ≤ smallN ∧ Q (.ref H.length) (H ++ [xs])) := rfl
theorem p_lfl : opPrim .list [.fl v] H Q = (opt (some v) fun xs => xs.length ≤ smallN ∧ Q (.ref H.length) (H ++ [xs])) := rfl
theorem p_all : opPrim .all [a] H Q = (∃ bs : List Bool, a.items? H = some (bs.map AV.bool) ∧ Q (.bool (bs.all id)) H) := rfl
theorem p_r1 : opPrim .range [.int j] H Q = (rngOk 0 j 1 ∧ Q (.rng 0 j 1) H) := rfl
theorem p_r2 : opPrim .range [.int i, .int j] H Q = (rngOk i j 1 ∧ Q (.rng i j 1) H) := rfl
theorem p_r3 : opPrim .range [.int i, .int j, .int k] H Q = (rngOk i j k ∧ Q (.rng i j k) H) := rfl
theorem l_fl : lenOf H (.fl v) = some v.length := rfl
theorem l_tup : lenOf H (.tup v) = some v.length := rfl
theorem l_ref : lenOf H (.ref m) = (H[m]?).map List.length := rfl
theorem l_str : lenOf H (.str x) = some x.length := rfl
theorem s_fl : AV.seq? H (.fl v) = some v := rfl
theorem s_tup : AV.seq? H (.tup v) = some v := rfl
theorem s_ref : AV.seq? H (.ref m) = H[m]? := rfl
theorem t_fl : AV.items? H (.fl v) = some v := rfl
theorem t_ref : AV.items? H (.ref m) = H[m]? := rfl
theorem i_t20 : opIdx (.tup [a, b]) (.int 0) H Q = Q a H := rfl
theorem i_t21 : opIdx (.tup [a, b]) (.int 1) H Q = Q b H := rfl
/-- an int's place in a list -/
theorem i_is {o : AV} {vs : List AV} {w : AV} {j : Nat} (e : o.seq? H = some vs) (hl : vs.length ≤ smallN) (ej : seqIndex? k vs.length = some j) (ew : vs[j]? = some w) (h : Q w H) : opIdx o (.int k) H Q := by
  show opt (o.iseq? H) fun vs => opt (idxAt k vs) fun v => Q v H
  rw [iseq_is e]
  show opt (idxAt k vs) fun v => Q v H
  rw [idxAt_some hl ej ew]
  exact h
theorem i_at {o : AV} {vs : List AV} {w : AV} (e : o.seq? H = some vs) (hl : vs.length ≤ smallN) (h0 : 0 ≤ k) (h1 : k < vs.length) (ew : vs[k.toNat]? = some w) (h : Q w H) : opIdx o (.int k) H Q := i_is e hl (idx_in h0 h1) ew h
theorem i_atI {o : AV} {L : List Int} (e : o.seq? H = some (L.map AV.int)) (hl : L.length ≤ smallN) (h0 : 0 ≤ k) (h1 : k < L.length) (h : ∀ z, L[k.toNat]? = some z → Q (.int z) H) : opIdx o (.int k) H Q := by
  have hk : k.toNat < L.length := by omega
  exact i_at e (by rw [List.length_map]; exact hl) h0 (by rw [List.length_map]; exact h1) (w := .int L[k.toNat]) (by simp [hk]) (h _ (by simp [hk]))
theorem i_neg {o : AV} {vs : List AV} {w : AV} {d : Nat} (e : o.seq? H = some vs) (hl : vs.length ≤ smallN) (h0 : k = -(d : Int)) (h1 : 0 < d) (h2 : d ≤ vs.length) (ew : vs[vs.length - d]? = some w) (h : Q w H) : opIdx o (.int k) H Q := by
  refine i_is e hl ?_ ew h
  unfold seqIndex?
  subst h0
  simp
  omega
end
theorem wpSs_nil {P : PC} {l : Lv} {loc : Loc} {H : AH} {Qn : Loc → AH → Prop} {Qr : AV → AH → Prop} {Qx : Str → Loc → AH → Prop} : wpSs P l [] loc H Qn Qr Qx ↔ Qn loc H := Iff.rfl
theorem wpSs_cons {P : PC} {l : Lv} {c : CS} {r : List CS} {loc : Loc} {H : AH} {Qn : Loc → AH → Prop} {Qr : AV → AH → Prop} {Qx : Str → Loc → AH → Prop} : wpSs P l (c :: r) loc H Qn Qr Qx ↔ wpS P l c loc H (fun loc' H' => wpSs P l r loc' H' Qn Qr Qx) Qr Qx := Iff.rfl
theorem m_cnt {v : AV} {p : Prop} : onR .count v p = onL v p := rfl
theorem m_idx {v : AV} {p : Prop} : onR .index v p = onL v p := rfl
theorem m_spl {x : Str} {p : Prop} : onR .split (.str x) p = p := rfl
theorem m_joi {x : Str} {p : Prop} : onR .join (.str x) p = p := rfl
theorem m_get {ks : List Str} {vs : List AV} {p : Prop} : onR .get (.dict ks vs) p = p := rfl
theorem p_ist {x : Str} {H : AH} {Q : AV → AH → Prop} : opPrim .int [.str x] H Q = (x.length ≤ 640 ∧ opt (PySem.intText? x) fun i => Q (.int i) H) := rfl
theorem p_str {i : Int} {H : AH} {Q : AV → AH → Prop} : opPrim .str [.int i] H Q = (i.natAbs.log2 < 1920 ∧ Q (.str (numStr i)) H) := rfl
theorem c_in {x y : Str} {H : AH} {Q : AV → AH → Prop} : opCmp .In (.str x) (.str y) H Q = Q (.bool (strIn x y)) H := rfl
theorem c_nin {x y : Str} {H : AH} {Q : AV → AH → Prop} : opCmp .NotIn (.str x) (.str y) H Q = Q (.bool (!strIn x y)) H := rfl
theorem o_bool {b : Bool} {p : Bool → Prop} : onBool (.bool b) p = p b := rfl
theorem o_int {b : Int} {p : Int → Prop} : onInt (.int b) p = p b := rfl
theorem o_lfl {p : Prop} {u : List AV} : onL (.fl u) p = p := rfl
theorem o_lref {p : Prop} {n : Nat} : onL (.ref n) p = p := rfl
theorem r_int {p : Prop} {n : Int} : offRng (.int n) p = p := rfl
theorem r_bool {p : Prop} {n : Bool} : offRng (.bool n) p = p := rfl
theorem r_str {p : Prop} {n : Str} : offRng (.str n) p = p := rfl
theorem r_tup {p : Prop} {n : List AV} : offRng (.tup n) p = p := rfl
theorem r_fl {p : Prop} {n : List AV} : offRng (.fl n) p = p := rfl
theorem r_ref {p : Prop} {n : Nat} : offRng (.ref n) p = p := rfl
theorem r_none {p : Prop} : offRng .none p = p := rfl
theorem ite_t {a b : Prop} : (if true = true then a else b) = a := rfl
theorem ite_f {a b : Prop} : (if false = true then a else b) = b := rfl
theorem map_c {α β : Type} {f : α → β} {a : α} {l : List α} : List.map f (a :: l) = f a :: List.map f l := rfl
theorem map_n {α β : Type} {f : α → β} : List.map f [] = [] := rfl
theorem not_t : (!true) = false := rfl
theorem not_f : (!false) = true := rfl
/-- the two ways of a test -/
theorem brk {p : Prop} [Decidable p] {A B : Prop} (h1 : p → A) (h0 : ¬ p → B) : if decide p = true then A else B := by
  by_cases h : p
  · rw [decide_eq_true h]; exact h1 h
  · rw [decide_eq_false h]; exact h0 h
theorem brk_not {p : Prop} [Decidable p] {A B : Prop} (h1 : ¬ p → A) (h0 : p → B) : if (!decide p) = true then A else B := by
  by_cases h : p
  · rw [decide_eq_true h]; exact h0 h
  · rw [decide_eq_false h]; exact h1 h
local macro_rules | `(tactic| tm_at "wps") => do
  let ids : Array (Lean.TSyntax `ident) := ("o_bool o_int o_lfl o_lref r_int r_bool r_str r_tup r_fl r_ref r_none ite_t ite_f setAllO_nil setAllO_cons q_assign q_assignT q_setIdx q_mut q_popTo q_expr q_ite q_for1 q_forT q_while q_ret q_pass w_const w_var w_bin w_neg w_not w_and w_or w_cmp w_chain w_idx w_slc w_tup w_lst w_dct w_call w_prim w_isin w_isown w_meth w_comp w_nil w_cons w_t0 w_t1 b_add b_sub b_mul b_div b_mod b_adds b_rr b_rf b_fr b_ff b_rm c_lt c_le c_gt c_ge c_eq c_ne c_isn c_isnn p_len p_int p_ist p_str m_cnt m_idx m_spl m_joi m_get c_in c_nin q_try p_lr p_lref p_lfl p_all p_r1 p_r2 p_r3 l_fl l_tup l_ref l_str s_fl s_tup s_ref t_fl t_ref i_t20 i_t21 opt_some List.getElem?_cons_zero List.getElem?_cons_succ Option.join_some Option.map_some List.set_cons_zero List.set_cons_succ map_c map_n List.cons_append List.nil_append List.replicate_zero List.replicate_succ List.length_nil List.length_cons Nat.reduceAdd Nat.zero_add Int.reduceNeg not_t not_f".splitOn " ").toArray.map fun x => Lean.mkIdent x.toName
  `(tactic| try dsimp only [$[$ids:ident],*])
noncomputable def cs_cell_at : List CS := [
  .ite (.cmp .Lt (.var 1) (.prim .len [(.var 0)]))
    [.ret (.bin .Mod (.bin .Add (.bin .Mult (.idx (.var 0) (.var 1)) (.const (.int (48271)))) (.bin .Mult (.const (.int (7919))) (.var 1))) (.const (.int (2147483647))))]
    [],
  .ret (.const (.int (0)))]
noncomputable def IsCell (v : AV) (H : AH) : Prop := H = [] ∧ ∃ c : Int, v = .int c ∧ 0 ≤ c ∧ c < 2147483647
theorem cell_at_ok {P : PC} {l : Lv} {f : Nat} {ps rest : List Str} {X : Str → Prop} (F : FnIs P f ps rest cs_cell_at) (hp : ps.length = 2) (hr : rest.length = 0) (hk : 0 < l.k) (hq : l.q = true) {ns : List Int} (hn : ns.length ≤ 63) {k : Int} (h0 : 0 ≤ k) (h1 : k < 100000) :
    CallJ P l f [.fl (ns.map AV.int), .int k] IsCell X := by
  have er : rest = [] := List.length_eq_zero_iff.mp hr
  subst er
  refine F.call hk (by simp [hp]) ?_
  unfold cs_cell_at
  (refine wpSs_cons.mpr ?_; tm_at "wps")
  refine ⟨fun loc H => loc = [some (.fl (ns.map AV.int)), some (.int k)] ∧ H = [], ?_, ?_⟩
  · rintro loc H ⟨rfl, rfl⟩
    (refine wpSs_cons.mpr ?_; tm_at "wps")
    exact ⟨rfl, 0, rfl, by decide, by decide⟩
  refine ⟨hq, Nat.le_trans (Nat.le_of_eq (List.length_map _)) (Nat.le_trans hn (by decide)), brk (fun hh => ?_) fun _ => Cut.here ⟨rfl, rfl⟩⟩
  rw [List.length_map] at hh
  (refine wpSs_cons.mpr ?_; tm_at "wps")
  refine i_atI (L := ns) rfl (Nat.le_trans hn (by decide)) h0 hh fun z _ => ?_
  tm_at "wps"
  exact ⟨.inl (by decide), .inr (by decide), by decide, rfl, _, rfl, Int.emod_nonneg _ (by decide), Int.emod_lt_of_pos _ (by decide)⟩

open PySem PyProof.Rows PySem.SeqAt
theorem pick_run {α : Type} (xs : List α) (a : Nat) : ∀ m : Nat, ((List.range m).map (a + ·)).filterMap (xs[·]?) = (xs.drop a).take m
  | 0 => by simp
  | m + 1 => by
    rw [List.range_succ, List.map_append, List.filterMap_append, pick_run xs a m, List.take_succ]
    congr 1
    simp only [List.map_cons, List.map_nil, List.filterMap_cons, List.filterMap_nil, List.getElem?_drop]
    cases xs[a + m]? <;> rfl
theorem slPick_plain {α : Type} (xs : List α) (lo hi : Option Int) : slPick xs lo hi none = (xs.drop (lo.elim 0 (clipAt xs.length))).take (hi.elim xs.length (clipAt xs.length) - lo.elim 0 (clipAt xs.length)) := by
  unfold slPick
  rw [sliceBounds_plain]
  simp only
  rw [sliceRange_one, pick_run]
theorem clip_nat (n k : Nat) : clipAt n (k : Int) = min k n := by
  unfold clipAt
  split <;> omega
theorem slPick_upto {α : Type} (xs : List α) {k : Int} (h0 : 0 ≤ k) : slPick xs none (some k) none = xs.take k.toNat := by
  obtain ⟨j, rfl⟩ := Int.eq_ofNat_of_zero_le h0
  rw [slPick_plain]
  simp only [Option.elim_none, Option.elim_some, Int.ofNat_eq_natCast, List.drop_zero, Nat.sub_zero, Int.toNat_natCast]
  rw [clip_nat, List.take_eq_take_iff]
  omega
theorem slPick_from {α : Type} (xs : List α) {k : Int} (h0 : 0 ≤ k) : slPick xs (some k) none none = xs.drop k.toNat := by
  obtain ⟨j, rfl⟩ := Int.eq_ofNat_of_zero_le h0
  rw [slPick_plain]
  simp only [Option.elim_none, Option.elim_some, Int.ofNat_eq_natCast, Int.toNat_natCast]
  rw [clip_nat]
  by_cases h : j ≤ xs.length
  · rw [Nat.min_eq_left h, List.take_of_length_le]
    simp
  · rw [Nat.min_eq_right (by omega), List.drop_of_length_le (Nat.le_refl _), List.drop_of_length_le (by omega), List.take_nil]
open PySem PyProof.Rows PySem.SeqAt
section
variable {H : AH} {Q : AV → AH → Prop} {o : AV} {vs : List AV} {i k : Int}
theorem sl_upto (e : o.items? H = some vs) (hl : vs.length ≤ smallN) (h0 : 0 ≤ k) (h : Q (.ref H.length) (H ++ [vs.take k.toNat])) : opSlc o .none (.int k) .none H Q :=
  opSlc_l e ⟨vs, none, some k, none, e, hl, rfl, rfl, rfl, by simp, by rw [slPick_upto vs h0]; exact h⟩
theorem sl_from (e : o.items? H = some vs) (hl : vs.length ≤ smallN) (h0 : 0 ≤ k) (h : Q (.ref H.length) (H ++ [vs.drop k.toNat])) : opSlc o (.int k) .none .none H Q :=
  opSlc_l e ⟨vs, some k, none, none, e, hl, rfl, rfl, rfl, by simp, by rw [slPick_from vs h0]; exact h⟩
end

open PySem PyProof.Rows PySem.SeqAt

theorem i_any {H : AH} {Q : AV → AH → Prop} {k : Int} {o : AV} {vs : List AV} (e : o.seq? H = some vs) (hl : vs.length ≤ smallN) (h0 : 0 ≤ k) (h1 : k < vs.length) (h : ∀ w ∈ vs, Q w H) : opIdx o (.int k) H Q := by
  have hk : k.toNat < vs.length := by omega
  exact i_at e hl h0 h1 (w := vs[k.toNat]) (by simp [hk]) (h _ (List.getElem_mem hk))
theorem call_cell {P : PC} {l : Lv} {f : Nat} {H : AH} {Q : AV → AH → Prop} {X : Str → Prop} {ns : List Int} {k : Int} (hc : ∀ k : Int, 0 ≤ k → k < 100000 → CallJ P l f [.fl (ns.map AV.int), .int k] IsCell X) (h0 : 0 ≤ k) (h1 : k < 100000) (h : ∀ c : Int, 0 ≤ c → c < 2147483647 → Q (.int c) H) : CallP P l f [.fl (ns.map AV.int), .int k] H Q X := by
  refine CallP.plain (.cons (.fl (Rens.ints ns)) (.cons (.int k) .nil)) (hc k h0 h1) fun v Hc q => ?_
  obtain ⟨rfl, c, rfl, h2, h3⟩ := q
  simpa [sh_none, sh_bool, sh_int, sh_str, sh_ref, sh_tup, sh_fl] using h c h2 h3
theorem i_last {H : AH} {Q : AV → AH → Prop} {o : AV} {L : List Int} (e : o.seq? H = some (L.map AV.int)) (hl : L.length ≤ smallN) (h0 : 0 < L.length) (h : ∀ z ∈ L, Q (.int z) H) : opIdx o (.int (-1)) H Q := by
  refine i_neg (d := 1) e (by rw [List.length_map]; exact hl) rfl (by decide) (by rw [List.length_map]; exact h0) (w := .int (L[L.length - 1]'(by omega))) (by rw [List.length_map, List.getElem?_map, List.getElem?_eq_getElem (by omega)]; rfl) (h _ (List.getElem_mem _))
theorem rngList1 (a b : Int) : rngList a b 1 = (List.range (b - a).toNat).map fun (i : Nat) => a + (i : Int) := by
  have e : (Builtin.Range.rangeSize a b 1).toNat = (b - a).toNat := by
    unfold Builtin.Range.rangeSize
    split <;> omega
  unfold rngList
  rw [e]
  simp
theorem rngList1_len (a b : Int) : (rngList a b 1).length = (b - a).toNat := by rw [rngList1]; simp
theorem rngList1_get {a b : Int} {k : Nat} {u : AV} (e : ((rngList a b 1).map AV.int)[k]? = some u) : u = .int (a + (k : Int)) ∧ (k : Int) < b - a := by
  rw [rngList1] at e
  simp only [List.map_map, List.getElem?_map, Option.map_eq_some_iff, List.getElem?_range] at e
  obtain ⟨j, ⟨h1, rfl⟩, rfl⟩ := by
    simpa [List.getElem?_eq_some_iff] using e
  exact ⟨rfl, by omega⟩
theorem m_ins0 {H : AH} {xs : List AV} {v : AV} (h : xs.length < smallN) : opMut H .insert xs [.int 0, v] = some (v :: xs) := by
  simp [opMut, mut2, h, insAt]
theorem m_app {H : AH} {xs : List AV} {v : AV} (h : xs.length < smallN) : opMut H .append xs [v] = some (xs ++ [v]) := by
  simp [opMut, mut1, h]
noncomputable def Mk (x : Str) : Prop := x = "hill" ∨ x = "valley"

theorem cat_le {A B : List AV} {m n : Nat} (h1 : A.length ≤ m) (h2 : B.length ≤ n) (h : m + n ≤ smallN) : A.length + B.length ≤ smallN := Nat.le_trans (Nat.add_le_add h1 h2) h
theorem cat_n {A : List AV} {m n : Nat} (h1 : A.length ≤ m) (h : m + n ≤ smallN) : A.length + n ≤ smallN := Nat.le_trans (Nat.add_le_add_right h1 n) h
theorem app_le {A B : List AV} {m n : Nat} (h1 : A.length ≤ m) (h2 : B.length ≤ n) : (A ++ B).length ≤ m + n := by rw [List.length_append]; exact Nat.add_le_add h1 h2
theorem take_le {A : List AV} {m k : Nat} (h : A.length ≤ m) : (A.take k).length ≤ m := by rw [List.length_take]; exact Nat.le_trans (Nat.min_le_right _ _) h
theorem drop_le {A : List AV} {m k : Nat} (h : A.length ≤ m) : (A.drop k).length ≤ m := by rw [List.length_drop]; exact Nat.le_trans (Nat.sub_le _ _) h

noncomputable def csA : List CS := [
  .mut .insert (.var 3) [(.const (.int (0))), (.bin .Add (.const (.int (1))) (.bin .Mod (.bin .FloorDiv (.var 6) (.const (.int (6)))) (.idx (.var 3) (.const (.int (0))))))],
  .mut .insert (.var 4) [(.const (.int (0))), (.var 7)]]
noncomputable def csB : List CS := [
  .mut .append (.var 3) [(.bin .Add (.const (.int (1))) (.bin .Mod (.bin .FloorDiv (.var 6) (.const (.int (6)))) (.idx (.var 3) (.neg (.const (.int (1)))))))],
  .mut .append (.var 4) [(.var 7)]]
noncomputable def csC : List CS := [
  .assign 8 (.bin .Mod (.bin .FloorDiv (.var 6) (.const (.int (6)))) (.prim .len [(.var 3)])),
  .assign 9 (.bin .Mod (.bin .FloorDiv (.var 6) (.const (.int (60)))) (.idx (.var 3) (.var 8))),
  .assign 10 (.bin .Add (.const (.int (1))) (.bin .Mod (.bin .FloorDiv (.var 6) (.const (.int (420)))) (.bin .Sub (.idx (.var 3) (.var 8)) (.var 9)))),
  .assign 3 (.bin .Add (.bin .Add (.slc (.var 3) (.const .none) (.var 8) (.const .none)) (.lst [(.bin .Add (.var 10) (.var 9)), (.var 10), (.bin .Sub (.idx (.var 3) (.var 8)) (.var 9))])) (.slc (.var 3) (.bin .Add (.var 8) (.const (.int (1)))) (.const .none) (.const .none))),
  .assign 4 (.bin .Add (.bin .Add (.slc (.var 4) (.const .none) (.var 8) (.const .none)) (.lst [(.var 7), (.idx (.lst [(.const (.str "valley")), (.const (.str "hill"))]) (.bin .Mod (.bin .FloorDiv (.var 6) (.const (.int (3)))) (.const (.int (2)))))])) (.slc (.var 4) (.var 8) (.const .none) (.const .none)))]
noncomputable def csL : List CS := [.ite (.cmp .Lt (.prim .len [(.var 3)]) (.const (.int (29)))) csC []]
noncomputable def csM : List CS := [.ite (.and (.cmp .Eq (.bin .Mod (.var 6) (.const (.int (3)))) (.const (.int (1)))) (.cmp .Lt (.prim .len [(.var 3)]) (.const (.int (30))))) csB csL]
noncomputable def csN : List CS := [.ite (.and (.cmp .Eq (.bin .Mod (.var 6) (.const (.int (3)))) (.const (.int (0)))) (.cmp .Lt (.prim .len [(.var 3)]) (.const (.int (30))))) csA csM]
noncomputable def csBody (fc : Nat) : List CS :=
  .assign 6 (.bin .Add (.call fc [(.var 0), (.bin .Add (.bin .Add (.var 1) (.const (.int (1)))) (.bin .Mod (.var 5) (.const (.int (12)))))]) (.bin .Mult (.const (.int (31))) (.var 5))) ::
  .assign 7 (.idx (.lst [(.const (.str "hill")), (.const (.str "valley"))]) (.bin .Mod (.bin .FloorDiv (.var 6) (.const (.int (3)))) (.const (.int (2))))) :: csN
noncomputable def cs_unfolded (fc : Nat) : List CS := [
  .assign 3 (.lst [(.bin .Add (.const (.int (1))) (.bin .Mod (.call fc [(.var 0), (.var 1)]) (.const (.int (9)))))]),
  .assign 4 (.lst []),
  .for1 5 (.prim .range [(.var 2)]) (csBody fc),
  .ret (.tup [(.var 3), (.var 4)])]

/-- a strip's lists -/
structure StripIs (top : Int) (ns : List Int) (ms : List Str) : Prop where
  len : ns.length = ms.length + 1
  most : ns.length ≤ 30
  nums : ∀ n ∈ ns, 1 ≤ n ∧ n ≤ top
  marks : ∀ m ∈ ms, Mk m
/-- a strip is given back -/
noncomputable def GivesStrip (top : Int) (v : AV) (H : AH) : Prop := ∃ ns ms, StripIs top ns ms ∧ v = .tup [.ref 0, .ref 1] ∧ H = [ns.map AV.int, ms.map AV.str]

/-- the state behind a turn -/
noncomputable def UR (sc : List Int) (first many : Int) (loc : Loc) (H : AH) : Prop := ∃ ns ms, StripIs 9 ns ms ∧ loc = [some (.fl (sc.map AV.int)), some (.int first), some (.int many), some (.ref 0), some (.ref 1), none, none, none, none, none, none, some (.rng 0 many 1)] ∧ H = [ns.map AV.int, ms.map AV.str]
noncomputable def UI (sc : List Int) (first many : Int) (loc : Loc) (H : AH) : Prop := ∃ ns ms, StripIs 9 ns ms ∧ loc = [some (.fl (sc.map AV.int)), some (.int first), some (.int many), some (.ref 0), some (.ref 1), none, none, none, none, none, none] ∧ H = [ns.map AV.int, ms.map AV.str]
theorem UR.cut {sc : List Int} {first many : Int} {a b : Nat} {o5 o6 o7 o8 o9 o10 : Option AV} {H : AH} {ns : List Int} {ms : List Str} (hS : StripIs 9 ns ms) (ha : H[a]? = some (ns.map AV.int)) (hb : H[b]? = some (ms.map AV.str)) (hne : a ≠ b) :
    Cut (UR sc first many) [some (.fl (sc.map AV.int)), some (.int first), some (.int many), some (.ref a), some (.ref b), o5, o6, o7, o8, o9, o10, some (.rng 0 many 1)] H := by
  refine ⟨_, _, .inr ⟨[a, b], RenH.two ha hb hne (Rens.ints ns) (Rens.strs ms), ?_⟩, ns, ms, hS, rfl, rfl⟩
  exact .keep (.fl (Rens.ints sc)) (.keep (.int _) (.keep (.int _) (.keep (.ref rfl) (.keep (.ref rfl) (.drop (.drop (.drop (.drop (.drop (.drop (.keep (.rng _ _ _) .nil)))))))))))
noncomputable def uL (sc : List Int) (first many k C : Int) (mk : Str) : Loc := [some (.fl (sc.map AV.int)), some (.int first), some (.int many), some (.ref 0), some (.ref 1), some (.int k), some (.int C), some (.str mk), none, none, none, some (.rng 0 many 1)]
noncomputable def uH (ns : List Int) (ms : List Str) : AH := [ns.map AV.int, ms.map AV.str, [.str "hill", .str "valley"]]
section
variable {ns : List Int} {ms : List Str}
theorem StripIs.pos {top : Int} (h : StripIs top ns ms) : (0 : Int) < ns.length := by rw [h.len]; exact Int.natCast_pos.mpr (Nat.succ_pos _)
theorem StripIs.small {top : Int} (h : StripIs top ns ms) : ns.length < smallN := Nat.lt_of_le_of_lt h.most (by decide)
theorem StripIs.lm {top : Int} (h : StripIs top ns ms) : ms.length < 30 := by have := h.len; have := h.most; omega
theorem StripIs.small2 {top : Int} (h : StripIs top ns ms) : ms.length < smallN := Nat.lt_trans h.lm (by decide)
theorem mapI_le {n : Nat} (h : ns.length ≤ n) : (ns.map AV.int).length ≤ n := by rw [List.length_map]; exact h
theorem mapS_le {n : Nat} (h : ms.length ≤ n) : (ms.map AV.str).length ≤ n := by rw [List.length_map]; exact h
theorem mapI_lt {n : Nat} (h : ns.length < n) : (ns.map AV.int).length < n := by rw [List.length_map]; exact h
theorem mapS_lt {n : Nat} (h : ms.length < n) : (ms.map AV.str).length < n := by rw [List.length_map]; exact h
theorem StripIs.nine {z C : Int} (h : StripIs 9 ns ms) (hz : z ∈ ns) : 1 ≤ 1 + C % z ∧ 1 + C % z ≤ 9 := by
  have h1 := h.nums z hz
  have h2 := Int.emod_nonneg C (b := z) (by omega)
  have h3 := Int.emod_lt_of_pos C (b := z) (by omega)
  omega
theorem StripIs.consA {z C : Int} {mk : Str} (h : StripIs 9 ns ms) (hz : z ∈ ns) (hm : Mk mk) (hl : ns.length < 30) : StripIs 9 ((1 + C % z) :: ns) (mk :: ms) :=
  ⟨congrArg (· + 1) h.len, hl, fun n hn => (List.mem_cons.mp hn).elim (fun e => e ▸ h.nine hz) (h.nums n), fun m hn => (List.mem_cons.mp hn).elim (fun e => e ▸ hm) (h.marks m)⟩
theorem StripIs.snocB {z C : Int} {mk : Str} (h : StripIs 9 ns ms) (hz : z ∈ ns) (hm : Mk mk) (hl : ns.length < 30) : StripIs 9 (ns ++ [1 + C % z]) (ms ++ [mk]) := by
  refine ⟨?_, ?_, fun n hn => (List.mem_append.mp hn).elim (h.nums n) fun e => List.mem_singleton.mp e ▸ h.nine hz, fun m hn => (List.mem_append.mp hn).elim (h.marks m) fun e => List.mem_singleton.mp e ▸ hm⟩
  · rw [List.length_append, List.length_append, h.len]; rfl
  · rw [List.length_append]; exact hl
theorem mid_len3 {α : Type} {l : List α} {p : Nat} {a b c : α} (hp : p < l.length) : (l.take p ++ [a, b, c] ++ l.drop (p + 1)).length = l.length + 2 := by
  rw [List.length_append, List.length_append, List.length_take_of_le (Nat.le_of_lt hp), List.length_drop]
  show p + 3 + _ = _
  omega
theorem mid_len2 {α : Type} {l : List α} {p : Nat} {a b : α} (hp : p ≤ l.length) : (l.take p ++ [a, b] ++ l.drop p).length = l.length + 2 := by
  rw [List.length_append, List.length_append, List.length_take_of_le hp, List.length_drop]
  show p + 2 + _ = _
  omega
theorem StripIs.midC {z st sh : Int} {p : Nat} {m1 m2 : Str} (h : StripIs 9 ns ms) (hz : z ∈ ns) (h1 : 0 ≤ st) (h2 : st < z) (h3 : 1 ≤ sh) (h4 : sh ≤ z - st) (hp : p < ns.length) (k1 : Mk m1) (k2 : Mk m2) (hl : ns.length < 29) :
    StripIs 9 (ns.take p ++ [sh + st, sh, z - st] ++ ns.drop (p + 1)) (ms.take p ++ [m1, m2] ++ ms.drop p) := by
  have hz := h.nums z hz
  have e := h.len
  have l1 := mid_len3 (a := sh + st) (b := sh) (c := z - st) hp
  refine ⟨by rw [l1, mid_len2 (Nat.le_of_lt_succ (Nat.lt_of_lt_of_le hp (Nat.le_of_eq e))), e], by rw [l1]; exact Nat.succ_le_succ hl, fun n hn => ?_, fun m hm => ?_⟩
  · simp only [List.mem_append] at hn
    rcases hn with (hn | hn) | hn
    · exact h.nums n (List.mem_of_mem_take hn)
    · clear l1 e hp hl h; simp at hn; omega
    · exact h.nums n (List.mem_of_mem_drop hn)
  · simp only [List.mem_append] at hm
    rcases hm with (hm | hm) | hm
    · exact h.marks m (List.mem_of_mem_take hm)
    · simp at hm
      rcases hm with rfl | rfl
      · exact k1
      · exact k2
    · exact h.marks m (List.mem_of_mem_drop hm)
theorem mk_of {w : AV} {a b : Str} (ha : Mk a) (hb : Mk b) (h : w ∈ [AV.str a, AV.str b]) : ∃ mk, w = .str mk ∧ Mk mk := by
  rcases List.mem_cons.mp h with rfl | h
  · exact ⟨_, rfl, ha⟩
  · exact ⟨_, List.mem_singleton.mp h, hb⟩
variable {P : PC} {l : Lv} {Qr : AV → AH → Prop} {Qx : Str → Loc → AH → Prop} {sc : List Int} {first many k C : Int} {mk : Str}
theorem un_A (hS : StripIs 9 ns ms) (hm : Mk mk) (hl : ns.length < 30) : wpSs P l csA (uL sc first many k C mk) (uH ns ms) (Cut (UR sc first many)) Qr Qx := by
  unfold csA uL uH
  (refine wpSs_cons.mpr ?_; tm_at "wps")
  refine ⟨by decide, i_atI (L := ns) rfl (Nat.le_of_lt hS.small) (by decide) hS.pos fun z hz => ?_⟩
  tm_at "wps"
  refine ⟨(hS.nums z (List.mem_of_getElem? hz)).1, _, _, _, rfl, rfl, m_ins0 (mapI_lt hS.small), (fun _ _ e => nomatch e), ?_⟩
  (refine wpSs_cons.mpr ?_; tm_at "wps")
  refine ⟨_, _, _, rfl, rfl, m_ins0 (mapS_lt hS.small2), (fun _ _ e => nomatch e), ?_⟩
  exact UR.cut (ns := (1 + C / 6 % z) :: ns) (ms := mk :: ms) (hS.consA (List.mem_of_getElem? hz) hm hl) rfl rfl (by decide)
theorem un_B (hS : StripIs 9 ns ms) (hm : Mk mk) (hl : ns.length < 30) : wpSs P l csB (uL sc first many k C mk) (uH ns ms) (Cut (UR sc first many)) Qr Qx := by
  unfold csB uL uH
  (refine wpSs_cons.mpr ?_; tm_at "wps")
  refine ⟨by decide, i_last (L := ns) rfl (Nat.le_of_lt hS.small) (Int.natCast_pos.mp hS.pos) fun z hz => ?_⟩
  tm_at "wps"
  refine ⟨(hS.nums z hz).1, _, _, _, rfl, rfl, m_app (mapI_lt hS.small), (fun _ _ e => nomatch e), ?_⟩
  (refine wpSs_cons.mpr ?_; tm_at "wps")
  refine ⟨_, _, _, rfl, rfl, m_app (mapS_lt hS.small2), (fun _ _ e => nomatch e), ?_⟩
  exact UR.cut (ns := ns ++ [1 + C / 6 % z]) (ms := ms ++ [mk]) (hS.snocB hz hm hl) (by rw [List.map_append]; rfl) (by rw [List.map_append]; rfl) (by decide)
theorem un_C (hq : l.q = true) (hS : StripIs 9 ns ms) (hm : Mk mk) (hl : ns.length < 29) : wpSs P l csC (uL sc first many k C mk) (uH ns ms) (Cut (UR sc first many)) Qr Qx := by
  have sA := mapI_le hS.most
  have sB := mapS_le (Nat.le_of_lt hS.lm)
  have sa : (ns.map AV.int).length ≤ smallN := Nat.le_trans sA (by decide)
  have sb : (ms.map AV.str).length ≤ smallN := Nat.le_trans sB (by decide)
  have hp := hS.pos
  rw [← List.length_map (as := ns) AV.int] at hp
  unfold csC uL uH
  (refine wpSs_cons.mpr ?_; tm_at "wps")
  refine ⟨by decide, hq, sa, hp, ?_⟩
  generalize hpe : C / 6 % ((ns.map AV.int).length : Int) = p
  have hp0 : 0 ≤ p := hpe ▸ Int.emod_nonneg _ (Int.ne_of_gt hp)
  have hp1 : p < ns.length := by have := hpe ▸ Int.emod_lt_of_pos (C / 6) hp; rwa [List.length_map] at this
  clear hpe hp
  (refine wpSs_cons.mpr ?_; tm_at "wps")
  refine ⟨by decide, i_atI (L := ns) rfl (Nat.le_of_lt hS.small) hp0 hp1 fun z hz => ?_⟩
  have hz9 := (hS.nums z (List.mem_of_getElem? hz)).1
  tm_at "wps"
  refine ⟨hz9, ?_⟩
  generalize hst : C / 60 % z = st
  have hst0 : 0 ≤ st := hst ▸ Int.emod_nonneg _ (Int.ne_of_gt hz9)
  have hst1 : st < z := hst ▸ Int.emod_lt_of_pos _ hz9
  clear hst
  (refine wpSs_cons.mpr ?_; tm_at "wps")
  refine ⟨by decide, i_atI (L := ns) rfl (Nat.le_of_lt hS.small) hp0 hp1 fun z' hz' => ?_⟩
  cases Option.some.inj (hz.symm.trans hz')
  tm_at "wps"
  refine ⟨Int.sub_pos_of_lt hst1, ?_⟩
  generalize hsh : 1 + C / 420 % (z - st) = sh
  have hsh0 : 1 ≤ sh := hsh ▸ Int.le_add_of_nonneg_right (Int.emod_nonneg _ (Int.ne_of_gt (Int.sub_pos_of_lt hst1)))
  have hsh1 : sh ≤ z - st := by have := Int.emod_lt_of_pos (C / 420) (Int.sub_pos_of_lt hst1); omega
  clear hsh
  (refine wpSs_cons.mpr ?_; tm_at "wps")
  refine sl_upto rfl sa hp0 (i_atI (L := ns) rfl (Nat.le_of_lt hS.small) hp0 hp1 fun z' hz' => ?_)
  cases Option.some.inj (hz.symm.trans hz')
  tm_at "wps"
  refine ⟨by decide, cat_n (take_le sA) (by decide), sl_from rfl sa (Int.le_add_one hp0) ⟨cat_le (app_le (n := 3) (take_le sA) (Nat.le_refl 3)) (drop_le sA) (by decide), ?_⟩⟩
  (refine wpSs_cons.mpr ?_; tm_at "wps")
  refine sl_upto rfl sb hp0 ?_
  tm_at "wps"
  refine ⟨by decide, ⟨by decide, by decide⟩, by decide, i_any rfl (by decide) (Int.emod_nonneg _ (by decide)) (Int.emod_lt_of_pos _ (by decide)) fun w hw => ?_⟩
  obtain ⟨mk2, rfl, hmk2⟩ := mk_of (.inr rfl) (.inl rfl) hw
  tm_at "wps"
  refine ⟨by decide, cat_n (take_le sB) (by decide), sl_from rfl sb hp0 ⟨cat_le (app_le (n := 2) (take_le sB) (Nat.le_refl 2)) (drop_le sB) (by decide), ?_⟩⟩
  have e2 : (p + 1).toNat = p.toNat + 1 := Int.toNat_add_nat hp0 1
  tm_at "wps"
  exact UR.cut (ns := ns.take p.toNat ++ [sh + st, sh, z - st] ++ ns.drop (p.toNat + 1)) (ms := ms.take p.toNat ++ [mk, mk2] ++ ms.drop p.toNat) (hS.midC (List.mem_of_getElem? hz) hst0 hst1 hsh0 hsh1 (by omega) hm hmk2 hl) (by rw [e2]; simp) (by simp) (by decide)
theorem un_0 (hS : StripIs 9 ns ms) : wpSs P l [] (uL sc first many k C mk) (uH ns ms) (Cut (UR sc first many)) Qr Qx := UR.cut hS rfl rfl (by decide)
theorem un_L (hq : l.q = true) (hS : StripIs 9 ns ms) (hm : Mk mk) : wpSs P l csL (uL sc first many k C mk) (uH ns ms) (Cut (UR sc first many)) Qr Qx := by
  show ∃ R : Loc → AH → Prop, _
  refine ⟨UR sc first many, fun loc H h => Cut.here h, hq, mapI_le (Nat.le_of_lt hS.small), ?_⟩
  show if decide (((ns.map AV.int).length : Int) < 29) = true then _ else _
  exact brk (fun h => un_C hq hS hm (by rw [List.length_map] at h; omega)) fun _ => un_0 hS
theorem un_M (hq : l.q = true) (hS : StripIs 9 ns ms) (hm : Mk mk) : wpSs P l csM (uL sc first many k C mk) (uH ns ms) (Cut (UR sc first many)) Qr Qx := by
  show ∃ R : Loc → AH → Prop, _
  refine ⟨UR sc first many, fun loc H h => Cut.here h, by decide, ?_⟩
  show if decide (C % 3 = 1) = true then _ else _
  refine brk (fun _ => ⟨hq, mapI_le (Nat.le_of_lt hS.small), ?_⟩) fun _ => un_L hq hS hm
  show if decide (((ns.map AV.int).length : Int) < 30) = true then _ else _
  exact brk (fun h => un_B hS hm (by rw [List.length_map] at h; omega)) fun _ => un_L hq hS hm
theorem un_N {Qn : Loc → AH → Prop} (hq : l.q = true) (hS : StripIs 9 ns ms) (hm : Mk mk) (hQ : ∀ loc H, UR sc first many loc H → Qn loc H) : wpSs P l csN (uL sc first many k C mk) (uH ns ms) Qn Qr Qx := by
  show ∃ R : Loc → AH → Prop, _
  refine ⟨UR sc first many, hQ, by decide, ?_⟩
  show if decide (C % 3 = 0) = true then _ else _
  refine brk (fun _ => ⟨hq, mapI_le (Nat.le_of_lt hS.small), ?_⟩) fun _ => un_M hq hS hm
  show if decide (((ns.map AV.int).length : Int) < 30) = true then _ else _
  exact brk (fun h => un_A hS hm (by rw [List.length_map] at h; omega)) fun _ => un_M hq hS hm
end
theorem unfolded_ok {P : PC} {l : Lv} {f fc : Nat} {ps rest : List Str} {X : Str → Prop} (F : FnIs P f ps rest (cs_unfolded fc)) (hp : ps.length = 3) (hr : rest.length = 8) (hk : 1 < l.k) (hq : l.q = true) {sc : List Int}
    (hc : ∀ k : Int, 0 ≤ k → k < 100000 → CallJ P ⟨l.k - 1, l.q⟩ fc [.fl (sc.map AV.int), .int k] IsCell X) {first many : Int} (h0 : 0 ≤ first) (h1 : first < 1000) (h2 : 0 ≤ many) (h3 : many ≤ 33) :
    CallJ P l f [.fl (sc.map AV.int), .int first, .int many] (GivesStrip 9) X := by
  have hk' : 0 < l.k - 1 := Nat.sub_pos_of_lt hk
  refine CallJ.ren (F.call (Nat.lt_of_succ_lt hk) (by simp [hp]) ?_)
  rw [hr]
  unfold cs_unfolded
  (refine wpSs_cons.mpr ?_; tm_at "wps")
  refine ⟨hk', call_cell hc h0 (Int.lt_trans h1 (by decide)) fun c _ _ => ?_⟩
  tm_at "wps"
  refine ⟨by decide, by decide, ?_⟩
  (refine wpSs_cons.mpr ?_; tm_at "wps")
  refine ⟨by decide, ?_⟩
  (refine wpSs_cons.mpr ?_; tm_at "wps")
  refine ⟨hq, hq, ⟨by decide, by omega, by decide⟩, many.toNat, .rng 0 many 1, fun k v loc H => v = .rng 0 many 1 ∧ UI sc first many loc H, ?_, ?_, ?_, ?_, ?_⟩
  · exact ⟨_, _, _, .inl ⟨rfl, rfl⟩, rfl, rfl, [1 + c % 9], [], ⟨rfl, (show 1 ≤ 30 by decide), fun n hn => by rw [List.mem_singleton.mp hn]; omega, fun m hm => nomatch hm⟩, rfl, rfl⟩
  · rintro k v loc H hk ⟨rfl, _⟩
    exact ⟨rfl, _, rfl, by simp [rngList1_len]⟩
  · unfold smallN; omega
  · rintro k v loc H its u hk hl ⟨rfl, ns, ms, hS, rfl, rfl⟩ ei eu
    cases ei
    obtain ⟨rfl, hkm⟩ := rngList1_get eu
    unfold csBody
    (refine wpSs_cons.mpr ?_; tm_at "wps")
    refine ⟨hk', by decide, call_cell hc (by omega) (by omega) fun c hc0 _ => ?_⟩
    tm_at "wps"
    refine ⟨.inr (by decide), ?_⟩
    (refine wpSs_cons.mpr ?_; tm_at "wps")
    refine ⟨by decide, ⟨by decide, by decide⟩, by decide, i_any rfl (by decide) (Int.emod_nonneg _ (by decide)) (Int.emod_lt_of_pos _ (by decide)) fun w hw => ?_⟩
    obtain ⟨mk, rfl, hmk⟩ := mk_of (.inl rfl) (.inr rfl) hw
    exact un_N hq hS hmk fun loc H ⟨ns, ms, hS, e1, e2⟩ => ⟨_, _, H, .inl ⟨e1, rfl⟩, rfl, rfl, ns, ms, hS, rfl, e2⟩
  · rintro v loc H ⟨rfl, ns, ms, hS, rfl, rfl⟩
    (refine wpSs_cons.mpr ?_; tm_at "wps")
    exact ⟨by decide, [0, 1], _, _, RenH.two rfl rfl (by decide) (Rens.ints ns) (Rens.strs ms), .tup (.cons (.ref rfl) (.cons (.ref rfl) .nil)), ns, ms, hS, rfl, rfl⟩

open PySem PyProof.Rows PySem.SeqAt

section
variable {test : AV → (Bool → Prop) → Prop} {el : AV → (AV → Prop) → Prop}
theorem comp_map (g : AV → AV) : ∀ {items : List AV} {K : List AV → Prop}, (∀ x ∈ items, ∀ k : Bool → Prop, k true → test x k) → (∀ x ∈ items, ∀ k, k (g x) → el x k) → K (items.map g) → compItems test el items K
  | [], _, _, _, h => h
  | x :: r, K, ht, he, h => by
    refine ht x (.head _) _ ?_
    simp only [if_true]
    exact he x (.head _) _ (comp_map g (K := fun vs => K (g x :: vs)) (fun y hy => ht y (.tail _ hy)) (fun y hy => he y (.tail _ hy)) h)
theorem comp_of {β : Type} (c : β → AV) (Pb : β → Prop) : ∀ {items : List AV} {K : List AV → Prop}, (∀ x ∈ items, ∀ k : Bool → Prop, k true → test x k) → (∀ x ∈ items, ∀ k, (∀ b, Pb b → k (c b)) → el x k) → (∀ bs : List β, bs.length = items.length → (∀ b ∈ bs, Pb b) → K (bs.map c)) → compItems test el items K
  | [], _, _, _, h => h [] rfl (by simp)
  | x :: r, K, ht, he, h => by
    refine ht x (.head _) _ ?_
    simp only [if_true]
    refine he x (.head _) _ fun b hb => ?_
    refine comp_of c Pb (K := fun vs => K (c b :: vs)) (fun y hy => ht y (.tail _ hy)) (fun y hy => he y (.tail _ hy)) fun bs hl hp => ?_
    exact h (b :: bs) (by simp [hl]) (by intro z hz; rcases List.mem_cons.mp hz with rfl | hz; exact hb; exact hp z hz)
end
theorem opt_bind0 {x : AV} {k : List (Option AV) → Prop} (h : k [some x]) : opt (bindItem 0 x) k := h
theorem mk_ok {x : Str} (h : Mk x) : PyData.strOk x = true := by rcases h with rfl | rfl <;> decide +kernel
theorem Rds.marks {H : AH} {k : Nat} {ms : List Str} (h : ∀ m ∈ ms, Mk m) : Rds H k (ms.map AV.str) (ms.map PyData.str) := Rds.ofAll fun x hx => .str x (mk_ok (h x hx))

/-- a call that gives a strip back -/
theorem call_strip {P : PC} {l : Lv} {f : Nat} {vs : List AV} {H : AH} {Q : AV → AH → Prop} {X : Str → Prop} {top : Int} (hr : Rens [] H vs vs) (hu : CallJ P l f vs (GivesStrip top) X)
    (h : ∀ ns ms, StripIs top ns ms → Q (.tup [.ref H.length, .ref (H.length + 1)]) (H ++ [ns.map AV.int, ms.map AV.str])) : CallP P l f vs H Q X :=
  CallP.plain hr hu fun v Hc ⟨ns, ms, hS, e1, e2⟩ => by
    subst e1 e2
    have := h ns ms hS
    rw [← shifts_ints H.length ns, ← shifts_strs H.length ms] at this
    exact this
noncomputable def s3 (fc : Nat) : CS := .ite (.cmp .Eq (.bin .Mod (.var 1) (.const (.int (2)))) (.const (.int (1))))
    [      .assign 4 (.comp (.bin .Add (.call fc [(.var 0), (.bin .Add (.const (.int (3))) (.var 1))]) (.bin .Mult (.const (.int (17))) (.var 1))) [] [0] 0 (.prim .range [(.bin .Add (.const (.int (1))) (.bin .Mod (.bin .FloorDiv (.var 1) (.const (.int (2)))) (.const (.int (7)))))])),
      .assign 2 (.comp (.bin .Add (.const (.int (1))) (.bin .Mod (.bin .FloorDiv (.var 1) (.const (.int (2)))) (.idx (.lst [(.const (.int (2))), (.const (.int (3))), (.const (.int (6))), (.const (.int (9)))]) (.bin .Mod (.bin .FloorDiv (.var 0) (.const (.int (14)))) (.const (.int (4))))))) [] [1] 0 (.var 4)),
      .assign 3 (.comp (.idx (.lst [(.const (.str "hill")), (.const (.str "valley"))]) (.bin .Mod (.var 0) (.const (.int (2))))) [] [] 0 (.slc (.var 4) (.const (.int (1))) (.const .none) (.const .none)))]
    []
noncomputable def s5 : CS := .ite (.and (.cmp .Eq (.bin .Mod (.var 6) (.const (.int (4)))) (.const (.int (1)))) (.cmp .NotEq (.var 3) (.lst [])))
    [      .assign 7 (.bin .Mod (.bin .FloorDiv (.var 6) (.const (.int (4)))) (.prim .len [(.var 3)])),
      .setIdx (.var 3) (.var 7) (.idx (.lst [(.const (.str "hill")), (.const (.str "valley"))]) (.prim .int [(.cmp .Eq (.idx (.var 3) (.var 7)) (.const (.str "hill")))]))]
    []
noncomputable def s6 : CS := .ite (.cmp .Eq (.bin .Mod (.var 6) (.const (.int (4)))) (.const (.int (2))))
    [      .setIdx (.var 2) (.bin .Mod (.bin .FloorDiv (.var 6) (.const (.int (4)))) (.prim .len [(.var 2)])) (.bin .Add (.const (.int (1))) (.bin .Mod (.bin .FloorDiv (.var 6) (.const (.int (120)))) (.const (.int (9)))))]
    []
noncomputable def s8 : CS := .assign 8 (.comp (.bin .Mult (.idx (.lst [(.const (.int (1))), (.const (.int (1))), (.const (.int (1))), (.const (.int (7))), (.const (.int (100)))]) (.bin .Mod (.var 0) (.const (.int (5))))) (.var 1)) [] [5] 0 (.var 2))
noncomputable def s9 : CS := .ite (.cmp .Eq (.bin .Mod (.bin .FloorDiv (.var 5) (.const (.int (5)))) (.const (.int (8)))) (.const (.int (3))))
    [      .setIdx (.var 8) (.bin .Mod (.bin .FloorDiv (.var 5) (.const (.int (40)))) (.prim .len [(.var 8)])) (.idx (.lst [(.const (.int (1000))), (.const (.int (999))), (.bin .Add (.const (.int (1))) (.bin .Mod (.bin .FloorDiv (.var 5) (.const (.int (1200)))) (.const (.int (1000)))))]) (.bin .Mod (.bin .FloorDiv (.var 5) (.const (.int (1200)))) (.const (.int (3)))))]
    []
noncomputable def cs_strip (fc fu : Nat) : List CS := [
  .assign 1 (.call fc [(.var 0), (.const (.int (0)))]),
  .assignT [2, 3] (.call fu [(.var 0), (.const (.int (3))), (.idx (.lst [(.bin .Mod (.bin .FloorDiv (.var 1) (.const (.int (2)))) (.const (.int (10)))), (.bin .Mod (.bin .FloorDiv (.var 1) (.const (.int (20)))) (.const (.int (33))))]) (.prim .int [(.cmp .Eq (.bin .Mod (.bin .FloorDiv (.var 1) (.const (.int (660)))) (.const (.int (8)))) (.const (.int (1))))]))]),
  s3 fc,
  .assign 6 (.call fc [(.var 0), (.const (.int (1)))]),
  s5, s6,
  .assign 5 (.call fc [(.var 0), (.const (.int (2)))]),
  s8, s9,
  .ret (.tup [(.var 8), (.var 3)])]

theorem seqS {P : PC} {l : Lv} {c : CS} {r : List CS} {loc : Loc} {H : AH} {Qn : Loc → AH → Prop} {Qr : AV → AH → Prop} {Qx : Str → Loc → AH → Prop} (h : wpS P l c loc H (fun loc' H' => wpSs P l r loc' H' Qn Qr Qx) Qr Qx) : wpSs P l (c :: r) loc H Qn Qr Qx := h
/-- between the statements of a strip -/
noncomputable def SJ (top : Int) (a0 a1 a2 a3 a6 a8 : Option AV) (loc : Loc) (H : AH) : Prop := ∃ ns ms, StripIs top ns ms ∧ loc = [a0, a1, a2, a3, none, none, a6, none, a8] ∧ H = [ns.map AV.int, ms.map AV.str]
noncomputable def sFl (sc : List Int) : Option AV := some (.fl (sc.map AV.int))
section
variable {ns : List Int} {ms : List Str} {sc : List Int} {head more cell : Int} {a b : Nat} {H : AH} {o2 o4 o5 o6 o7 o8 : Option AV} {g : List AV}
theorem SJ.cut (hS : StripIs 9 ns ms) (ha : H[a]? = some (ns.map AV.int)) (hb : H[b]? = some (ms.map AV.str)) (hne : a ≠ b) :
    Cut (SJ 9 (sFl sc) (some (.int head)) (some (.ref 0)) (some (.ref 1)) none none) [sFl sc, some (.int head), some (.ref a), some (.ref b), o4, o5, o6, o7, o8] H :=
  ⟨_, _, .inr ⟨[a, b], RenH.two ha hb hne (Rens.ints ns) (Rens.strs ms), .keep (.fl (Rens.ints sc)) (.keep (.int _) (.keep (.ref rfl) (.keep (.ref rfl) (.drop (.drop (.drop (.drop (.drop .nil))))))))⟩, ns, ms, hS, rfl, rfl⟩
theorem SJ.cut6 (hS : StripIs 9 ns ms) (ha : H[a]? = some (ns.map AV.int)) (hb : H[b]? = some (ms.map AV.str)) (hne : a ≠ b) :
    Cut (SJ 9 (sFl sc) (some (.int head)) (some (.ref 0)) (some (.ref 1)) (some (.int more)) none) [sFl sc, some (.int head), some (.ref a), some (.ref b), o4, o5, some (.int more), o7, o8] H :=
  ⟨_, _, .inr ⟨[a, b], RenH.two ha hb hne (Rens.ints ns) (Rens.strs ms), .keep (.fl (Rens.ints sc)) (.keep (.int _) (.keep (.ref rfl) (.keep (.ref rfl) (.drop (.drop (.keep (.int _) (.drop (.drop .nil))))))))⟩, ns, ms, hS, rfl, rfl⟩
theorem SJ.cut8 (hS : StripIs 1000 ns ms) (ha : H[a]? = some (ns.map AV.int)) (hb : H[b]? = some (ms.map AV.str)) (hne : a ≠ b) :
    Cut (SJ 1000 (sFl sc) none none (some (.ref 1)) none (some (.ref 0))) [sFl sc, some (.int head), o2, some (.ref b), o4, o5, o6, o7, some (.ref a)] H :=
  ⟨_, _, .inr ⟨[a, b], RenH.two ha hb hne (Rens.ints ns) (Rens.strs ms), .keep (.fl (Rens.ints sc)) (.drop (.drop (.keep (.ref rfl) (.drop (.drop (.drop (.drop (.keep (.ref rfl) .nil))))))))⟩, ns, ms, hS, rfl, rfl⟩
theorem StripIs.setN {top v : Int} {p : Nat} (h : StripIs top ns ms) (hv : 1 ≤ v ∧ v ≤ top) : StripIs top (ns.set p v) ms :=
  ⟨by rw [List.length_set]; exact h.len, by rw [List.length_set]; exact h.most, fun n hn => (List.mem_or_eq_of_mem_set hn).elim (h.nums n) fun e => e ▸ hv, h.marks⟩
theorem StripIs.setM {top : Int} {v : Str} {p : Nat} (h : StripIs top ns ms) (hv : Mk v) : StripIs top ns (ms.set p v) :=
  ⟨by rw [List.length_set]; exact h.len, h.most, h.nums, fun n hn => (List.mem_or_eq_of_mem_set hn).elim (h.marks n) fun e => e ▸ hv⟩
theorem mod_len {L : List AV} {x : Int} (h : 0 < L.length) : 0 ≤ x % (L.length : Int) ∧ x % (L.length : Int) < L.length := ⟨Int.emod_nonneg _ (Int.ne_of_gt (Int.natCast_pos.mpr h)), Int.emod_lt_of_pos _ (Int.natCast_pos.mpr h)⟩
theorem int_of {w : AV} {lo hi : Int} {L : List Int} (hL : ∀ n ∈ L, lo ≤ n ∧ n ≤ hi) (h : w ∈ L.map AV.int) : ∃ m, w = .int m ∧ lo ≤ m ∧ m ≤ hi := by
  obtain ⟨m, hm, rfl⟩ := List.mem_map.mp h
  exact ⟨m, rfl, hL m hm⟩
theorem b01 (p : Bool) : (0 : Int) ≤ (if p then 1 else 0) ∧ (if p then 1 else 0 : Int) < (2 : Nat) := by cases p <;> decide
theorem all2 {p : Int → Prop} {x y : Int} (h1 : p x) (h2 : p y) : ∀ n ∈ [x, y], p n := fun n hn => (List.mem_cons.mp hn).elim (fun e => e ▸ h1) fun hn => List.mem_singleton.mp hn ▸ h2
theorem allc {p : Int → Prop} {x : Int} {L : List Int} (h1 : p x) (h2 : ∀ n ∈ L, p n) : ∀ n ∈ x :: L, p n := fun n hn => (List.mem_cons.mp hn).elim (fun e => e ▸ h1) (h2 n)
theorem emod_le {x n : Int} (h : 0 < n) {m : Int} (hm : n ≤ m + 1) : 0 ≤ x % n ∧ x % n ≤ m := ⟨Int.emod_nonneg _ (Int.ne_of_gt h), by have := Int.emod_lt_of_pos x h; omega⟩
variable {P : PC} {l : Lv} {X : Str → Prop} {Qn : Loc → AH → Prop} {Qr : AV → AH → Prop} {fc : Nat}
theorem st3_a {i m : Int} (h0 : 2 ≤ m) (h1 : m ≤ 9) : 0 < m ∧ 1 ≤ 1 + i / 2 % m ∧ 1 + i / 2 % m ≤ 9 := by
  have := emod_le (x := i / 2) (n := m) (by omega) (m := 8) (by omega)
  omega
theorem st3 (hq : l.q = true) (hk : 0 < l.k) (hc : ∀ k : Int, 0 ≤ k → k < 100000 → CallJ P l fc [.fl (sc.map AV.int), .int k] IsCell X) (hS : StripIs 9 ns ms)
    (hQ : ∀ loc H, SJ 9 (sFl sc) (some (.int head)) (some (.ref 0)) (some (.ref 1)) none none loc H → Qn loc H) :
    wpS P l (s3 fc) [sFl sc, some (.int head), some (.ref 1), some (.ref 2), none, none, none, none, none] [g, ns.map AV.int, ms.map AV.str] Qn Qr (fun c _ _ => X c) := by
  refine ⟨_, hQ, by decide, brk (fun _ => ?_) fun _ => SJ.cut hS rfl rfl (by decide)⟩
  unfold sFl
  (refine wpSs_cons.mpr ?_; tm_at "wps")
  have hN : 1 ≤ 1 + head / 2 % 7 ∧ 1 + head / 2 % 7 ≤ 7 := by have := emod_le (x := head / 2) (n := 7) (by decide) (m := 6) (by decide); omega
  refine ⟨hq, hq, ⟨by decide, by decide⟩, by decide, ⟨by decide, by omega, by decide⟩, ?_⟩
  generalize 1 + head / 2 % 7 = N at hN ⊢
  have hl : (rngList 0 N 1).length ≤ 7 := by rw [rngList1_len]; omega
  refine ⟨_, _, [some (.fl (sc.map AV.int))], rfl, Nat.le_trans (mapI_le hl) (by decide), Rens.ints _, .cons rfl (.fl (Rens.ints sc)) .nil, comp_of AV.int (fun n => 0 ≤ n) (fun x hx k hk => opt_bind0 hk) ?_ ?_⟩
  · intro x hx k hk1
    obtain ⟨i, hi, rfl⟩ := List.mem_map.mp hx
    rw [rngList1] at hi
    obtain ⟨j, hj, rfl⟩ := List.mem_map.mp hi
    have hj := List.mem_range.mp hj
    refine opt_bind0 ⟨hk, ?_⟩
    tm_at "wps"
    refine call_cell hc (by omega) (by omega) fun c hc0 _ => ?_
    exact ⟨.inr (by decide), _, .int _, .inr (.int _), hk1 _ (by omega)⟩
  · intro cs hcs hcp
    have h7 : cs.length ≤ 7 := by rw [hcs, List.length_map]; exact hl
    rw [List.length_map, rngList1_len] at hcs
    have h1 : 1 ≤ cs.length := by omega
    (refine wpSs_cons.mpr ?_; tm_at "wps")
    refine ⟨hq, _, _, [some (.int head)], rfl, Nat.le_trans (mapI_le h7) (by decide), Rens.ints _, .cons rfl (.int _) .nil, comp_of AV.int (fun n => 1 ≤ n ∧ n ≤ 9) (fun x hx k hk => opt_bind0 hk) ?_ ?_⟩
    · intro x hx k hk1
      obtain ⟨i, hi, rfl⟩ := List.mem_map.mp hx
      refine opt_bind0 ?_
      tm_at "wps"
      refine ⟨⟨by decide, by decide⟩, by decide, ⟨by decide, by decide⟩, by decide, i_any rfl (by decide) (Int.emod_nonneg _ (by decide)) (Int.emod_lt_of_pos _ (by decide)) fun w hw => ?_⟩
      obtain ⟨m, rfl, hm0, hm1⟩ := int_of (L := [2, 3, 6, 9]) (lo := 2) (hi := 9) (by decide) hw
      obtain ⟨q0, q1⟩ := st3_a (i := i) hm0 hm1
      exact ⟨q0, _, .int _, .inr (.int _), hk1 _ q1⟩
    · intro ns' hns hnp
      rw [List.length_map] at hns
      (refine wpSs_cons.mpr ?_; tm_at "wps")
      refine ⟨hq, sl_from rfl (Nat.le_trans (mapI_le h7) (by decide)) (by decide) ?_⟩
      tm_at "wps"
      refine ⟨_, (cs.drop 1).map AV.int, [], rfl, Nat.le_trans (drop_le (mapI_le h7)) (by decide), by rw [List.map_drop]; exact List.map_drop ▸ Rens.ints (φ := []) (cs.drop 1), .nil, comp_of AV.str Mk (fun x hx k hk => opt_bind0 hk) ?_ ?_⟩
      · intro x hx k hk1
        obtain ⟨i, hi, rfl⟩ := List.mem_map.mp hx
        refine opt_bind0 ?_
        tm_at "wps"
        refine ⟨by decide, by decide, i_any rfl (by decide) (Int.emod_nonneg _ (by decide)) (Int.emod_lt_of_pos _ (by decide)) fun w hw => ?_⟩
        obtain ⟨mk, rfl, hmk⟩ := mk_of (.inl rfl) (.inr rfl) hw
        exact ⟨_, .str _, .inr (.str _), hk1 _ hmk⟩
      · intro ms' hms hmp
        rw [List.length_map, List.length_drop] at hms
        exact SJ.cut (a := 4) (b := 6) (ns := ns') (ms := ms') ⟨by rw [hns, hms]; exact (Nat.sub_add_cancel h1).symm, Nat.le_trans (Nat.le_of_eq hns) (Nat.le_trans h7 (by decide)), hnp, hmp⟩ rfl rfl (by decide)
theorem st5 (hq : l.q = true) (hS : StripIs 9 ns ms) (hQ : ∀ loc H, SJ 9 (sFl sc) (some (.int head)) (some (.ref 0)) (some (.ref 1)) (some (.int more)) none loc H → Qn loc H) :
    wpS P l s5 [sFl sc, some (.int head), some (.ref 0), some (.ref 1), none, none, some (.int more), none, none] [ns.map AV.int, ms.map AV.str] Qn Qr (fun c _ _ => X c) := by
  refine ⟨_, hQ, by decide, brk (fun _ => ⟨by decide, _, _, .ref rfl (Rds.marks hS.marks), .ref rfl .nil, ?_⟩) fun _ => SJ.cut6 hS rfl rfl (by decide)⟩
  cases ms with
  | nil =>
    rw [show (PyData.list (List.map PyData.str [])).eqv (PyData.list []) = true from by decide +kernel]
    exact SJ.cut6 hS rfl rfl (by decide)
  | cons m0 mr =>
    rw [show (PyData.list (List.map PyData.str (m0 :: mr))).eqv (PyData.list []) = false from by simp [PyData.eqv, PyData.eqvAll]]
    have hp : 0 < ((m0 :: mr).map AV.str).length := Nat.succ_pos _
    have hs : ((m0 :: mr).map AV.str).length ≤ smallN := mapS_le (Nat.le_of_lt hS.small2)
    generalize m0 :: mr = ms at hS hp hs ⊢
    obtain ⟨hp0, hp1⟩ := mod_len (x := more / 4) hp
    tm_at "wps"
    (refine wpSs_cons.mpr ?_; tm_at "wps")
    refine ⟨⟨by decide, by decide⟩, hq, hs, Int.natCast_pos.mpr hp, ?_⟩
    generalize more / 4 % ((ms.map AV.str).length : Int) = p at hp0 hp1 ⊢
    (refine wpSs_cons.mpr ?_; tm_at "wps")
    refine ⟨by decide, hq, i_any rfl hs hp0 hp1 fun w hw => ?_⟩
    obtain ⟨z, hz, rfl⟩ := List.mem_map.mp hw
    refine ⟨_, _, .str _ (mk_ok (hS.marks z hz)), .str _ (mk_ok (.inl rfl)), ?_⟩
    tm_at "wps"
    refine i_any rfl (by decide) (b01 _).1 (b01 _).2 fun w hw => ?_
    obtain ⟨mk, rfl, hmk⟩ := mk_of (.inl rfl) (.inr rfl) hw
    refine ⟨_, _, _, rfl, rfl, rfl, hp0, hp1, hs, ?_⟩
    exact SJ.cut6 (a := 0) (b := 1) (ms := ms.set p.toNat mk) (hS.setM hmk) rfl (by rw [List.map_set]; rfl) (by decide)
theorem st6 (hq : l.q = true) (hS : StripIs 9 ns ms) (hQ : ∀ loc H, SJ 9 (sFl sc) (some (.int head)) (some (.ref 0)) (some (.ref 1)) none none loc H → Qn loc H) :
    wpS P l s6 [sFl sc, some (.int head), some (.ref 0), some (.ref 1), none, none, some (.int more), none, none] [ns.map AV.int, ms.map AV.str] Qn Qr (fun c _ _ => X c) := by
  refine ⟨_, hQ, by decide, brk (fun _ => ?_) fun _ => SJ.cut hS rfl rfl (by decide)⟩
  have hp : 0 < (ns.map AV.int).length := by rw [List.length_map]; exact Int.natCast_pos.mp hS.pos
  have hs : (ns.map AV.int).length ≤ smallN := mapI_le (Nat.le_of_lt hS.small)
  obtain ⟨hp0, hp1⟩ := mod_len (x := more / 4) hp
  (refine wpSs_cons.mpr ?_; tm_at "wps")
  refine ⟨⟨by decide, by decide⟩, by decide, ⟨by decide, by decide⟩, hq, hs, Int.natCast_pos.mpr hp, _, _, _, rfl, rfl, rfl, hp0, hp1, hs, ?_⟩
  exact SJ.cut (a := 0) (b := 1) (ns := ns.set _ _) (hS.setN (v := 1 + more / 120 % 9) (by have := emod_le (x := more / 120) (n := 9) (by decide) (m := 8) (by decide); omega)) (by rw [List.map_set]; rfl) rfl (by decide)
theorem st8 (hq : l.q = true) (hS : StripIs 9 ns ms) (hQ : ∀ ns', StripIs 1000 ns' ms → Qn [sFl sc, some (.int head), some (.ref 0), some (.ref 1), none, some (.int cell), none, none, some (.ref 2)] [ns.map AV.int, ms.map AV.str, ns'.map AV.int]) :
    wpS P l s8 [sFl sc, some (.int head), some (.ref 0), some (.ref 1), none, some (.int cell), none, none, none] [ns.map AV.int, ms.map AV.str] Qn Qr (fun c _ _ => X c) := by
  refine ⟨hq, _, _, [some (.int cell)], rfl, mapI_le (Nat.le_of_lt hS.small), Rens.ints _, .cons rfl (.int _) .nil, comp_of AV.int (fun n => 1 ≤ n ∧ n ≤ 1000) (fun x hx k hk => opt_bind0 hk) ?_ ?_⟩
  · intro x hx k hk
    obtain ⟨i, hi, rfl⟩ := List.mem_map.mp hx
    have hi' := hS.nums i hi
    refine opt_bind0 ?_
    tm_at "wps"
    refine ⟨by decide, by decide, i_any rfl (by decide) (Int.emod_nonneg _ (by decide)) (Int.emod_lt_of_pos _ (by decide)) fun w hw => ?_⟩
    obtain ⟨m, hm, rfl⟩ := List.mem_map.mp (show w ∈ [1, 1, 1, 7, 100].map AV.int from hw)
    replace hm : m = 1 ∨ m = 7 ∨ m = 100 := by simpa using hm
    exact ⟨.inl (by omega), _, .int _, .inr (.int _), hk _ (by rcases hm with rfl | rfl | rfl <;> omega)⟩
  · intro fs hfs hfp
    rw [List.length_map] at hfs
    exact hQ fs ⟨hfs.trans hS.len, hfs ▸ hS.most, hfp, hS.marks⟩
theorem st9 (hq : l.q = true) {L : List Int} (hS : StripIs 1000 ns ms) (hQ : ∀ loc H, SJ 1000 (sFl sc) none none (some (.ref 1)) none (some (.ref 0)) loc H → Qn loc H) :
    wpS P l s9 [sFl sc, some (.int head), some (.ref 0), some (.ref 1), none, some (.int cell), none, none, some (.ref 2)] [L.map AV.int, ms.map AV.str, ns.map AV.int] Qn Qr (fun c _ _ => X c) := by
  refine ⟨_, hQ, ⟨by decide, by decide⟩, by decide, brk (fun _ => ?_) fun _ => SJ.cut8 hS rfl rfl (by decide)⟩
  have hp : 0 < (ns.map AV.int).length := by rw [List.length_map]; exact Int.natCast_pos.mp hS.pos
  have hs : (ns.map AV.int).length ≤ smallN := mapI_le (Nat.le_of_lt hS.small)
  obtain ⟨hp0, hp1⟩ := mod_len (x := cell / 40) hp
  (refine wpSs_cons.mpr ?_; tm_at "wps")
  refine ⟨⟨by decide, by decide⟩, by decide, by decide, ⟨by decide, by decide⟩, by decide, i_any rfl (show 3 ≤ smallN by decide) (Int.emod_nonneg _ (by decide)) (Int.emod_lt_of_pos _ (by decide)) fun w hw => ?_⟩
  have hm := emod_le (x := cell / 1200) (n := 1000) (by decide) (m := 999) (by decide)
  obtain ⟨v, rfl, hv⟩ := int_of (L := [1000, 999, 1 + cell / 1200 % 1000]) (lo := 1) (hi := 1000) (allc (by decide) (all2 (by decide) (by omega))) hw
  tm_at "wps"
  refine ⟨⟨by decide, by decide⟩, hq, hs, Int.natCast_pos.mpr hp, _, _, _, rfl, rfl, rfl, hp0, hp1, hs, ?_⟩
  exact SJ.cut8 (a := 2) (b := 1) (ns := ns.set _ _) (hS.setN hv) (by rw [List.map_set]; rfl) rfl (by decide)
end
theorem strip_ok {P : PC} {l : Lv} {f fc fu : Nat} {ps rest : List Str} {X : Str → Prop} (F : FnIs P f ps rest (cs_strip fc fu)) (hp : ps.length = 1) (hr : rest.length = 8) (hk : 2 < l.k) (hq : l.q = true) {sc : List Int}
    (hc : ∀ k : Int, 0 ≤ k → k < 100000 → CallJ P ⟨l.k - 1, l.q⟩ fc [.fl (sc.map AV.int), .int k] IsCell X)
    (hu : ∀ first many : Int, 0 ≤ first → first < 1000 → 0 ≤ many → many ≤ 33 → CallJ P ⟨l.k - 1, l.q⟩ fu [.fl (sc.map AV.int), .int first, .int many] (GivesStrip 9) X) :
    CallJ P l f [.fl (sc.map AV.int)] (GivesStrip 1000) X := by
  have hk' : 0 < l.k - 1 := Nat.sub_pos_of_lt (Nat.lt_of_succ_lt hk)
  refine CallJ.ren (F.call (Nat.lt_of_succ_lt (Nat.lt_of_succ_lt hk)) (by simp [hp]) ?_)
  rw [hr]
  unfold cs_strip
  (refine wpSs_cons.mpr ?_; tm_at "wps")
  refine ⟨hk', call_cell hc (by decide) (by decide) fun head _ _ => ?_⟩
  (refine wpSs_cons.mpr ?_; tm_at "wps")
  refine ⟨hq, hk', ⟨by decide, by decide⟩, by decide, ⟨by decide, by decide⟩, by decide, by decide, hq, ⟨by decide, by decide⟩, by decide, ?_⟩
  refine i_any rfl (show 2 ≤ smallN by decide) (b01 _).1 (b01 _).2 fun w hw => ?_
  obtain ⟨m, rfl, hm0, hm1⟩ := int_of (L := [head / 2 % 10, head / 20 % 33]) (lo := 0) (hi := 33) (all2 (emod_le (by decide) (by decide)) (emod_le (by decide) (by decide))) hw
  tm_at "wps"
  refine call_strip (.cons (.fl (Rens.ints sc)) (.cons (.int _) (.cons (.int _) .nil))) (hu 3 m (by decide) (by decide) hm0 hm1) fun ns ms hS => ?_
  refine seqS (st3 (l := ⟨l.k - 1, l.q⟩) hq hk' hc hS ?_)
  rintro loc H ⟨ns, ms, hS, rfl, rfl⟩
  unfold sFl
  (refine wpSs_cons.mpr ?_; tm_at "wps")
  refine ⟨hk', call_cell hc (by decide) (by decide) fun more _ _ => ?_⟩
  refine seqS (st5 (l := ⟨l.k - 1, l.q⟩) hq hS ?_)
  rintro loc H ⟨ns, ms, hS, rfl, rfl⟩
  refine seqS (st6 (l := ⟨l.k - 1, l.q⟩) hq hS ?_)
  rintro loc H ⟨ns, ms, hS, rfl, rfl⟩
  unfold sFl
  (refine wpSs_cons.mpr ?_; tm_at "wps")
  refine ⟨hk', call_cell hc (by decide) (by decide) fun cell _ _ => ?_⟩
  refine seqS (st8 (l := ⟨l.k - 1, l.q⟩) hq hS fun ns' hS' => ?_)
  refine seqS (st9 (l := ⟨l.k - 1, l.q⟩) hq hS' ?_)
  rintro loc H ⟨ns, ms, hS, rfl, rfl⟩
  exact ⟨by decide, [0, 1], _, _, RenH.two rfl rfl (by decide) (Rens.ints ns) (Rens.strs ms), .tup (.cons (.ref rfl) (.cons (.ref rfl) .nil)), ns, ms, hS, rfl, rfl⟩

open PySem PyProof.Rows PySem.SeqAt

theorem StripIs.up {a b : Int} {ns : List Int} {ms : List Str} (h : StripIs a ns ms) (hab : a ≤ b) : StripIs b ns ms := ⟨h.len, h.most, fun n hn => ⟨(h.nums n hn).1, Int.le_trans (h.nums n hn).2 hab⟩, h.marks⟩
noncomputable def LJ (sc : List Int) (loc : Loc) (H : AH) : Prop := ∃ ns ms, StripIs 2000 ns ms ∧ loc = [sFl sc, some (.ref 0), some (.ref 1), none] ∧ H = [ns.map AV.int, ms.map AV.str]
theorem LJ.cut {sc ns : List Int} {ms : List Str} {H : AH} {o : Option AV} (hS : StripIs 2000 ns ms) (ha : H[0]? = some (ns.map AV.int)) (hb : H[1]? = some (ms.map AV.str)) : Cut (LJ sc) [sFl sc, some (.ref 0), some (.ref 1), o] H :=
  ⟨_, _, .inr ⟨[0, 1], RenH.two ha hb (by decide) (Rens.ints ns) (Rens.strs ms), .keep (.fl (Rens.ints sc)) (.keep (.ref rfl) (.keep (.ref rfl) (.drop .nil)))⟩, ns, ms, hS, rfl, rfl⟩
theorem eqv_ints : ∀ (l : List Int), PyData.eqvAll (l.map PyData.int) (l.map PyData.int) = true
  | [] => rfl
  | x :: r => by simp [PyData.eqvAll, PyData.eqv, eqv_ints r]
theorem eqv_strs : ∀ (l : List Str), PyData.eqvAll (l.map PyData.str) (l.map PyData.str) = true
  | [] => rfl
  | x :: r => by simp [PyData.eqvAll, PyData.eqv, eqv_strs r]

noncomputable def cs_whole : List CS := [
  .ret (.and (.isin .int (.var 0)) (.not (.isin .bool (.var 0))))]
theorem whole_ok {P : PC} {l : Lv} {f : Nat} {ps rest : List Str} {X : Str → Prop} (F : FnIs P f ps rest cs_whole) (hp : ps.length = 1) (hr : rest.length = 0) (hk : 0 < l.k) (n : Int) : CallJ P l f [.int n] (fun v H => v = .bool true ∧ H = []) X := by
  refine F.call hk (by simp [hp]) ?_
  rw [hr]
  unfold cs_whole
  (refine wpSs_cons.mpr ?_; tm_at "wps")
  simp [isI_int, isI_bool, isI_str, isI_tup, isI_fl, isI_ref]

noncomputable def cs_is_strip (fw : Nat) : List CS := [
  .ite (.or (.not (.isin .tuple (.var 0))) (.cmp .NotEq (.prim .len [(.var 0)]) (.const (.int (2)))))
    [      .ret (.const (.bool false))]
    [],
  .ite (.or (.not (.isin .list (.idx (.var 0) (.const (.int (0)))))) (.not (.isin .list (.idx (.var 0) (.const (.int (1)))))))
    [      .ret (.const (.bool false))]
    [],
  .ite (.or (.not (.prim .all [(.comp (.call fw [(.var 0)]) [] [] 0 (.idx (.var 0) (.const (.int (0)))))])) (.not (.prim .all [(.comp (.isin .str (.var 0)) [] [] 0 (.idx (.var 0) (.const (.int (1)))))])))
    [      .ret (.const (.bool false))]
    [],
  .ret (.and (.cmp .Eq (.idx (.var 0) (.const (.int (0)))) (.idx (.var 1) (.const (.int (0))))) (.cmp .Eq (.idx (.var 0) (.const (.int (1)))) (.idx (.var 1) (.const (.int (1))))))]
theorem is_strip_ok {P : PC} {l : Lv} {f fw : Nat} {ps rest : List Str} {X : Str → Prop} (F : FnIs P f ps rest (cs_is_strip fw)) (hp : ps.length = 2) (hr : rest.length = 0) (hk : 1 < l.k) (hq : l.q = true) (hw : ∀ n : Int, CallJ P ⟨l.k - 1, l.q⟩ fw [.int n] (fun v H => v = .bool true ∧ H = []) X)
    {ns : List Int} {ms : List Str} (hn : ns.length ≤ 1000) (hm : ms.length ≤ 1000) (hok : ∀ m ∈ ms, PyData.strOk m = true) :
    CallJ P l f [.tup [.fl (ns.map AV.int), .fl (ms.map AV.str)], .tup [.fl (ns.map AV.int), .fl (ms.map AV.str)]] (fun v _ => v = .bool true) X := by
  refine F.call (by omega) (by simp [hp]) ?_
  rw [hr]
  unfold cs_is_strip
  (refine wpSs_cons.mpr ?_; tm_at "wps")
  refine ⟨fun loc H => loc = [some (.tup [.fl (ns.map AV.int), .fl (ms.map AV.str)]), some (.tup [.fl (ns.map AV.int), .fl (ms.map AV.str)])] ∧ H = [], ?_, ?_⟩
  rotate_left
  · simp [isI_int, isI_bool, isI_str, isI_tup, isI_fl, isI_ref, smallN, hq]
    exact wpSs_nil.mpr (Cut.here ⟨rfl, rfl⟩)
  rintro loc H ⟨rfl, rfl⟩
  (refine wpSs_cons.mpr ?_; tm_at "wps")
  refine ⟨fun loc H => loc = [some (.tup [.fl (ns.map AV.int), .fl (ms.map AV.str)]), some (.tup [.fl (ns.map AV.int), .fl (ms.map AV.str)])] ∧ H = [], ?_, ?_⟩
  rotate_left
  · simp [isI_int, isI_bool, isI_str, isI_tup, isI_fl, isI_ref, smallN, hq]
    exact wpSs_nil.mpr (Cut.here ⟨rfl, rfl⟩)
  rintro loc H ⟨rfl, rfl⟩
  (refine wpSs_cons.mpr ?_; tm_at "wps")
  refine ⟨fun loc H => loc = [some (.tup [.fl (ns.map AV.int), .fl (ms.map AV.str)]), some (.tup [.fl (ns.map AV.int), .fl (ms.map AV.str)])] ∧ H = [], ?_, ?_⟩
  · rintro loc H ⟨rfl, rfl⟩
    (refine wpSs_cons.mpr ?_; tm_at "wps")
    refine ⟨_, _, .fl (Rds.ints ns), .fl (Rds.ints ns), ?_⟩
    rw [show (PyData.list (ns.map PyData.int)).eqv (PyData.list (ns.map PyData.int)) = true from eqv_ints ns]
    tm_at "wps"
    refine ⟨_, _, .fl (Rds.ofAll fun x hx => .str x (hok x hx)), .fl (Rds.ofAll fun x hx => .str x (hok x hx)), ?_⟩
    rw [show (PyData.list (ms.map PyData.str)).eqv (PyData.list (ms.map PyData.str)) = true from eqv_strs ms]
  · refine ⟨hq, hq, _, _, _, rfl, by simp [smallN]; omega, Rens.ints ns, .nil, comp_map (fun _ => .bool true) (fun x hx k hk => opt_bind0 hk) ?_ ?_⟩
    · intro x hx k hk'
      obtain ⟨i, hi, rfl⟩ := List.mem_map.mp hx
      refine opt_bind0 ⟨by omega, ?_⟩
      tm_at "wps"
      refine CallP.plain (.cons (.int i) .nil) (hw i) ?_
      rintro v Hc ⟨rfl, rfl⟩
      exact ⟨_, .bool _, .inr (.bool _), hk'⟩
    · refine ⟨ns.map fun _ => true, by simp, ?_⟩
      have e1 : (ns.map fun _ => true).all id = true := by simp
      rw [e1]
      tm_at "wps"
      refine ⟨hq, hq, _, _, _, rfl, by simp [smallN]; omega, Rens.strs ms, .nil, comp_map (fun _ => .bool true) (fun x hx k hk => opt_bind0 hk) ?_ ?_⟩
      · intro x hx k hk'
        obtain ⟨i, hi, rfl⟩ := List.mem_map.mp hx
        refine opt_bind0 ?_
        tm_at "wps"
        exact ⟨_, .bool _, .inr (.bool _), hk'⟩
      · refine ⟨ms.map fun _ => true, by simp, ?_⟩
        have e1 : (ms.map fun _ => true).all id = true := by simp
        rw [e1]
        tm_at "wps"
        refine wpSs_nil.mpr ⟨_, _, .inr ⟨[], RenH.nil, ?_⟩, rfl, rfl⟩
        refine .keep (.tup (.cons (.fl (Rens.ints ns)) (.cons (.fl (Rens.strs ms)) .nil))) (.keep (.tup (.cons (.fl (Rens.ints ns)) (.cons (.fl (Rens.strs ms)) .nil))) .nil)

open PySem PyProof.Rows PySem.SeqAt

/-- a pair of lists is given back -/
noncomputable def Gives (a : List Int) (b : List Str) (v : AV) (H : AH) : Prop := v = .tup [.ref 0, .ref 1] ∧ H = [a.map AV.int, b.map AV.str]
theorem rens2 {H : AH} {ns : List Int} {ms : List Str} : Ren [] H (.tup [.fl (ns.map AV.int), .fl (ms.map AV.str)]) (.tup [.fl (ns.map AV.int), .fl (ms.map AV.str)]) := .tup (.cons (.fl (Rens.ints _)) (.cons (.fl (Rens.strs _)) .nil))
theorem CallJ.only {P : PC} {l : Lv} {f : Nat} {vs : List AV} {b : Bool} {X : Str → Prop} (h : CallJ P l f vs (fun v _ => v = .bool b) X) : CallJ P l f vs (fun v H => v = .bool b ∧ H = []) X :=
  CallJ.ren (h.mono fun v H e => ⟨[], [], .bool b, RenH.nil, by subst e; exact .bool b, rfl, rfl⟩)
theorem nofl_only {b : Bool} {v : AV} {H : AH} (h : v = .bool b ∧ H = []) : NoFl v ∧ ∀ xs ∈ H, NoFls xs := by
  obtain ⟨rfl, rfl⟩ := h
  exact ⟨.bool _, by simp⟩
theorem frz2 {H : AH} {i j : Nat} {na : List Int} {mb : List Str} (hi : H[i]? = some (na.map AV.int)) (hj : H[j]? = some (mb.map AV.str)) : Ren [] H (.tup [.ref i, .ref j]) (.tup [.fl (na.map AV.int), .fl (mb.map AV.str)]) :=
  .tup (.cons (.frz (by simp) hi (Rens.ints _)) (.cons (.frz (by simp) hj (Rens.strs _)) .nil))

-- the strip's places
section
variable {P : PC} {l : Lv} {f : Nat} {ps rest : List Str} {X : Str → Prop} {ns : List Int} {ms : List Str}
end
open PySem PyProof.Rows PySem.SeqAt

/-- a def's form, by computation -/
theorem FnIs.of {prog : Program} {w : World} {mg mb : Str → Option Value} {consts : List (Str × AV)} {defs : List DefRec} {own : Str → Addr → Option Bool} {sup : Addr} {f : Nat} {ps rest : List Str} {cs : List CS} (h : f < defs.length)
    (hs : defOk (defs[f]'h).scope ps rest = true) (hc : allSome ((defs[f]'h).body.map (compS ⟨defs.map (·.name), consts⟩ 40 (fun x => (defs[f]'h).scope.names.lookup x) (ps ++ rest))) = some cs)
    (hb : ∀ xs pm code doc, xs.length = ps.length → bindArgs (Calls.docDef (defs[f]'h).name (defs[f]'h).params (defs[f]'h).body (defs[f]'h).scope pm code doc) ⟨xs, []⟩ = pure (ps.zip xs)) :
    FnIs ⟨prog, w, mg, mb, ⟨defs.map (·.name), consts⟩, defs, own, sup⟩ f ps rest cs :=
  ⟨(defs[f]'h).name, defs[f]'h, 40, by simp [h], by simp [h], hs, hc, hb⟩
theorem FnIs.of1 {prog : Program} {w : World} {mg mb : Str → Option Value} {consts : List (Str × AV)} {defs : List DefRec} {own : Str → Addr → Option Bool} {sup : Addr} {f : Nat} {ps rest : List Str} {cs : List CS} (h : f < defs.length)
    (hs : defOk (defs[f]'h).scope ps rest = true) (hc : allSome ((defs[f]'h).body.map (compS ⟨defs.map (·.name), consts⟩ 40 (fun x => (defs[f]'h).scope.names.lookup x) (ps ++ rest))) = some cs) (hl : ps.length = 1)
    (hb : ∀ a pm code doc, bindArgs (Calls.docDef (defs[f]'h).name (defs[f]'h).params (defs[f]'h).body (defs[f]'h).scope pm code doc) ⟨[a], []⟩ = pure (ps.zip [a])) :
    FnIs ⟨prog, w, mg, mb, ⟨defs.map (·.name), consts⟩, defs, own, sup⟩ f ps rest cs :=
  FnIs.of h hs hc fun xs pm code doc e => by
    rw [hl] at e
    rcases xs with _ | ⟨a, _ | ⟨b9, r⟩⟩
    · cases e
    · exact hb a pm code doc
    · cases e
theorem FnIs.of2 {prog : Program} {w : World} {mg mb : Str → Option Value} {consts : List (Str × AV)} {defs : List DefRec} {own : Str → Addr → Option Bool} {sup : Addr} {f : Nat} {ps rest : List Str} {cs : List CS} (h : f < defs.length)
    (hs : defOk (defs[f]'h).scope ps rest = true) (hc : allSome ((defs[f]'h).body.map (compS ⟨defs.map (·.name), consts⟩ 40 (fun x => (defs[f]'h).scope.names.lookup x) (ps ++ rest))) = some cs) (hl : ps.length = 2)
    (hb : ∀ a b pm code doc, bindArgs (Calls.docDef (defs[f]'h).name (defs[f]'h).params (defs[f]'h).body (defs[f]'h).scope pm code doc) ⟨[a, b], []⟩ = pure (ps.zip [a, b])) :
    FnIs ⟨prog, w, mg, mb, ⟨defs.map (·.name), consts⟩, defs, own, sup⟩ f ps rest cs :=
  FnIs.of h hs hc fun xs pm code doc e => by
    rw [hl] at e
    rcases xs with _ | ⟨a, _ | ⟨b, _ | ⟨b9, r⟩⟩⟩
    · cases e
    · cases e
    · exact hb a b pm code doc
    · cases e
theorem FnIs.of3 {prog : Program} {w : World} {mg mb : Str → Option Value} {consts : List (Str × AV)} {defs : List DefRec} {own : Str → Addr → Option Bool} {sup : Addr} {f : Nat} {ps rest : List Str} {cs : List CS} (h : f < defs.length)
    (hs : defOk (defs[f]'h).scope ps rest = true) (hc : allSome ((defs[f]'h).body.map (compS ⟨defs.map (·.name), consts⟩ 40 (fun x => (defs[f]'h).scope.names.lookup x) (ps ++ rest))) = some cs) (hl : ps.length = 3)
    (hb : ∀ a b c pm code doc, bindArgs (Calls.docDef (defs[f]'h).name (defs[f]'h).params (defs[f]'h).body (defs[f]'h).scope pm code doc) ⟨[a, b, c], []⟩ = pure (ps.zip [a, b, c])) :
    FnIs ⟨prog, w, mg, mb, ⟨defs.map (·.name), consts⟩, defs, own, sup⟩ f ps rest cs :=
  FnIs.of h hs hc fun xs pm code doc e => by
    rw [hl] at e
    rcases xs with _ | ⟨a, _ | ⟨b, _ | ⟨c, _ | ⟨b9, r⟩⟩⟩⟩
    · cases e
    · cases e
    · cases e
    · exact hb a b c pm code doc
    · cases e
section
variable {P : PC} {X : Str → Prop} {sc : List Int} {fc fu fs fl : Nat} {p1 r1 p2 r2 p3 r3 p4 r4 : List Str}
theorem cell_all (Fc : FnIs P fc p1 r1 cs_cell_at) (h1 : p1.length = 2) (h2 : r1.length = 0) (hn : sc.length ≤ 63) {k : Nat} (hk : 0 < k) : ∀ j : Int, 0 ≤ j → j < 100000 → CallJ P ⟨k, true⟩ fc [.fl (sc.map AV.int), .int j] IsCell X :=
  fun _ h0 h3 => cell_at_ok Fc h1 h2 hk rfl hn h0 h3
theorem strip_all (Fc : FnIs P fc p1 r1 cs_cell_at) (Fu : FnIs P fu p2 r2 (cs_unfolded fc)) (Fs : FnIs P fs p3 r3 (cs_strip fc fu)) (h1 : p1.length = 2) (h2 : r1.length = 0) (h3 : p2.length = 3) (h4 : r2.length = 8) (h5 : p3.length = 1) (h6 : r3.length = 8)
    (hn : sc.length ≤ 63) {k : Nat} (hk : 4 < k) : CallJ P ⟨k, true⟩ fs [.fl (sc.map AV.int)] (GivesStrip 1000) X :=
  strip_ok Fs h5 h6 (show 2 < k by omega) rfl (cell_all Fc h1 h2 hn (by show 0 < k - 1; omega)) fun _ _ a b c d => unfolded_ok Fu h3 h4 (show 1 < k - 1 by omega) rfl (cell_all Fc h1 h2 hn (by show 0 < k - 1 - 1; omega)) a b c d
end

open PySem PyProof.Rows PySem.SeqAt

theorem execs_app0 {M : Model} {Γ : Ctx} {env : Env} (b : List PySem.Stmt) {Q : Flow → Pos → Shared → Prop} {E : Value → Pos → Shared → Prop} : ∀ (a : List PySem.Stmt) {p : Pos} {s : Shared},
    Sem.wp M Γ (execs a env) (fun f p' s₁ => match f with | .next => Sem.wp M Γ (execs b env) Q E p' s₁ | f => Q f p' s₁) E p s → Sem.wp M Γ (execs (a ++ b) env) Q E p s
  | [], _, _, h => h
  | st :: a, p, s, h => by
    show Sem.wp M Γ (execs (st :: (a ++ b)) env) Q E p s
    rw [execs_cons, Sem.wp_bind'] at h ⊢
    refine Sem.wp_mono M Γ _ (fun f p' s' h' => ?_) (fun _ _ _ h' => h') _ _ h
    cases f with
    | next => exact execs_app0 b a h'
    | _ => exact h'
/-- a block in two parts -/
theorem execs_app {M : Model} {A : Around} {env : Env} {E : Value → Shared → Prop} {Q : Flow → Shared → Prop} {s : Shared} {a b : List PySem.Stmt}
    (h : wpAny M A (execs a env) (fun f s₁ => match f with | .next => wpAny M A (execs b env) Q E s₁ | f => Q f s₁) E s) : wpAny M A (execs (a ++ b) env) Q E s := fun Γ p hΓ =>
  execs_app0 b a (Sem.wp_mono M Γ _ (fun f p' s' h' => by
    cases f with
    | next => exact h' Γ p' hΓ
    | _ => exact h') (fun _ _ _ h' => h') _ _ (h Γ p hΓ))

/-- a call that raises -/
noncomputable def CallX (P : PC) (l : Lv) (f : Nat) (vs : List AV) (K : Addr) : Prop :=
  ∀ (A : Around) (s : Shared) (S : Sx) (xs : List Value) (x : Str) (a : Addr) (base : Heap) (outer : List Env), Aok l A → GOk P s.heap → P.nt.fns[f]? = some x → P.mg x = some (.ref a) → S.prog = P.prog → S.w = P.w → SD S s.heap → VRels S [] s.heap vs xs →
    A.frames = some outer → base.StaysIn s.heap → s.heap.FunFrames base outer →
    codeAny (model P.prog P.w) A (.call (.ref a) ⟨xs, []⟩) (fun r s' => ∃ e t h' tk, r = .error (.ref e) ∧ s' = { s with heap := h', toks := tk } ∧ Heap.FlyingW base outer e (.ref K) (.ref t) h' ∧ s.heap.UpToSlots h') s

section
variable {P : PC} {l : Lv} {A : Around} {env : Env} {names : List Str} {S : Sx} {ρ : List Addr} {loc : List (Option AV)} {H : AH} {s : Shared} {E : Value → Shared → Prop}

theorem raise_ok (ho : EnvOk env) (C : Cx P l A env names S ρ loc H s) (hh : A.handled = none) {c m : Str} (hg : isGlob env.kindOf c = true) {K Z : Addr} (hc : P.mg c = some (.ref K)) (X : XCls s.heap K Z) {np cp rp kp : Pos} {kk : Nat} {Q : Flow → Shared → Prop}
    (h : ∀ h1 tk h' e vs, Kp s.heap h1 → Heap.MadeExcOf h1 h' e (.ref K) vs → E (.ref e) { s with heap := h', toks := tk }) :
    wpAny (model P.prog P.w) A (exec (.Raise (some (.Call (.Name c np) [.Constant (.str m) kk kp] [] cp)) none rp) env) Q E s := by
  unfold isGlob at hg
  simp at hg
  have hd : (c == ("__debug__" : Str)) = false := by simpa using hg.2
  obtain ⟨_, N, mN, h1, ⟨nm, q, bs, hdct, sn, sub, ab, col, dd, k0, k1, k2, k3, k5, rfl⟩, h2, h3⟩ := X.obj
  refine wpAny_Raise_call_subU (C := K) (nm := nm) (q := q) (N := N) (bs := bs) (bm := .ref Z :: veMro) (hdct := hdct) (sn := sn) (sub := sub) (ab := ab) (col := col) (dd := dd) (k0 := k0) (k1 := k1) (k2 := k2) (k3 := k3) (k5 := k5) (mN := mN) (bmB := veMro)
    F.excBase_ValueError rfl F.excBase_ValueError rfl hh rfl (h3 _ (.tail _ (.head _))) (Calls.Name_function_global ho.1 hg.1 (Calls.loadGlobal_global (by rw [ho.2.1]; exact C.gok.g) hc ⟨rfl, ?_⟩) hd)
  have hargs := args_ok (X := fun _ => False) (E := E) (pos := cp) (fun e c h => (expr_ok (l := l) (rfl : P.nt = P.nt) 1 env names ho e c h).1) [.Constant (.str m) kk kp] [.const (.str m)] rfl (Q := fun vs _ => vs = [.str m]) C exOk_any rfl
  refine Calls.evalArgs_plain (wpAny_mono hargs (fun vs s₂ hv => ?_) fun _ _ y => y)
  obtain ⟨h1', tk, e, vs', G, rfl, k, f, X', V, q⟩ := hv
  have hl := V.length
  rw [q] at hl
  exact ⟨rfl, (by show vs.length ≤ sizeLine; rw [← hl]; exact (by decide : 1 ≤ sizeLine)), k _ _ h1, h2.keeps k, (X.keeps k).tail.tail, fun h' e hm => h _ _ _ _ _ k hm⟩
end

open PySem PyProof.Rows PySem.SeqAt

/-- all but L is kept, up to a frame's own notes -/
noncomputable def UpBut (L : Addr) (h h' : Heap) : Prop := ∀ b o, b ≠ L → h.get? b = some o → (∀ vs, o.data ≠ .fields vs) → ∃ sl, h'.get? b = some { o with slots := sl }

/-- a try whose block raises, and whose clause takes it by the class above -/
theorem try_ok {P : PC} {A : Around} {env : Env} {s : Shared} {base : Heap} {outer : List Env} {K : Addr} {z n : Str} {zp hp tp : Pos} {body suite : List PySem.Stmt} {b₀ : PySem.Stmt} {m₀ : Str → Option Value} {Q : Flow → Shared → Prop} {E : Value → Shared → Prop}
    (ho : EnvOk env) (efr : env.frame = some env.locals) (hfr : A.frames = some (env :: outer)) (hg : isGlob env.kindOf z = true) (hz : P.mg z = some (.ref P.sup)) (hn : env.kindOf n = some .local) (hG : GOk P base) (XC : XCls base K P.sup) (hns : s.heap.Ns env.locals m₀)
    (hbody : wpAny (model P.prog P.w) A (execs body env) (fun _ _ => False) (fun e s' => ∃ e' t h' tk, e = .ref e' ∧ s' = { s with heap := h', toks := tk } ∧ Heap.FlyingW base (env :: outer) e' (.ref K) (.ref t) h' ∧ s.heap.UpToSlots h') s)
    (hsuite : ∀ e h' tk, base.StaysIn h' → XI h' e K → h'.Ns env.locals (fun x => if x = n then some (.ref e) else m₀ x) →
      wpAny (model P.prog P.w) (A.mark (some (.ref e))) (execs (b₀ :: suite) env) (fun f s' => ∃ h2 tk2, s' = { s with heap := h2, toks := tk2 } ∧ Kp h' h2 ∧ ∀ h3 tk3, base.StaysIn h3 → UpBut env.locals s.heap h3 → Q f { s with heap := h3, toks := tk3 }) (fun _ _ => False) { s with heap := h', toks := tk }) :
    wpAny (model P.prog P.w) A (exec (.Try body [.ExceptHandler (some (.Name z zp)) (some n) (b₀ :: suite) hp] [] [] tp) env) Q E s := by
  refine wpAny_Try_except (wpAny_mono hbody (fun _ _ y => y.elim) fun e s' hE => ?_)
  obtain ⟨e, t, h', tk, rfl, rfl, hfl, hup⟩ := hE
  refine wpAny_looks_onW hfr efr hfl fun h₄ hheld₄ hsm₄ => ?_
  refine wpAny_landsW hheld₄ fun h₅ hfl₅ hsm₅ => ?_
  have up5 := (hup.trans hsm₄).trans hsm₅
  obtain ⟨oe, hoe, hoc⟩ := hfl₅.there
  unfold isGlob at hg
  simp at hg
  have hd : (z == ("__debug__" : Str)) = false := by simpa using hg.2
  have hsc : (env.scope.kind == .class || (env.scope.kind == .module && env.locals != env.globals)) = false := by rw [ho.1]; rfl
  refine wpAny_handleBy_cons (codeAny_handlers_test (Calls.Name_function_global ho.1 hg.1 (Calls.loadGlobal_global (by rw [ho.2.1]; exact hG.g.keeps hfl₅.1) hz ?_) hd)) (by intro q; cases q)
  refine matches_x (XC.keeps hfl₅.1) hoe hoc (codeAny_handlers_suite_as ?_)
  refine lands_againW hfl₅ fun h₆ hfl₆ hsm₆ => ?_
  have up6 := up5.trans hsm₆
  obtain ⟨oe', hoe', hoc'⟩ := hfl₆.there
  have hLb : base.get? env.locals = none := by
    obtain ⟨_, ⟨L, _, hf, hn', _⟩, _⟩ := hfl₆.2.2.1
    rw [efr] at hf; cases hf; exact hn'
  have hne : ∀ b o, base.get? b = some o → b ≠ env.locals := fun b o q e => by rw [e, hLb] at q; cases q
  refine wpAny_storeName_local hn (up6.ns hns) (fun h₇ hn₇ hs₇ => ?_) hsc
  have heL : e ≠ env.locals := fun q => by
    obtain ⟨o, es, ep, ho', hd', _⟩ := up6.ns hns
    obtain ⟨oe2, ws, g1, _, g2, _⟩ := hfl₆.first
    rw [q, ho'] at g1; cases g1
    rw [hd'] at g2; cases g2
  refine wpAny_mono (hsuite e h₇ _ (fun b o q => hs₇.extBut b o (hne b o q) (hfl₆.1 b o q)) ⟨oe', hs₇.extBut e _ heL hoe', hoc'⟩ hn₇) (fun f s₃ hs => ?_) fun _ _ y => y.elim
  obtain ⟨h2, tk2, rfl, k, hQ⟩ := hs
  refine wpAny_nameGoes hn (hn₇.keeps k) hsc fun h₈ m₈ hn₈ hs₈ => hQ h₈ _ (fun b o q => hs₈.extBut b o (hne b o q) (k b o (hs₇.extBut b o (hne b o q) (hfl₆.1 b o q)))) fun b o hb q hnf => ?_
  obtain ⟨sl, q6⟩ := up6 b o q hnf
  exact ⟨sl, hs₈.extBut b _ hb (k b _ (hs₇.extBut b _ hb q6))⟩

/-- a block that raises -/
noncomputable def RaisesX (P : PC) (l : Lv) (K : Addr) (kd : Str → Option NameKind) (names : List Str) (b : List PySem.Stmt) (loc : Loc) : Prop :=
  ∀ (A : Around) (env : Env) (S : Sx) (s : Shared) (base : Heap) (outer : List Env), Cx P l A env names S [] loc [] s → EnvOk env → env.kindOf = kd → A.frames = some (env :: outer) → base.StaysIn s.heap → s.heap.FunFrames base (env :: outer) →
    wpAny (model P.prog P.w) A (execs b env) (fun _ _ => False) (fun e s' => ∃ e' t h' tk, e = .ref e' ∧ s' = { s with heap := h', toks := tk } ∧ Heap.FlyingW base (env :: outer) e' (.ref K) (.ref t) h' ∧ s.heap.UpToSlots h') s

/-- a call that gives a truth, and may note something in the frames -/
noncomputable def CallS (P : PC) (l : Lv) (f : Nat) (vs : List AV) (b : Bool) : Prop :=
  ∀ (A : Around) (s : Shared) (S : Sx) (xs : List Value) (x : Str) (a : Addr) (base : Heap) (outer : List Env), Aok l A → GOk P base → P.nt.fns[f]? = some x → P.mg x = some (.ref a) → S.prog = P.prog → S.w = P.w → SD S s.heap → VRels S [] s.heap vs xs →
    A.frames = some outer → base.StaysIn s.heap → s.heap.FunFrames base outer →
    codeAny (model P.prog P.w) A (.call (.ref a) ⟨xs, []⟩) (fun r s' => ∃ h' tk, r = .ok (.ret (.bool b)) ∧ s' = { s with heap := h', toks := tk } ∧ base.StaysIn h' ∧ s.heap.UpToSlots h') s

open PySem PyProof.Rows PySem.SeqAt PySem.W

section
variable {K : FC} {ρ : List Addr} {loc : Loc} {H : AH} {s : Shared} {h' : Heap} {tk : Nat} {E : Value → Shared → Prop}

/-- a note in the frame's own object -/
theorem Fr.noted (F : Fr K ρ loc H s) (hk : ∀ b o, b ≠ K.env.locals → s.heap.get? b = some o → h'.get? b = some o) (hu : s.heap.UpToSlots h') : Fr K ρ loc H { s with heap := h', toks := tk } := by
  obtain ⟨m, cm, I, q⟩ := F.ic
  have hk' : ∀ c o, c ∉ K.S.ad → s.heap.get? c = some o → h'.get? c = some o := fun c o hc e => hk c o (fun q => hc (q ▸ F.hL)) e
  have hns := hu.ns I.toInCall.ns
  exact { aok := F.aok, eok := F.eok, nd := F.nd, g0 := F.g0, pp := F.pp, pw := F.pw
          sd := fun a ha => by
            by_cases hab : a = K.env.locals
            · subst hab; obtain ⟨o, _, _, ho, _⟩ := hns; exact ⟨o, ho⟩
            · obtain ⟨o, ho⟩ := F.sd a ha; exact ⟨o, hk a o hab ho⟩
          sim := F.sim.chg hk'
          fr := F.fr, sub := F.sub, hL := F.hL, hC := F.hC, len := F.len
          ic := ⟨m, cm, ⟨⟨let ⟨_, _, e⟩ := I.toInCall.same; ⟨h', tk, by rw [e]⟩, hns, fun b o e => hk b o (Nat.ne_of_lt (Nat.lt_of_lt_of_le (Heap.lt_size e) I.toInCall.fresh)) (I.toInCall.keep b o e), I.toInCall.fresh⟩,
            fun n c hc => let ⟨o, ho, r⟩ := I.cell n c hc; ⟨o, hk c o (Nat.ne_of_gt (I.above n c (mem_of_lookup hc))) ho, r⟩, I.apart, I.above⟩, fun i x v e1 e2 => let ⟨rv, h1, h2⟩ := q i x v e1 e2; ⟨rv, h1, h2.chg hk'⟩⟩
          hh := fun i rv v e1 e2 => (F.hh i rv v e1 e2).chg hk' }

/-- a call that notes something, in the outermost def -/
theorem callS_evK {g : Str} {gi n : Nat} {gp cp : Pos} {a0 : PySem.Expr} {args : List PySem.Expr} {c0 : CE} {cs : List CE} {b : Bool} {R : AH → Prop} {Q : Value → Shared → Prop} (F : Fr K ρ loc H s) (hA : K.A.frames = some [K.env]) (efr : K.env.frame = some K.env.locals)
    (hg : isGlob K.env.kindOf g = true) (hgi : K.P.nt.fns[gi]? = some g) (he : allSome ((a0 :: args).map (compE K.P.nt n K.env.kindOf K.names)) = some (c0 :: cs))
    (hw : wpEs K.P K.l (fun _ => False) (c0 :: cs) loc H fun vs H' => ∃ vs', Rens [] H' vs vs' ∧ CallS K.P K.l gi vs' b ∧ R H')
    (hQ : ∀ ρ' H' s', Fr K ρ' loc H' s' → R H' → (∀ b o, b ≠ K.env.locals → s.heap.get? b = some o → s'.heap.get? b = some o) → Q (.bool b) s') : wpAny (model K.P.prog K.P.w) K.A (eval (.Call (.Name g gp) (a0 :: args) [] cp) K.env) Q E s := by
  have C := F.cx
  have ho := F.eok
  obtain ⟨a, o, ea, eo, fd, efd⟩ := C.gok.fn gi g hgi
  unfold isGlob at hg
  simp at hg
  have hd : (g == ("__debug__" : Str)) = false := by simpa using hg.2
  obtain ⟨c1, t1, e1, e2, e3⟩ := allSome_cons he
  refine Call_ (Calls.Name_function_global ho.1 hg.1 (Calls.loadGlobal_global (by rw [ho.2.1]; exact C.gok.g) ea ?_) hd)
  refine callWith_def efd (EPs.then (args_ok (X := fun _ => False) (fun e c h => (expr_ok (l := K.l) (rfl : K.P.nt = K.P.nt) n K.env K.names ho e c h).1) (a0 :: args) (c0 :: cs) he C exOk_any hw) fun xs h1 tk1 n1 vs G1 k1 f1 X1 V1 qq => ?_) (not_starred e1 args)
  obtain ⟨vs', Rn, hS, hR⟩ := qq
  have F1 := F.kp (tk := tk1) k1 f1 X1
  have C1 := F1.cx
  obtain ⟨m, cm, I, _⟩ := F1.ic
  have hb : (hideAll h1 [K.env.locals]).StaysIn h1 := fun b o q => of_hideAll _ q
  have hnk : K.env.scope.kind ≠ .module := by rw [ho.1]; decide
  have hg0 : GOk K.P (hideAll h1 [K.env.locals]) := F1.g0.kp fun b o q => hideAll_get _ (F1.keep b o q) fun hm => by
    rw [List.mem_singleton] at hm
    exact Nat.ne_of_lt (Nat.lt_of_lt_of_le (Heap.lt_size q) I.toInCall.fresh) hm
  refine ⟨k1 _ _ eo, wpAny_call (codeAny_mono (hS K.A { s with heap := h1, toks := tk1 } K.S xs g a _ [K.env] C1.aok hg0 hgi ea C1.pp C1.pw C1.sd (V1.frz X1 Rn) hA hb (.cons hnk efr I.toInCall.ns (hideAll_none _ (.head _)) trivial)) fun r s' hr => ?_)⟩
  obtain ⟨h2, tk2, rfl, rfl, hb2, hu2⟩ := hr
  have hk2 : ∀ b o, b ≠ K.env.locals → h1.get? b = some o → h2.get? b = some o := fun b o hb q => hb2 b o (hideAll_get _ q fun hm => hb (List.mem_singleton.mp hm))
  exact hQ _ _ _ (F1.noted (tk := tk2) hk2 hu2) hR fun b o hb q => hk2 b o hb (k1 b o q)
theorem callS_ev {g : Str} {gi n : Nat} {gp cp : Pos} {a0 : PySem.Expr} {args : List PySem.Expr} {c0 : CE} {cs : List CE} {b : Bool} {R : AH → Prop} {Q : Value → Shared → Prop} (F : Fr K ρ loc H s) (hA : K.A.frames = some [K.env]) (efr : K.env.frame = some K.env.locals)
    (hg : isGlob K.env.kindOf g = true) (hgi : K.P.nt.fns[gi]? = some g) (he : allSome ((a0 :: args).map (compE K.P.nt n K.env.kindOf K.names)) = some (c0 :: cs))
    (hw : wpEs K.P K.l (fun _ => False) (c0 :: cs) loc H fun vs H' => ∃ vs', Rens [] H' vs vs' ∧ CallS K.P K.l gi vs' b ∧ R H')
    (hQ : ∀ ρ' H' s', Fr K ρ' loc H' s' → R H' → Q (.bool b) s') : wpAny (model K.P.prog K.P.w) K.A (eval (.Call (.Name g gp) (a0 :: args) [] cp) K.env) Q E s :=
  callS_evK F hA efr hg hgi he hw fun ρ' H' s' F' r _ => hQ ρ' H' s' F' r
end

open PySem PyProof.Rows PySem.SeqAt

noncomputable def one {α : Type} : List α → Option α
  | [a] => some a
  | _ => none
open PySem PyProof.Rows PySem.SeqAt

section
variable {K : FC} {ρ : List Addr} {loc : Loc} {H : AH} {s : Shared} {E : Value → Shared → Prop}
/-- not G(..), in the outermost def -/
theorem notS_ev {g : Str} {gi n : Nat} {gp cp up : Pos} {a0 : PySem.Expr} {args : List PySem.Expr} {c0 : CE} {cs : List CE} {b : Bool} {R : AH → Prop} {Q : Bool → Shared → Prop} (F : Fr K ρ loc H s) (hA : K.A.frames = some [K.env]) (efr : K.env.frame = some K.env.locals)
    (hg : isGlob K.env.kindOf g = true) (hgi : K.P.nt.fns[gi]? = some g) (he : allSome ((a0 :: args).map (compE K.P.nt n K.env.kindOf K.names)) = some (c0 :: cs))
    (hw : wpEs K.P K.l (fun _ => False) (c0 :: cs) loc H fun vs H' => ∃ vs', Rens [] H' vs vs' ∧ CallS K.P K.l gi vs' b ∧ R H')
    (hQ : ∀ ρ' H' s', Fr K ρ' loc H' s' → R H' → Q (!b) s') : wpAny (model K.P.prog K.P.w) K.A (isTrue (.UnaryOp .Not (.Call (.Name g gp) (a0 :: args) [] cp) up) K.env (eval (.UnaryOp .Not (.Call (.Name g gp) (a0 :: args) [] cp) up) K.env)) Q E s := by
  show wpAny _ K.A (do return !(← isTrue (.Call (.Name g gp) (a0 :: args) [] cp) K.env (eval (.Call (.Name g gp) (a0 :: args) [] cp) K.env))) _ _ s
  refine wpAny_bind ?_
  show wpAny _ K.A (do let v ← eval (.Call (.Name g gp) (a0 :: args) [] cp) K.env; standAt (PySem.Expr.Call (.Name g gp) (a0 :: args) [] cp).pos; holding [v] (truthy v)) _ _ s
  exact wpAny_bind (callS_ev F hA efr hg hgi he hw fun ρ' H' s' F' r => wpAny_bind (wpAny_standAt (wpAny_holding (wpAny_truthy_bool (wpAny_pure (hQ ρ' H' s' F' r))))))
end

open PySem PyProof.Rows PySem.SeqAt

noncomputable def kdOf (d : DefRec) : Str → Option NameKind := fun x => d.scope.names.lookup x
section
variable {prog : Program} {w : World} {mg mb : Str → Option Value} {consts : List (Str × AV)} {defs : List DefRec} {own : Str → Addr → Option Bool} {sup : Addr} {f : Nat} {ps rest : List Str}
end
theorem law_callS {P : PC} {s₁ : Shared} {fa l : Addr} {ns : List Int} {Pa : Params} {Q : Value → Shared → Prop} {E : Value → Shared → Prop}
    (hw : PySem.W.Well Pa s₁.heap (.ref l) (PySem.W.ofPy (PyData.list (ns.map PyData.int))))
    (hc : ∀ (S : Sx) (xs : List Value), S.prog = P.prog → S.w = P.w → SD S s₁.heap → VRels S [] s₁.heap [.fl (ns.map AV.int)] xs → Aok ⟨20, true⟩ callerA → callerA.frames = some [] →
      codeAny (model P.prog P.w) callerA (.call (.ref fa) ⟨xs, []⟩) (fun r s' => ∃ h' tk, r = .ok (.ret (.bool true)) ∧ s' = { s₁ with heap := h', toks := tk } ∧ Kp s₁.heap h') s₁)
    (h : ∀ h' tk, Kp s₁.heap h' → Q (.bool true) { s₁ with heap := h', toks := tk }) : wpAny (model P.prog P.w) callerA (call (.ref fa) [.ref l]) Q E s₁ := by
  have hpl : ∃ vs, s₁.heap.PlainList l vs ∧ VRels ⟨[], P.prog, P.w⟩ [] s₁.heap (ns.map AV.int) vs.toList := by
    have e : PySem.W.ofPy (PyData.list (ns.map PyData.int)) = .list (ns.map PySem.W.WData.int) := by
      simp only [PySem.W.ofPy, ofPy_ints]
    rw [e] at hw
    cases hw with
    | list hg hwl => exact ⟨_, ⟨_, hg⟩, by simpa using ints_of_well hwl rfl _ _ _⟩
  obtain ⟨vs, hp, V⟩ := hpl
  refine wpAny_call (codeAny_mono (hc ⟨[], P.prog, P.w⟩ [.ref l] rfl rfl (fun _ h => nomatch h) (.cons (.fl (fun h => nomatch h) (fun h => nomatch h) hp V) .nil) ⟨fun _ => rfl, by decide, by decide⟩ rfl) fun r s' hr => ?_)
  obtain ⟨h', tk, rfl, rfl, k⟩ := hr
  exact h h' tk k
theorem bind1 {d : DefRec} {ps : List Str} (hl : ps.length = 1) (hb : ∀ a pm code doc, bindArgs (Calls.docDef d.name d.params d.body d.scope pm code doc) ⟨[a], []⟩ = pure (ps.zip [a])) (xs : List Value) (pm : Value) (code : Value) (doc : Value) (e : xs.length = ps.length) :
    bindArgs (Calls.docDef d.name d.params d.body d.scope pm code doc) ⟨xs, []⟩ = pure (ps.zip xs) := by
  rw [hl] at e
  rcases xs with _ | ⟨a, _ | ⟨b9, r⟩⟩
  · cases e
  · exact hb a pm code doc
  · cases e

open PySem

/-- an exception in flight, whatever its mark -/
noncomputable def FlyA (base : Heap) (l : List Env) (e K : Addr) (h : Heap) : Prop := base.StaysIn h ∧ base.get? e = none ∧ h.FunFrames base l ∧ ∃ t fl, h.TracedAtW base e (.ref K) (.ref t) fl
section
variable {M : Model} {A : Around} {E : Value → Shared → Prop} {s : Shared} {base h : Heap} {env : Env} {outer l : List Env} {L e K t : Addr} {Q : Unit → Shared → Prop}

theorem FlyA.of (x : Heap.FlyingW base l e (.ref K) (.ref t) h) : FlyA base l e K h := let ⟨a, b, c, d⟩ := x; ⟨a, b, c, t, _, d⟩
theorem note_any (hfr : A.frames = some (env :: outer)) (hf : env.frame = some L) (x : FlyA base (env :: outer) e K s.heap) (hQ : ∀ h', FlyA base (env :: outer) e K h' → s.heap.UpToSlots h' → Q () { s with heap := h' }) : wpAny M A (noteFrame (.ref e) env) Q E s := by
  obtain ⟨f1, f2, f3, t, fl, ht⟩ := x
  by_cases hl : fl = rawInt L
  · subst hl
    exact wpAny_noteFrame_againW hf ht (hQ s.heap ⟨f1, f2, f3, t, _, ht⟩ (Heap.UpToSlots.refl _))
  · obtain ⟨oe, vs, T, oT, ts, he, ⟨hcls, h0⟩, hd, h1, hnT, hTe, hT, hdT, h3⟩ := ht
    unfold noteFrame
    simp only [hf]
    refine wpAny_bind (wpAny_field he hd h1 ?_)
    rw [if_pos (show (Value.ref T != Value.none) = true from by simp)]
    refine wpAny_bind (wpAny_field hT hdT h3 ?_)
    rw [if_neg (show ¬ ((fl == rawInt L) = true) from by simpa using hl)]
    refine wpAny_bind (wpAny_setField hT hdT (Array.getElem?_eq_some_iff.mp h3).1 ?_)
    have other : ∀ b, b ≠ T → (s.heap.update T (Obj.mapFields (·.setIfInBounds 3 Value.none))).get? b = s.heap.get? b := fun b hb => Heap.get?_update_other _ _ (Ne.symm hb)
    have noRecord : ∀ b o, s.heap.get? b = some o → (∀ vs, o.data ≠ .fields vs) → b ≠ T := fun b o hb hnf q => by
      rw [q, hT] at hb; injection hb with hb; subst hb; exact hnf ts hdT
    refine wpAny_entryW hfr (f3.of_keeps fun b o hb hnf => ⟨o, (other b (noRecord b o hb hnf)).trans hb, rfl⟩) hf ((other e (Ne.symm hTe)).trans he)
      (fun b o hbo => (other b fun q => by rw [q, hnT] at hbo; cases hbo).trans (f1 b o hbo)) f2 hd (Array.getElem?_eq_some_iff.mp h1).1 h0
      fun h' ⟨x1, x2, x3, x4⟩ => hQ h' ⟨x1, f2, x2, t, _, hcls ▸ x3⟩ fun b o hb hnf => x4 b o ((other b (noRecord b o hb hnf)).trans hb) hnf
/-- an exception that was just made -/
theorem note_made {vs : List Value} (hfr : A.frames = some (env :: outer)) (hf : env.frame = some L) (hkb : base.StaysIn h) (hl : h.FunFrames base (env :: outer)) (hx : Heap.MadeExcOf h s.heap e (.ref K) vs)
    (hQ : ∀ h', FlyA base (env :: outer) e K h' → s.heap.UpToSlots h' → Q () { s with heap := h' }) : wpAny M A (noteFrame (.ref e) env) Q E s := by
  obtain ⟨t, he, htn, ht⟩ := hx.there
  have fe : base.get? e = none := by
    cases hq : base.get? e with
    | none => rfl
    | some o' => have := hkb e o' hq; rw [hx.new] at this; cases this
  unfold noteFrame
  simp only [hf]
  refine wpAny_bind (wpAny_field he (x := .none) rfl rfl ?_)
  rw [if_neg (show ¬ ((Value.none != Value.none) = true) from by decide)]
  exact wpAny_entryW (a0 := .ref t) hfr (hl.of_keeps fun b o hb _ => ⟨o, hx.keeps b o hb, rfl⟩) hf he (fun b o hb => hx.keeps b o (hkb b o hb)) fe rfl (by simp) rfl fun h' ⟨x1, x2, x3, x4⟩ => hQ h' ⟨x1, fe, x2, t, _, x3⟩ x4
theorem FlyA.field (x : FlyA base l e K s.heap) : ∃ oe vs T, s.heap.get? e = some oe ∧ oe.data = .fields vs ∧ vs[1]? = some (Value.ref T) := by
  obtain ⟨_, _, _, _, _, oe, vs, T, _, _, he, _, hd, h1, _⟩ := x
  exact ⟨oe, vs, T, he, hd, h1⟩
theorem setF_any {fr : Option Addr} (x : FlyA base l e K s.heap) (hQ : ∀ h', FlyA base l e K h' → s.heap.UpToSlots h' → Q () { s with heap := h' }) : wpAny M A (setFlight (.ref e) fr) Q E s := by
  obtain ⟨f1, f2, f3, t, fl, oe, vs, T, oT, ts, he, hcls, hd, h1, hnT, hTe, hT, hdT, h3⟩ := x
  have hsz3 : 3 < ts.size := (Array.getElem?_eq_some_iff.mp h3).1
  have other : ∀ b, b ≠ T → (s.heap.update T (Obj.mapFields (·.setIfInBounds 3 (fr.elim Value.none fun f => rawInt f)))).get? b = s.heap.get? b := fun b hb => Heap.get?_update_other _ _ (Ne.symm hb)
  have noRecord : ∀ b o, s.heap.get? b = some o → (∀ vs, o.data ≠ .fields vs) → b ≠ T := fun b o hb hnf q => by
    rw [q, hT] at hb; injection hb with hb; subst hb; exact hnf ts hdT
  unfold setFlight
  refine wpAny_bind (wpAny_field he hd h1 ?_)
  rw [if_pos (show (Value.ref T != Value.none) = true from by simp)]
  exact wpAny_setField hT hdT hsz3 (hQ _ ⟨fun b o hbo => (other b fun q => by rw [q, hnT] at hbo; cases hbo).trans (f1 b o hbo), f2, f3.of_keeps fun b o hb hnf => ⟨o, (other b (noRecord b o hb hnf)).trans hb, rfl⟩, t, (fr.elim Value.none fun f => rawInt f), oe, vs, T, _, _, (other e (Ne.symm hTe)).trans he, hcls, hd, h1, hnT, hTe, Heap.get?_update_self _ hT (Obj.isFreed_of_fields (Obj.data_mapFields hdT _)), Obj.data_mapFields hdT _, by simp [hsz3]⟩ fun b o hb hnf => ⟨o.slots, (other b (noRecord b o hb hnf)).trans hb⟩)
theorem flight_any {fr : Option Addr} {w : String} (x : FlyA base l e K s.heap) (hQ : ∀ h', FlyA base l e K h' → s.heap.UpToSlots h' → Q () { s with heap := h' }) : wpAny M A (do
    if (← field (.ref e) 1) == .none then unsupported w
    setFlight (.ref e) fr) Q E s := by
  obtain ⟨oe, vs, T, he, hd, h1⟩ := x.field
  refine wpAny_bind (wpAny_field he hd h1 ?_)
  rw [if_neg (show ¬ ((Value.ref T == Value.none) = true) from by simp)]
  exact setF_any x hQ
theorem pass_any {α : Type} {w : String} {cenv : Env} {Q : α → Shared → Prop} (x : FlyA base l e K s.heap) (hE : ∀ h', FlyA base l e K h' → s.heap.UpToSlots h' → E (.ref e) { s with heap := h' }) : wpAny M A (passOn w (.ref e) cenv : Sem α) Q E s := by
  obtain ⟨oe, vs, T, he, hd, h1⟩ := x.field
  refine wpAny_bind (wpAny_field he hd h1 ?_)
  rw [if_neg (show ¬ ((Value.ref T == Value.none) = true) from by simp)]
  exact wpAny_bind (setF_any x fun h' f u => wpAny_throw (hE h' f u))
/-- the names of a comprehension are let go -/
theorem FlyA.but {h0 h' : Heap} {C : Addr} {m : Str → Option Value} (x : FlyA base l e K h) (hn : h.Ns C m) (hff : h0.FunFrames base l) (hC : h0.get? C = none) (hb : base.StaysIn h0) (hu : h0.UpToSlots h) (hs : Heap.SameBut C h h') : FlyA base l e K h' ∧ h0.UpToSlots h' := by
  obtain ⟨f1, f2, f3, t, fl, oe, vs, T, oT, ts, he, hcls, hd, h1, hnT, hTe, hT, hdT, h3⟩ := x
  have keep : ∀ b o, b ≠ C → h.get? b = some o → h'.get? b = some o := fun b o q e => hs.extBut b o q e
  have off : ∀ b o vs, h.get? b = some o → o.data = .fields vs → b ≠ C := fun b o vs e1 e2 q => by
    obtain ⟨o', es, ep, ho, hd', _⟩ := hn
    rw [q, ho] at e1
    cases e1
    rw [hd'] at e2
    cases e2
  have u' : h0.UpToSlots h' := fun b o e1 e2 => let ⟨sl, e3⟩ := hu b o e1 e2; ⟨sl, keep b _ (fun q => by rw [q, hC] at e1; cases e1) e3⟩
  refine ⟨⟨fun b o q => keep b o (fun q' => ?_) (f1 b o q), f2, hff.of_keeps fun b o e1 e2 => let ⟨sl, e3⟩ := u' b o e1 e2; ⟨_, e3, rfl⟩, t, fl, oe, vs, T, oT, ts, keep e oe (off e oe vs he hd) he, hcls, hd, h1, hnT, hTe, keep T oT (off T oT ts hT hdT) hT, hdT, h3⟩, u'⟩
  have := hb b o q
  rw [q', hC] at this
  cases this
theorem leave_any (hfr : A.frames = some (env :: outer)) (hf : env.frame = some L) (x : FlyA base (env :: outer) e K s.heap) (hQ : ∀ h' t, Heap.FlyingW base outer e (.ref K) (.ref t) h' → s.heap.UpToSlots h' → Q () { s with heap := h' }) : wpAny M A (leaving env (.ref e)) Q E s := by
  refine wpAny_bind (note_any hfr hf x fun h1 x1 u1 => ?_)
  obtain ⟨f1, f2, f3, t, fl, ht⟩ := x1
  exact wpAny_setFlight_noneW f1 f3 ht fun h' k1 k2 k3 k4 => hQ h' t ⟨k1, f2, k2.2.2, k3⟩ (u1.trans fun b o hb hn => ⟨o.slots, k4 b o hb hn⟩)
theorem noteFrame_congr {env' : Env} {x : Value} (h : env.frame = env'.frame) : noteFrame x env = noteFrame x env' := by
  unfold noteFrame frameOf
  rw [h]
end

open PySem PyProof.Rows PySem.SeqAt

/-- an exception that has come to the frames fs -/
noncomputable def XIn (base : Heap) (fs : List Env) (K : Addr) (s₀ : Shared) (e : Value) (s' : Shared) : Prop := ∃ e' h' tk, e = .ref e' ∧ s' = { s₀ with heap := h', toks := tk } ∧ FlyA base fs e' K h' ∧ s₀.heap.UpToSlots h'
/-- the stack below a def's frame -/
structure FX (K : FC) (base : Heap) (outer : List Env) : Prop where
  hfr : K.A.frames = some (K.env :: outer)
  efr : K.env.frame = some K.env.locals
  hst : base.StaysIn K.s₀.heap
  hff : K.s₀.heap.FunFrames base outer
/-- how it leaves the def -/
noncomputable def XOut (K : FC) (base : Heap) (outer : List Env) (c : Addr) (e : Value) (s' : Shared) : Prop :=
  wpAny (model K.P.prog K.P.w) K.A (leaving K.env e) (fun _ s'' => ∃ e' t h' tk, e = .ref e' ∧ s'' = { K.s₀ with heap := h', toks := tk } ∧ Heap.FlyingW base outer e' (.ref c) (.ref t) h' ∧ K.s₀.heap.UpToSlots h') (fun _ _ => False) s'
section
variable {K : FC} {base : Heap} {outer : List Env} {ρ : List Addr} {loc : Loc} {H : AH} {s : Shared} {c : Addr} {e : Value} {s' : Shared}

theorem Fr.same (F : Fr K ρ loc H s) : ∃ h tk, s = { K.s₀ with heap := h, toks := tk } := let ⟨_, _, I, _⟩ := F.ic; I.toInCall.same
theorem FX.here (x : FX K base outer) (F : Fr K ρ loc H s) : base.StaysIn s.heap ∧ s.heap.FunFrames base (K.env :: outer) := by
  obtain ⟨m, cm, I, _⟩ := F.ic
  have hLn : K.s₀.heap.get? K.env.locals = none := Heap.get?_none_of_le I.toInCall.fresh
  have hLb : base.get? K.env.locals = none := by
    cases q : base.get? K.env.locals with
    | none => rfl
    | some o => have := x.hst _ _ q; rw [hLn] at this; cases this
  exact ⟨fun b o q => F.keep b o (x.hst b o q), .cons (by rw [F.eok.1]; decide) x.efr I.toInCall.ns hLb (x.hff.of_keeps fun b o q _ => ⟨o, F.keep b o q, rfl⟩)⟩
theorem XOut.of_in (x : FX K base outer) (h : XIn base (K.env :: outer) c K.s₀ e s') : XOut K base outer c e s' := by
  obtain ⟨e', h', tk, rfl, rfl, fl, up⟩ := h
  exact leave_any x.hfr x.efr fl fun h2 t f2 u2 => ⟨e', t, h2, tk, rfl, rfl, f2, up.trans u2⟩
theorem XOut.of_made (x : FX K base outer) (F : Fr K ρ loc H s) {h1 h' : Heap} {tk : Nat} {a : Addr} {vs : List Value} (k : Kp s.heap h1) (hm : Heap.MadeExcOf h1 h' a (.ref c) vs) : XOut K base outer c (.ref a) { s with heap := h', toks := tk } := by
  obtain ⟨p1, p2⟩ := x.here F
  obtain ⟨h0, tk0, rfl⟩ := F.same
  exact wpAny_leaves_madeW x.hfr x.efr (fun b o q => k b o (p1 b o q)) (p2.of_keeps fun b o q _ => ⟨o, k b o q, rfl⟩) hm fun h2 t f2 _ _ u2 => ⟨a, t, h2, tk, rfl, rfl, f2, (Heap.UpToSlots.of_keeps fun b o q => hm.keeps b o (k b o (F.keep b o q))).trans u2⟩
/-- a raise in a loop of the frame -/
theorem noted_made (x : FX K base outer) (F : Fr K ρ loc H s) {h1 h' : Heap} {tk : Nat} {a : Addr} {vs : List Value} (k : Kp s.heap h1) (hm : Heap.MadeExcOf h1 h' a (.ref c) vs) :
    notedBy (model K.P.prog K.P.w) K.A K.env (cameBackBy (model K.P.prog K.P.w) K.A K.env (XOut K base outer c)) (.ref a) { s with heap := h', toks := tk } := by
  obtain ⟨p1, p2⟩ := x.here F
  obtain ⟨h0, tk0, rfl⟩ := F.same
  refine note_made x.hfr x.efr (fun b o q => k b o (p1 b o q)) (p2.of_keeps fun b o q _ => ⟨o, k b o q, rfl⟩) hm fun h2 f2 u2 => ?_
  refine flight_any f2 fun h3 f3 u3 => XOut.of_in x ⟨a, h3, tk, rfl, rfl, f3, ((Heap.UpToSlots.of_keeps fun b o q => hm.keeps b o (k b o (F.keep b o q))).trans u2).trans u3⟩
/-- raise C(..) -/
theorem rais_raise (x : FX K base outer) (F : Fr K ρ loc H s) (hq : K.l.q = true) {n m : Str} (hg : isGlob K.env.kindOf n = true) (ho : K.P.own n c = some true) (hm : K.P.mg n = some (.ref c)) {np cp rp kp : Pos} {kk : Nat} {r : List PySem.Stmt} {E : Value → Shared → Prop}
    (hE : ∀ h1 h' tk a vs, Kp s.heap h1 → Heap.MadeExcOf h1 h' a (.ref c) vs → E (.ref a) { s with heap := h', toks := tk }) :
    wpAny (model K.P.prog K.P.w) K.A (execs (.Raise (some (.Call (.Name n np) [.Constant (.str m) kk kp] [] cp)) none rp :: r) K.env) (fun _ _ => False) E s :=
  wpAny_execs_cons (raise_ok F.eok F.cx (F.aok.1 hq) hg hm (F.cx.gok.ow n c true ho).1 fun h1 tk h' a vs k hmade => hE h1 h' tk a vs k hmade)
/-- if T: raise C(..), where T holds -/
theorem rais_if (x : FX K base outer) (F : Fr K ρ loc H s) (hq : K.l.q = true) {n m : Str} (hg : isGlob K.env.kindOf n = true) (ho : K.P.own n c = some true) (hm : K.P.mg n = some (.ref c)) {t : PySem.Expr} {ct : CE} {N : Nat} (hc : compE K.P.nt N K.env.kindOf K.names t = some ct)
    (hw : wpE K.P K.l (fun _ => False) ct loc H (isB fun b _ => b = true)) {np cp rp kp ip : Pos} {kk : Nat} {els r : List PySem.Stmt} {E : Value → Shared → Prop}
    (hE : ∀ {ρ' : List Addr} {H' : AH} {s' : Shared} h1 h' tk a vs, Fr K ρ' loc H' s' → Kp s'.heap h1 → Heap.MadeExcOf h1 h' a (.ref c) vs → E (.ref a) { s' with heap := h', toks := tk }) :
    wpAny (model K.P.prog K.P.w) K.A (execs (.If t [.Raise (some (.Call (.Name n np) [.Constant (.str m) kk kp] [] cp)) none rp] els ip :: r) K.env) (fun _ _ => False) E s := by
  refine wpAny_execs_cons (wpAny_If (BP.then ((expr_ok (l := K.l) (rfl : K.P.nt = K.P.nt) N K.env K.names F.eok t ct hc).2 K.A K.S ρ loc H s _ _ _ F.cx exOk_any hw) fun b h3 tk3 n3 G3 k3 f3 X3 q3 => ?_))
  have q3' : b = true := q3
  subst q3'
  have F3 := F.kp (tk := tk3) k3 f3 X3
  exact wpAny_mono (rais_raise x F3 hq hg ho hm fun h1 h' tk a vs k hmade => hE h1 h' tk a vs F3 k hmade) (fun _ _ y => y.elim) fun _ _ y => y
end
/-- a def that runs to a place where it raises -/
theorem CallX.of_pre {P : PC} {l : Lv} {f : Nat} {x : Str} {d : DefRec} {ps rest : List Str} {n : Nat} {vs : List AV} {pre post : List PySem.Stmt} {cpre : List CS} {c : Addr} {R : Loc → AH → Prop}
    (hf : P.nt.fns[f]? = some x) (hd : P.defs[f]? = some d) (hk : 0 < l.k)
    (hb : ∀ xs pm code doc, xs.length = ps.length → bindArgs (Calls.docDef d.name d.params d.body d.scope pm code doc) ⟨xs, []⟩ = pure (ps.zip xs))
    (hs : defOk d.scope ps rest = true) (hl : vs.length = ps.length) (hbody : d.body = pre ++ post)
    (hcp : allSome (pre.map (compS P.nt n (fun x => d.scope.names.lookup x) (ps ++ rest))) = some cpre)
    (hw : wpSs P ⟨l.k - 1, l.q⟩ cpre (vs.map some ++ List.replicate rest.length none) [] R (fun _ _ => False) (fun _ _ _ => False))
    (hpost : ∀ (K : FC) (base : Heap) (outer : List Env) (ρ : List Addr) (loc : Loc) (H : AH) (s : Shared), K.P = P → K.l = ⟨l.k - 1, l.q⟩ → K.names = ps ++ rest → K.env.kindOf = (fun x => d.scope.names.lookup x) → FX K base outer → Fr K ρ loc H s → R loc H →
      wpAny (model K.P.prog K.P.w) K.A (execs post K.env) (fun _ _ => False) (XOut K base outer c) s) : CallX P l f vs c := by
  intro A s S xs x' a base outer hA hG hx ha hpp hpw hsd V hfr hst hff
  refine enter_ok hf hd hk hb hs hl hA hG hx ha hpp hpw hsd V fun env s₁ S' efr ekd hEok hsub hp' hw' F => ?_
  rw [hbody]
  refine execs_app (wpAny_mono (body_ok (P := P) (l := ⟨l.k - 1, l.q⟩) rfl hEok (by rw [ekd]; exact hcp) (A.deeper env) S s [] S' [] _ [] s₁ _ _ _ _ F xOk_any hw) (fun fl s' hfl => ?_) fun _ _ y => y)
  cases fl with
  | ret rv => obtain ⟨_, _, _, _, _, _, _, q⟩ := hfl; exact q.elim
  | brk => exact hfl.elim
  | cont => exact hfl.elim
  | next =>
  obtain ⟨ρ2, loc2, H2, m2, F2, q2⟩ := hfl
  refine wpAny_mono (hpost ⟨P, ⟨l.k - 1, l.q⟩, A.deeper env, env, ps ++ rest, S, s, [], S'⟩ base outer ρ2 loc2 H2 s' rfl rfl rfl ekd ⟨Around.frames_deeper hfr, efr, hst, hff⟩ F2 q2) (fun _ _ y => y.elim) fun e s3 he => wpAny_mono he (fun _ s4 h4 => ?_) fun _ _ y => y.elim
  obtain ⟨e', t, h', tk, rfl, rfl, a1, a2⟩ := h4
  exact ⟨e', t, h', tk, rfl, rfl, a1, a2⟩

open PySem PyProof.Rows PySem.SeqAt

theorem o_exc {P : PC} {t : Str} {c : Addr} {K : Bool → Prop} : onExc P t (.exc c) K = opt (P.own t c) K := rfl

noncomputable def cs_sole : List CS := [
  .assign 2 (.lst [(.isown "BadStrip" (.var 0)), (.isown "BadOrder" (.var 0)), (.isown "NoFold" (.var 0))]),
  .assign 2 (.bin .Add (.var 2) (.lst [(.isown "NothingDone" (.var 0)), (.isown "TooMany" (.var 0)), (.isown "BadText" (.var 0))])),
  .ite (.or (.cmp .NotEq (.meth .count (.var 2) [(.const (.bool true))]) (.const (.int (1)))) (.not (.isown "ValueError" (.var 0))))
    [      .ret (.const (.bool false))]
    [],
  .ret (.cmp .Eq (.idx (.lst [(.const (.str "strip")), (.const (.str "order")), (.const (.str "fold")), (.const (.str "nothing")), (.const (.str "many")), (.const (.str "text"))]) (.meth .index (.var 2) [(.const (.bool true))])) (.var 1))]

/-- the classes, as isinstance sees an object of the one at c -/
structure Kinds (P : PC) (c : Addr) (b0 b1 b2 b3 b4 b5 : Bool) : Prop where
  k0 : P.own "BadStrip" c = some b0
  k1 : P.own "BadOrder" c = some b1
  k2 : P.own "NoFold" c = some b2
  k3 : P.own "NothingDone" c = some b3
  k4 : P.own "TooMany" c = some b4
  k5 : P.own "BadText" c = some b5
  kv : P.own "ValueError" c = some true

noncomputable def bAV (bs : List Bool) : List AV := bs.map AV.bool
noncomputable def bPD (bs : List Bool) : List PyData := bs.map PyData.bool
theorem sole_ok {P : PC} {l : Lv} {f : Nat} {ps rest : List Str} {X : Str → Prop} (F : FnIs P f ps rest cs_sole) (hp : ps.length = 2) (hr : rest.length = 1) (hk : 0 < l.k) {c : Addr} {b0 b1 b2 b3 b4 b5 : Bool} (K : Kinds P c b0 b1 b2 b3 b4 b5) {due : Str} {j : Nat}
    (hc : ((bPD [b0, b1, b2, b3, b4, b5]).countP fun e => e.eqv (.bool true)) = 1) (hi : ((bPD [b0, b1, b2, b3, b4, b5]).findIdx? fun e => e.eqv (.bool true)) = some j) (hd : (["strip", "order", "fold", "nothing", "many", "text"] : List Str)[j]? = some due) (hs : PyData.strOk due = true) :
    CallJ P l f [.exc c, .str due] (fun v _ => v = .bool true) X := by
  refine F.call hk (by simp [hp]) ?_
  rw [hr]
  unfold cs_sole
  (refine wpSs_cons.mpr ?_; tm_at "wps")
  rw [o_exc, K.k0, opt_some, o_exc, K.k1, opt_some, o_exc, K.k2, opt_some]
  refine ⟨by decide, ?_⟩
  (refine wpSs_cons.mpr ?_; tm_at "wps")
  rw [o_exc, K.k3, opt_some, o_exc, K.k4, opt_some, o_exc, K.k5, opt_some]
  refine ⟨by decide, ?_⟩
  refine ⟨by decide, ?_⟩
  (refine wpSs_cons.mpr ?_; tm_at "wps")
  have rb : ∀ H, Rds H 9 (bAV [b0, b1, b2, b3, b4, b5]) (bPD [b0, b1, b2, b3, b4, b5]) := fun H => Rds.ofAll fun x _ => .bool x
  refine ⟨fun loc H => loc = [some (.exc c), some (.str due), some (.ref 2)] ∧ H[2]? = some (bAV [b0, b1, b2, b3, b4, b5]) ∧ H.length = 3, ?_, _, _, _, rfl, rb _, .bool true, (by decide : 6 ≤ smallN), ?_⟩
  · rintro loc H ⟨rfl, h2, hl⟩
    (refine wpSs_cons.mpr ?_; tm_at "wps")
    have hj : j < 6 := (List.getElem?_eq_some_iff.mp hd).1
    refine ⟨by decide, _, _, _, j, (List.getElem?_append_left (by rw [hl]; decide)).trans h2, rb _, .bool true, (by decide : 6 ≤ smallN), hi, ?_⟩
    refine i_at (vs := (["strip", "order", "fold", "nothing", "many", "text"] : List Str).map AV.str) (List.getElem?_concat_length) (by decide) (Int.natCast_nonneg j) (Int.ofNat_lt.mpr hj) (w := .str due) (by rw [Int.toNat_natCast, List.getElem?_map, hd]; rfl) ?_
    refine ⟨_, _, .str _ hs, .str _ hs, ?_⟩
    simp [PyData.eqv]
  · rw [hc]
    tm_at "wps"
    rw [show decide (((1 : Nat) : Int) = 1) = true from rfl, o_exc, K.kv]
    exact Cut.here ⟨rfl, rfl, rfl⟩

open PySem PyProof.Rows PySem.SeqAt

noncomputable def cs_isnum : List CS := [
  .ret (.and (.isin .int (.var 0)) (.and (.not (.isin .bool (.var 0))) (.chain .LtE .LtE (.var 1) (.var 0) (.var 2))))]
/-- an item that a strip's list may hold -/
noncomputable def Pl : AV → Prop
  | .none => True
  | .bool _ => True
  | .int _ => True
  | .str x => PyData.strOk x = true
  | .fl _ => True
  | _ => False
noncomputable def isNum (a b : Int) : AV → Bool
  | .int i => decide (a ≤ i) && decide (i ≤ b)
  | _ => false
theorem isnum_ok {P : PC} {l : Lv} {f : Nat} {ps rest : List Str} {X : Str → Prop} (F : FnIs P f ps rest cs_isnum) (hp : ps.length = 3) (hr : rest.length = 0) (hk : 0 < l.k) {a b : Int} {v : AV} (hv : Pl v) :
    CallJ P l f [v, .int a, .int b] (fun r H => r = .bool (isNum a b v) ∧ H = []) X := by
  refine F.call hk (by simp [hp]) ?_
  rw [hr]
  unfold cs_isnum
  (refine wpSs_cons.mpr ?_; tm_at "wps")
  cases v with
  | none => exact ⟨rfl, rfl⟩
  | bool => exact ⟨rfl, rfl⟩
  | str => exact ⟨rfl, rfl⟩
  | fl => exact ⟨rfl, rfl⟩
  | int i =>
    show if decide (a ≤ i) = true then opCmp .LtE (.int i) (.int b) [] _ else _
    exact brk (fun h => ⟨by simp [isNum, h], rfl⟩) fun h => ⟨by simp [isNum, h], rfl⟩
  | _ => exact hv.elim

theorem offRng_to {v : AV} {p : Prop} (h : v.offX = true) (hp : p) : offRng v p := by cases v <;> first | (cases h; done) | exact hp
mutual
theorem shift0 : ∀ v : AV, AV.shift 0 v = v
  | .none => rfl
  | .bool _ => rfl
  | .int _ => rfl
  | .str _ => rfl
  | .exc _ => rfl
  | .rng _ _ _ => rfl
  | .ref i => congrArg AV.ref (Nat.zero_add i)
  | .tup vs => congrArg AV.tup (shifts0 vs)
  | .fl vs => congrArg AV.fl (shifts0 vs)
  | .dict ks vs => congrArg (AV.dict ks) (shifts0 vs)
theorem shifts0 : ∀ vs : List AV, AV.shifts 0 vs = vs
  | [] => rfl
  | v :: vs => by rw [shs_cons, shift0 v, shifts0 vs]
end

theorem pl_ints {ns : List Int} : ∀ v ∈ ns.map AV.int, Pl v := fun v hv => by obtain ⟨i, _, rfl⟩ := List.mem_map.mp hv; trivial
theorem rn_ints {ns : List Int} (H : AH) : ∀ v ∈ ns.map AV.int, Ren [] H v v := fun v hv => by obtain ⟨i, _, rfl⟩ := List.mem_map.mp hv; exact .int i
theorem mod_in (x : Int) {m : Int} (h : 0 < m) : 0 ≤ x % m ∧ x % m < m := ⟨Int.emod_nonneg x (Int.ne_of_gt h), Int.emod_lt_of_pos x h⟩
open PySem PyProof.Rows PySem.SeqAt

/-- a call that raises, in whatever scope of the frames fs -/
theorem callX_any {P : PC} {l : Lv} {K : Addr} {A : Around} {env : Env} {names : List Str} {S : Sx} {s : Shared} {base : Heap} {fs : List Env} {g : Str} {gi n : Nat} {gp cp : Pos} {a0 : PySem.Expr} {args : List PySem.Expr} {c0 : CE} {cs : List CE} {loc : Loc}
    (C : Cx P l A env names S [] loc [] s) (ho : EnvOk env) (hfr : A.frames = some fs) (hst : base.StaysIn s.heap) (hff : s.heap.FunFrames base fs)
    (hg : isGlob env.kindOf g = true) (hgi : P.nt.fns[gi]? = some g) (he : allSome ((a0 :: args).map (compE P.nt n env.kindOf names)) = some (c0 :: cs))
    (hw : wpEs P l (fun _ => False) (c0 :: cs) loc [] fun vs H => ∃ vs', Rens [] H vs vs' ∧ CallX P l gi vs' K) :
    wpAny (model P.prog P.w) A (eval (.Call (.Name g gp) (a0 :: args) [] cp) env) (fun _ _ => False) (fun e s' => ∃ e' t h' tk, e = .ref e' ∧ s' = { s with heap := h', toks := tk } ∧ Heap.FlyingW base fs e' (.ref K) (.ref t) h' ∧ s.heap.UpToSlots h') s := by
  obtain ⟨a, o, ea, eo, fd, efd⟩ := C.gok.fn gi g hgi
  unfold isGlob at hg
  simp at hg
  have hd : (g == ("__debug__" : Str)) = false := by simpa using hg.2
  obtain ⟨c1, t1, e1, e2, e3⟩ := allSome_cons he
  refine Call_ (Calls.Name_function_global ho.1 hg.1 (Calls.loadGlobal_global (by rw [ho.2.1]; exact C.gok.g) ea ?_) hd)
  refine callWith_def efd (EPs.then (args_ok (X := fun _ => False) (fun e c h => (expr_ok (l := l) (rfl : P.nt = P.nt) n env names ho e c h).1) (a0 :: args) (c0 :: cs) he C exOk_any hw) fun xs h1 tk1 n1 vs G1 k1 f1 X1 V1 qq => ?_) (not_starred e1 args)
  obtain ⟨vs', R, hX⟩ := qq
  have C1 := C.kp (tk := tk1) k1 f1 X1
  refine ⟨k1 _ _ eo, wpAny_call (codeAny_mono (hX A { s with heap := h1, toks := tk1 } S xs g a base fs C1.aok C1.gok hgi ea C1.pp C1.pw C1.sd (V1.frz X1 R) hfr (fun b o q => k1 b o (hst b o q)) (hff.of_keeps fun b o q _ => ⟨o, k1 b o q, rfl⟩)) fun r s' hr => ?_)⟩
  obtain ⟨e, t, h', tk, rfl, rfl, hfl, hup⟩ := hr
  exact ⟨e, t, h', tk, rfl, rfl, hfl, (Heap.UpToSlots.of_keeps k1).trans hup⟩
section
variable {K : FC} {base : Heap} {outer : List Env} {ρ : List Addr} {loc : Loc} {H : AH} {s : Shared} {c : Addr}

/-- good words up to a bad one -/
noncomputable def Upto (P : PC) (l : Lv) (gi : Nat) (c : Addr) (ws : List AV) : Prop := ∃ pre b post, ws = pre ++ b :: post ∧ (∀ w ∈ pre, CallJ P l gi [w] (fun v _ => NoFl v ∧ ∀ H, Ren [] H v v) fun _ => False) ∧ CallX P l gi [b] c
/-- [G(w) for w in ..], where G raises at a word -/
theorem comp_rais (x : FX K base outer) (F : Fr K ρ loc H s) (hq : K.l.q = true) (hk : 0 < K.l.k) {scope : Scope} {wd g : Str} {gi n : Nat} {wp gp cp pos : Pos} {a0 it : PySem.Expr} {ci : CE}
    (hi : compE K.P.nt n K.env.kindOf K.names it = some ci) (hfn : freeNames scope = []) (hok : compOk scope K.env.kindOf [wd] = true) (he : compE K.P.nt n (compKd scope K.env.kindOf) [wd] a0 = some (.var 0))
    (hce : compE K.P.nt n (compKd scope K.env.kindOf) [wd] (.Call (.Name g gp) [a0] [] cp) = some (.call gi [.var 0])) (hg : isGlob (compKd scope K.env.kindOf) g = true) (hgi : K.P.nt.fns[gi]? = some g)
    (hw : wpE K.P K.l (fun _ => False) ci loc H fun v H₁ => ∃ ws, iterOfC H₁ v = some ws ∧ ws.length ≤ smallN ∧ (∀ w ∈ ws, ∀ H, Ren [] H w w) ∧ Upto K.P K.l gi c ws) :
    wpAny (model K.P.prog K.P.w) K.A (eval (.ListComp (.Call (.Name g gp) [a0] [] cp) [⟨.Name wd wp, it, [], 0⟩] scope pos) K.env) (fun _ _ => False) (XIn base (K.env :: outer) c K.s₀) s := by
  have ho := F.eok
  obtain ⟨h1, h2, h3, h4, h5⟩ := compOk_spec hok
  obtain ⟨cl, ecl, hcl⟩ := closure_ok (env := K.env) (scope := scope) fun x hx => ho.2.2.2 x (h5 x hx).1
  have hh := F.aok.1 hq
  have hIf : ∀ (Cc : Addr), EnvOk (compEnvC scope cl Cc K.env) := fun Cc => compEnv_ok ho h1 h2 hcl
  have kdc : ∀ (Cc : Addr), (compEnvC scope cl Cc K.env).kindOf = compKd scope K.env.kindOf := fun Cc => compEnv_kd scope K.env cl Cc ho.1
  show wpAny _ K.A (comprehension (.ListComp (.Call (.Name g gp) [a0] [] cp) [⟨.Name wd wp, it, [], 0⟩] scope pos) scope K.env (firstIterPos [⟨.Name wd wp, it, [], 0⟩] pos) (newList []) false (eval it K.env) none) _ _ s
  refine wpAny_comprehension_free (g := ⟨.Name wd wp, it, [], 0⟩) (gs := []) rfl (fun x => folded_id hi x) ecl h1 h3 ?_
  refine EP.then ((expr_ok (l := K.l) (rfl : K.P.nt = K.P.nt) n K.env K.names ho it ci hi).1 K.A K.S ρ loc H s _ _ _ F.cx exOk_any hw) fun y hh1 tk1 n1 v1 G1 k1 f1 X1 V1 qq => ?_
  obtain ⟨ws, e1, e2, e3, e4⟩ := qq
  have F1 := F.kp (tk := tk1) k1 f1 X1
  obtain ⟨p1, p2⟩ := x.here F1
  obtain ⟨hs0, tks0, es0⟩ := F.same
  refine iter_walk hh X1 V1 e1 fun I fp wr Pp St h₂ W st0 k₂ hwr hIn hfp _ hit hI => ?_
  refine comp_core (it := it) (pos := pos) (tk₂ := tk1) (txs := [wd]) (cap := []) (base := []) (nv := 0) (cs := []) (ce := .call gi [.var 0]) (K := fun _ => False) (Rz := fun w => CallX K.P K.l gi [w] c ∧ ∀ H, Ren [] H w w) (CI := fun r _ => Upto K.P K.l gi c r ∧ ∀ w ∈ r, ∀ H, Ren [] H w w) (St' := fun w r _ => Upto K.P K.l gi c (w :: r) ∧ ∀ z ∈ w :: r, ∀ H, Ren [] H z z)
    (X := fun _ => False) F1.cx ho h1 h2 hcl h5 (by rw [hfn]; rfl) h4 rfl (List.nodup_cons.mpr ⟨fun h => (by cases h), List.nodup_nil⟩) hh (fun Cc => (expr_ok (l := K.l) (rfl : K.P.nt = K.P.nt) n _ _ (hIf Cc) _ _ (by rw [kdc, hfn]; exact hce)).1) (fun _ _ _ _ q _ => by simp at q) rfl (Nat.zero_le _) e2 (Rens.self fun w hw => e3 w hw _) .nil W st0 k₂ hwr hIn hfp hit hI
    ⟨e4, e3⟩ (fun w r done hc => ⟨_, rfl, hc⟩) ?_ ?_ ?_ ?_
  · rintro w r done bx hb ⟨⟨pre, b, post, e, hp, hx⟩, hr⟩
    cases hb
    cases pre with
    | nil => cases e; exact .inl ⟨hx, hr w (.head _)⟩
    | cons z pre =>
      cases e
      refine .inr ⟨hk, ?_⟩
      tm_at "wps"
      refine ⟨[w], .cons (hr w (.head _) _) .nil, (hp w (.head _)).mono fun v Hc q => ?_⟩
      refine ⟨.inl rfl, ?_⟩
      rw [List.length_nil]
      exact ⟨_, by rw [shift0]; exact q.2 _, .inr q.1, ⟨pre, b, post, rfl, fun w hw => hp w (.tail _ hw), hx⟩, fun w hw => hr w (.tail _ hw)⟩
  · rintro done ⟨⟨pre, b, post, e, _⟩, _⟩
    cases pre <;> cases e
  · intro w bx D Cc Sc h' tk m hr hb hCn hDC hn hk' C'
    cases hb
    have hst' : base.StaysIn h' := fun b o q => hk' b o (p1 b o q)
    have hff' : h'.FunFrames base (K.env :: outer) := p2.of_keeps fun b o q _ => ⟨o, hk' b o q, rfl⟩
    refine wpAny_mono (callX_any (fs := K.env :: outer) (base := base) (K := c) (cs := []) (args := []) (c0 := .var 0) C' (hIf Cc) x.hfr hst' hff' (by rw [kdc]; exact hg) hgi (by rw [kdc, hfn, List.map_cons, List.nil_append, he]; rfl) ?_) (fun _ _ y => y) fun e s' hE => ?_
    · exact ⟨[w], .cons (hr.2 _) .nil, hr.1⟩
    · obtain ⟨e', t, h6, tk6, rfl, rfl, hfl, hup⟩ := hE
      show wpAny _ K.A (noteFrame (.ref e') (compEnvC scope cl Cc K.env)) _ _ _
      rw [noteFrame_congr (env := compEnvC scope cl Cc K.env) (env' := K.env) rfl]
      refine note_any x.hfr x.efr (FlyA.of hfl) fun h7 f7 u7 => ?_
      have u07 : h'.UpToSlots h7 := hup.trans u7
      refine ⟨m, u07.ns hn, fun h8 hs8 cenv _ => ?_⟩
      obtain ⟨f8, u8⟩ := f7.but (u07.ns hn) p2 hCn p1 ((Heap.UpToSlots.of_keeps hk').trans u07) hs8
      refine pass_any f8 fun h9 f9 u9 => ⟨e', h9, tk6, rfl, by rw [es0], f9, ?_⟩
      exact ((Heap.UpToSlots.of_keeps fun b o q => k1 b o (F.keep b o q)).trans u8).trans u9
  · intro D Cc h' tk m ys vs _ _ _ _ _ _ _ _ _ hf
    exact hf.elim
end

open PySem PyProof.Rows PySem.SeqAt
section
variable {K : FC} {base : Heap} {outer : List Env} {ρ : List Addr} {loc : Loc} {H : AH} {s : Shared} {c : Addr}

/-- for S in W: if S not in F: raise C(..), where the j-th sign is not in F -/
theorem rais_for (x : FX K base outer) {w figs : Str} (F : Fr K ρ [some (.str w), none] [] s) (hq : K.l.q = true) {n m vx : Str} (hg : isGlob K.env.kindOf n = true) (ho : K.P.own n c = some true) (hm : K.P.mg n = some (.ref c)) (hx : slotOf K.env.kindOf K.names vx = some 1)
    {it t : PySem.Expr} {N : Nat} {px p np cp rp kp ip : Pos} {kk : Nat} {els r : List PySem.Stmt} (hit : compE K.P.nt N K.env.kindOf K.names it = some (.var 0)) (hc : compE K.P.nt N K.env.kindOf K.names t = some (.cmp .NotIn (.var 1) (.const (.str figs))))
    (hb : allSome ([PySem.Stmt.If t [.Raise (some (.Call (.Name n np) [.Constant (.str m) kk kp] [] cp)) none rp] els ip].map (compS K.P.nt N K.env.kindOf K.names)) = some [.ite (.cmp .NotIn (.var 1) (.const (.str figs))) [.raise ""] []])
    {j cj : Nat} (hj : w.cps[j]? = some cj) (hbad : strIn ⟨#[cj]⟩ figs = false) (hgood : ∀ k d, k < j → w.cps[k]? = some d → strIn ⟨#[d]⟩ figs = true) :
    wpAny (model K.P.prog K.P.w) K.A (execs (.For (.Name vx px) it [.If t [.Raise (some (.Call (.Name n np) [.Constant (.str m) kk kp] [] cp)) none rp] els ip] [] p :: r) K.env) (fun _ _ => False) (XOut K base outer c) s := by
  obtain ⟨P, l, A, env, names, S₀, s₀, hid, S⟩ := K
  have hjN : j < w.cps.size := (Array.getElem?_eq_some_iff.mp hj).1
  have fin : wpAny (model P.prog P.w) A (exec (.For (.Name vx px) it [.If t [.Raise (some (.Call (.Name n np) [.Constant (.str m) kk kp] [] cp)) none rp] els ip] [] p) env) (SP ⟨P, l, A, env, names, S₀, s₀, hid, S⟩ ρ s (fun _ _ => False) fun _ _ => False) (XOut ⟨P, l, A, env, names, S₀, s₀, hid, S⟩ base outer c) s := by
    refine wpAny_For (EP.then ((expr_ok (l := l) (rfl : P.nt = P.nt) N env names F.eok it _ hit).1 A S ρ _ [] s (fun v H' => v = .str w ∧ H' = []) (fun _ => False) _ F.cx exOk_any ⟨rfl, rfl⟩) fun y h1 tk1 n1 v1 G1 k1 f1 X1 V1 qq => ?_) (fun y => folded_id hit y)
    obtain ⟨rfl, hG⟩ := qq
    refine for1_core (N := w.cps.size) (κ := .str w) (Inv := fun k v loc H => k ≤ j ∧ v = .str w ∧ H = [] ∧ ∃ o, loc = [some (.str w), o]) hx (F.aok.1 hq) (F.kp (tk := tk1) k1 f1 X1) (Mvd.kp k1 f1) V1 ⟨_, _, _, .inl ⟨rfl, rfl⟩, rfl, Nat.zero_le _, rfl, hG, none, rfl⟩ ?_ ?_ ?_
    · rintro k v loc H _ ⟨_, rfl, _⟩
      exact ⟨rfl, _, rfl, by unfold signs; simp⟩
    · rintro k v loc' H its u I ρk s4 hk hl ⟨hkj, rfl, rfl, o, rfl⟩ ei eu F4
      cases ei
      unfold signs at eu
      rw [List.getElem?_map, Array.getElem?_toList] at eu
      obtain ⟨d, ed, rfl⟩ := Option.map_eq_some_iff.mp eu
      rcases Nat.lt_or_eq_of_le hkj with hlt | rfl
      · refine body_ok (P := P) (l := l) rfl F4.eok hb A S₀ s₀ _ _ ρk _ [] s4 _ _ (fun _ _ _ => False) _ F4 xOk_any ?_
        refine ⟨fun loc H => loc = [some (.str w), some (.str ⟨#[d]⟩), some (.str w)] ∧ H = [], ?_, ?_⟩
        · rintro loc H ⟨rfl, rfl⟩
          exact ⟨.str w, [some (.str w), some (.str ⟨#[d]⟩)], [], .inl ⟨rfl, rfl⟩, rfl, hlt, rfl, rfl, _, rfl⟩
        · show if (!strIn ⟨#[d]⟩ figs) = true then _ else _
          rw [hgood k d hlt ed]
          exact Cut.here ⟨rfl, rfl⟩
      · rw [hj] at ed
        cases ed
        have x' : FX ⟨P, l, A, env, names, S₀, s₀, hid ++ [y], ⟨S.ad ++ [I], S.prog, S.w⟩⟩ base outer := ⟨x.hfr, x.efr, x.hst, x.hff⟩
        refine wpAny_mono (rais_if x' F4 hq hg ho hm hc ?_ fun h1 h' tk a vs F' k hmade => noted_made x' F' k hmade) (fun _ _ y => y.elim) fun _ _ y => y
        show (!strIn ⟨#[cj]⟩ figs) = true
        rw [hbad]
        rfl
    · rintro v loc H ⟨h, _⟩
      exact absurd h (Nat.not_le.mpr hjN)
  refine wpAny_execs_cons (wpAny_mono fin (fun f s' hf => ?_) fun _ _ y => y)
  cases f with
  | next => obtain ⟨_, _, _, _, _, q⟩ := hf; exact q.elim
  | ret v => obtain ⟨_, _, _, _, _, _, _, q⟩ := hf; exact q.elim
  | _ => exact hf.elim
/-- X = V, where V raises -/
theorem rais_asg (x : FX K base outer) {y : Str} {py p : Pos} {v : PySem.Expr} {r : List PySem.Stmt} (hs : isComp v = false) (hev : wpAny (model K.P.prog K.P.w) K.A (eval v K.env) (fun _ _ => False) (XIn base (K.env :: outer) c K.s₀) s) :
    wpAny (model K.P.prog K.P.w) K.A (execs (.Assign [.Name y py] v p :: r) K.env) (fun _ _ => False) (XOut K base outer c) s :=
  wpAny_execs_cons (wpAny_Assign_Name (wpAny_mono hev (fun _ _ q => q.elim) fun _ _ q => XOut.of_in x q) (swaps_false hs))
theorem tup_rais1 {e1 e2 : PySem.Expr} {k n : Nat} {p : Pos} {c1 : CE} {E : Value → Shared → Prop} (h1 : compE K.P.nt n K.env.kindOf K.names e1 = some c1) (h : wpAny (model K.P.prog K.P.w) K.A (eval e1 K.env) (fun _ _ => False) E s) :
    wpAny (model K.P.prog K.P.w) K.A (eval (.Tuple [e1, e2] k p) K.env) (fun _ _ => False) E s :=
  Tuple_ (args_cons (wpAny_mono h (fun _ _ q => q.elim) fun _ _ q => q) (not_starred h1 [e2]))
theorem tup_rais2 (F : Fr K ρ loc H s) {e1 e2 : PySem.Expr} {k n : Nat} {p : Pos} {c1 c2 : CE} {E : Value → Shared → Prop} {R : AH → Prop} (h1 : compE K.P.nt n K.env.kindOf K.names e1 = some c1) (h2 : compE K.P.nt n K.env.kindOf K.names e2 = some c2) (hw : wpE K.P K.l (fun _ => False) c1 loc H fun _ H' => R H')
    (h : ∀ ρ' H' s', Fr K ρ' loc H' s' → R H' → wpAny (model K.P.prog K.P.w) K.A (eval e2 K.env) (fun _ _ => False) E s') :
    wpAny (model K.P.prog K.P.w) K.A (eval (.Tuple [e1, e2] k p) K.env) (fun _ _ => False) E s := by
  refine Tuple_ (args_cons (EP.then ((expr_ok (l := K.l) (rfl : K.P.nt = K.P.nt) n K.env K.names F.eok e1 c1 h1).1 K.A K.S ρ loc H s _ _ _ F.cx exOk_any hw) fun y h1' tk1 n1 v1 G1 k1 f1 X1 V1 q1 => ?_) (not_starred h1 [e2]))
  exact args_cons (wpAny_mono (h _ _ _ (F.kp k1 f1 X1) q1) (fun _ _ q => q.elim) fun _ _ q => q) (not_starred h2 [])
end

open PySem PyProof.Rows PySem.SeqAt

/-- X = G(..) raises -/
theorem RaisesX.asg {P : PC} {l : Lv} {K : Addr} {kd : Str → Option NameKind} {names : List Str} {g y : Str} {gi n : Nat} {gp cp yp ap : Pos} {a0 : PySem.Expr} {args : List PySem.Expr} {c0 : CE} {cs : List CE} {loc : Loc} {rest : List PySem.Stmt}
    (hg : isGlob kd g = true) (hgi : P.nt.fns[gi]? = some g) (he : allSome ((a0 :: args).map (compE P.nt n kd names)) = some (c0 :: cs))
    (hw : wpEs P l (fun _ => False) (c0 :: cs) loc [] fun vs H => ∃ vs', Rens [] H vs vs' ∧ CallX P l gi vs' K) : RaisesX P l K kd names (.Assign [.Name y yp] (.Call (.Name g gp) (a0 :: args) [] cp) ap :: rest) loc := by
  intro A env S s base outer C ho ekd hfr hst hff
  subst ekd
  exact wpAny_execs_cons (wpAny_Assign_Name (wpAny_mono (callX_any C ho hfr hst hff hg hgi he hw) (fun _ _ q => q.elim) fun _ _ q => q) (swaps_false rfl))
/-- a call that raises nothing -/
theorem CallS.of_J {P : PC} {l : Lv} {f : Nat} {vs : List AV} {b : Bool} {X : Str → Prop} (h : CallJ P l f vs (fun v _ => v = .bool b) X) : CallS P l f vs b := by
  intro A s S xs x a base outer hA hG hx ha hpp hpw hsd V hfr hst hff
  refine codeAny_mono (h A s S xs x a hA (hG.kp hst) hx ha hpp hpw hsd V) fun r s' hr => ?_
  cases r with
  | ok fl =>
    obtain ⟨rv, h', tk, ρ, v, Hc, rfl, rfl, k, fr, X, V', rfl⟩ := hr
    cases V'
    exact ⟨h', tk, rfl, rfl, fun b o q => k b o (hst b o q), Heap.UpToSlots.of_keeps k⟩
  | error e => exact hr.elim
/-- try: B except Z as N: return R, where R also looks at a name that holds None -/
theorem CallS.of_try2 {P : PC} {l : Lv} {f : Nat} {x : Str} {d : DefRec} {ps rest : List Str} {n i : Nat} {vs : List AV} {tb post : List PySem.Stmt} {z nm dn : Str} {zp hp tp rp : Pos} {re : PySem.Expr} {cre : CE} {K : Addr} {b : Bool} {t0 : Str}
    (hf : P.nt.fns[f]? = some x) (hd : P.defs[f]? = some d) (hk : 0 < l.k)
    (hb : ∀ xs pm code doc, xs.length = ps.length → bindArgs (Calls.docDef d.name d.params d.body d.scope pm code doc) ⟨xs, []⟩ = pure (ps.zip xs))
    (hs : defOk d.scope ps rest = true) (hl : vs.length = ps.length)
    (hbody : d.body = .Try tb [.ExceptHandler (some (.Name z zp)) (some nm) [.Return (some re) rp] hp] [] [] tp :: post)
    (hg : isGlob (fun x => d.scope.names.lookup x) z = true) (hz : P.mg z = some (.ref P.sup)) (hn : d.scope.names.lookup nm = some .local) (ho : P.own t0 K = some true)
    (hdn : d.scope.names.lookup dn = some .local) (hne : dn ≠ nm) (hdi : (ps ++ rest)[i]? = some dn) (hvi : (vs.map some ++ List.replicate rest.length none)[i]?.join = some AV.none)
    (htb : RaisesX P ⟨l.k - 1, l.q⟩ K (fun x => d.scope.names.lookup x) (ps ++ rest) tb (vs.map some ++ List.replicate rest.length none))
    (hcr : compE P.nt n (fun x => d.scope.names.lookup x) [nm, dn] re = some cre)
    (hwr : wpE P ⟨l.k - 1, false⟩ (fun _ => False) cre [some (.exc K), some .none] [] fun v _ => v = .bool b) : CallS P l f vs b := by
  intro A s S xs x' a base outer hA hG hx ha hpp hpw hsd V hfr hst hff
  refine enter_ok hf hd hk hb hs hl hA (hG.kp hst) hx ha hpp hpw hsd V fun env s₁ S' efr ekd hEok hsub hp' hw' F => ?_
  rw [hbody]
  obtain ⟨m, cm, I, hnames⟩ := F.ic
  have I' := I.toInCall
  have hmd : m dn = some .none := by
    obtain ⟨rv, hr, Vr⟩ := hnames i dn _ hdi hvi
    cases Vr
    rcases hr with ⟨_, h⟩ | ⟨h, _⟩
    · exact h
    · rw [ekd] at h; cases hdn.symm.trans h
  have hnk : env.scope.kind ≠ .module := by rw [hEok.1]; decide
  have hLn : s.heap.get? env.locals = none := Heap.get?_none_of_le I'.fresh
  have hLb : base.get? env.locals = none := by
    cases q : base.get? env.locals with
    | none => rfl
    | some o => have := hst _ _ q; rw [hLn] at this; cases this
  obtain ⟨hs1, tk1, es1⟩ := I'.same
  refine wpAny_execs_cons (try_ok hEok efr (Around.frames_deeper hfr) (by rw [ekd]; exact hg) hz (by rw [ekd]; exact hn) hG (hG.ow t0 K true ho).1 I'.ns
    (htb (A.deeper env) env S' s₁ base outer F.cx hEok ekd (Around.frames_deeper hfr) (fun b o q => I'.keep b o (hst b o q)) (.cons hnk efr I'.ns hLb (hff.of_keeps fun b o q _ => ⟨o, I'.keep b o q, rfl⟩)))
    fun e h' tk hbs hxi hns => ?_)
  have C : Cx P ⟨l.k - 1, false⟩ ((A.deeper env).mark (some (.ref e))) env [nm, dn] ⟨[], P.prog, P.w⟩ [] [some (.exc K), some .none] [] { s₁ with heap := h', toks := tk } := {
    aok := ⟨(fun q => nomatch q), F.aok.2.1, F.aok.2.2⟩
    gok := hG.kp hbs, pp := rfl, pw := rfl
    sd := fun _ hm => nomatch hm
    sim := ⟨rfl, List.nodup_nil, (fun _ hm => nomatch hm), fun i vs e => by simp at e⟩
    loc := fun i y v ey ev => by
      rcases i with _ | _ | i
      · cases ey; cases ev
        exact ⟨.ref e, .inl ⟨by rw [ekd]; exact hn, _, hns, by simp⟩, .exc (fun hm => nomatch hm) (fun hm => nomatch hm) hxi⟩
      · cases ey; cases ev
        exact ⟨.none, .inl ⟨by rw [ekd]; exact hdn, _, hns, by rw [if_neg hne]; exact hmd⟩, .none⟩
      · simp at ey }
  refine wpAny_execs_cons (wpAny_Return_some (EP.then ((expr_ok (l := ⟨l.k - 1, false⟩) (rfl : P.nt = P.nt) n env [nm, dn] hEok re cre (by rw [ekd]; exact hcr)).1 _ _ [] _ [] _ _ _ _ C exOk_any hwr) fun v h2 tk2 e2 av G2 k2 f2 X2 V2 qq => ?_))
  obtain rfl := qq
  cases V2
  refine ⟨h2, tk2, rfl, k2, fun h3 tk3 hb3 hu3 => ?_⟩
  refine ⟨h3, tk3, rfl, by rw [es1], hb3, fun c o q hnf => hu3 c o (fun q' => ?_) (I'.keep c o q) hnf⟩
  rw [q', hLn] at q; cases q
/-- a law's block that ends: if not G(..): return False; return G(..) -/
theorem law_right {P : PC} {l : Lv} {f : Nat} {x : Str} {d : DefRec} {ps rest : List Str} {n gi : Nat} {vs : List AV} {b1 th : List PySem.Stmt} {a0 a1 : PySem.Expr} {args args1 : List PySem.Expr} {g : Str} {gp cp up ip gp2 cp2 rp : Pos}
    {c1 : List CS} {ca0 ca1 : CE} {cas cas1 : List CE} {J : Loc → AH → Prop} {J2 : Loc → AH → Prop}
    (hf : P.nt.fns[f]? = some x) (hd : P.defs[f]? = some d) (hk : 0 < l.k)
    (hb : ∀ xs pm code doc, xs.length = ps.length → bindArgs (Calls.docDef d.name d.params d.body d.scope pm code doc) ⟨xs, []⟩ = pure (ps.zip xs))
    (hs : defOk d.scope ps rest = true) (hl : vs.length = ps.length)
    (hbody : d.body = b1 ++ [.If (.UnaryOp .Not (.Call (.Name g gp) (a0 :: args) [] cp) up) th [] ip, .Return (some (.Call (.Name g gp2) (a1 :: args1) [] cp2)) rp])
    (h1 : allSome (b1.map (compS P.nt n (fun x => d.scope.names.lookup x) (ps ++ rest))) = some c1) (ha0 : allSome ((a0 :: args).map (compE P.nt n (fun x => d.scope.names.lookup x) (ps ++ rest))) = some (ca0 :: cas)) (ha1 : allSome ((a1 :: args1).map (compE P.nt n (fun x => d.scope.names.lookup x) (ps ++ rest))) = some (ca1 :: cas1))
    (hg : isGlob (fun x => d.scope.names.lookup x) g = true) (hgi : P.nt.fns[gi]? = some g)
    (w1 : wpSs P ⟨l.k - 1, l.q⟩ c1 (vs.map some ++ List.replicate rest.length none) [] J (fun _ _ => False) (fun _ _ _ => False))
    (w2 : ∀ loc H, J loc H → wpEs P ⟨l.k - 1, l.q⟩ (fun _ => False) (ca0 :: cas) loc H fun vs H' => ∃ vs', Rens [] H' vs vs' ∧ CallS P ⟨l.k - 1, l.q⟩ gi vs' true ∧ J2 loc H')
    (w3 : ∀ loc H, J2 loc H → wpEs P ⟨l.k - 1, l.q⟩ (fun _ => False) (ca1 :: cas1) loc H fun vs H' => ∃ vs', Rens [] H' vs vs' ∧ CallS P ⟨l.k - 1, l.q⟩ gi vs' true ∧ True)
    {A : Around} {s : Shared} {S : Sx} {xs : List Value} {x' : Str} {a : Addr} (hA : Aok l A) (hfr : A.frames = some []) (hG : GOk P s.heap) (hx : P.nt.fns[f]? = some x') (ha : P.mg x' = some (.ref a)) (hpp : S.prog = P.prog) (hpw : S.w = P.w) (hsd : SD S s.heap) (V : VRels S [] s.heap vs xs) :
    codeAny (model P.prog P.w) A (.call (.ref a) ⟨xs, []⟩) (fun r s' => ∃ h' tk, r = .ok (.ret (.bool true)) ∧ s' = { s with heap := h', toks := tk } ∧ Kp s.heap h') s := by
  refine enter_ok hf hd hk hb hs hl hA hG hx ha hpp hpw hsd V fun env s₁ S' efr ekd hEok hsub hp' hw' F => ?_
  rw [hbody]
  rw [← ekd] at h1 ha0 ha1 hg
  have hfr' : (A.deeper env).frames = some [env] := Around.frames_deeper hfr
  refine execs_app (wpAny_mono (body_ok (P := P) (l := ⟨l.k - 1, l.q⟩) rfl hEok h1 (A.deeper env) S s [] S' [] _ [] s₁ _ _ _ _ F xOk_any w1) (fun fl s' hfl => ?_) fun _ _ y => y)
  cases fl with
  | ret rv => obtain ⟨_, _, _, _, _, _, _, q⟩ := hfl; exact q.elim
  | brk => exact hfl.elim
  | cont => exact hfl.elim
  | next =>
  obtain ⟨ρ1, loc1, H1, m1, F1, q1⟩ := hfl
  refine wpAny_execs_cons (wpAny_If (notS_ev F1 hfr' efr hg hgi ha0 (w2 loc1 H1 q1) fun ρ2 H2 s2 F2 q2 => wpAny_execs_nil ?_))
  refine wpAny_execs_cons (wpAny_Return_some (callS_ev F2 hfr' efr hg hgi ha1 (w3 loc1 H2 q2) fun ρ3 H3 s3 F3 _ => ?_))
  obtain ⟨h', tk, es⟩ := F3.same
  subst es
  exact ⟨h', tk, rfl, rfl, F3.keep⟩

open PySem

noncomputable def sp : Str := ⟨#[32]⟩
theorem sp_is : ((" " : String) : Str) = sp := by decide +kernel
theorem split_ne (x y : Str) : Txt.split x y ≠ [] := by
  unfold Txt.split
  split
  · exact fun h => nomatch h
  · split
    · exact fun h => nomatch h
    · intro h
      have := congrArg List.length h
      simp [Builtin.Str.partsBetween] at this
/-- what stands behind the first word -/
noncomputable def tl : List Str → List Nat
  | [] => []
  | a :: r => 32 :: (Str.join sp (a :: r)).cps.toList
theorem join_cons (a : Str) : ∀ r : List Str, (Str.join sp (a :: r)).cps.toList = a.cps.toList ++ tl r
  | [] => by simp [Str.join, tl]
  | b :: r => by
    show (a ++ sp ++ Str.join sp (b :: r)).cps.toList = _
    rw [Str.cps_append, Str.cps_append, Array.toList_append, Array.toList_append, List.append_assoc]
    rfl
theorem free_eq : ∀ {a b c d : List Nat}, 32 ∉ a → 32 ∉ b → (c = [] ∨ ∃ t, c = 32 :: t) → (d = [] ∨ ∃ t, d = 32 :: t) → a ++ c = b ++ d → a = b ∧ c = d
  | [], [], _, _, _, _, _, _, h => ⟨rfl, h⟩
  | [], y :: b, c, d, _, hb, hc, _, h => by
    rcases hc with rfl | ⟨t, rfl⟩
    · cases h
    · injection h with h1 h2
      exact absurd (h1 ▸ List.mem_cons_self) hb
  | x :: a, [], c, d, ha, _, _, hd, h => by
    rcases hd with rfl | ⟨t, rfl⟩
    · cases h
    · injection h with h1 h2
      exact absurd (h1 ▸ List.mem_cons_self) ha
  | x :: a, y :: b, c, d, ha, hb, hc, hd, h => by
    injection h with h1 h2
    obtain ⟨e1, e2⟩ := free_eq (fun q => ha (.tail _ q)) (fun q => hb (.tail _ q)) hc hd h2
    exact ⟨by rw [h1, e1], e2⟩
theorem tl_is : ∀ r, tl r = [] ∨ ∃ t, tl r = 32 :: t
  | [] => .inl rfl
  | _ :: _ => .inr ⟨_, rfl⟩
theorem tl_inj : ∀ {r q : List Str}, (∀ w ∈ r, 32 ∉ w.cps.toList) → (∀ w ∈ q, 32 ∉ w.cps.toList) → tl r = tl q → r = q
  | [], [], _, _, _ => rfl
  | [], _ :: _, _, _, h => nomatch h
  | _ :: _, [], _, _, h => nomatch h
  | a :: r, b :: q, hr, hq, h => by
    injection h with _ h
    rw [join_cons, join_cons] at h
    obtain ⟨e1, e2⟩ := free_eq (hr a (.head _)) (hq b (.head _)) (tl_is r) (tl_is q) h
    rw [Str.ext' (Array.toList_inj.mp e1), tl_inj (fun w hw => hr w (.tail _ hw)) (fun w hw => hq w (.tail _ hw)) e2]
/-- words that hold no blank, joined and split -/
theorem split_join {ws : List Str} (hn : ws ≠ []) (hf : ∀ w ∈ ws, 32 ∉ w.cps.toList) : Txt.split (Str.join sp ws) sp = ws := by
  have h1 := StrLaws.join_split (Str.join sp ws) sp
  have h2 := StrLaws.split_free (Str.join sp ws) 32
  have h3 := split_ne (Str.join sp ws) sp
  revert h1 h2 h3
  show Str.join sp (Txt.split (Str.join sp ws) sp) = _ → (∀ p ∈ Txt.split (Str.join sp ws) sp, _) → _
  generalize Txt.split (Str.join sp ws) sp = vs
  intro h1 h2 h3
  refine tl_inj h2 hf ?_
  cases vs with
  | nil => exact absurd rfl h3
  | cons a r =>
    cases ws with
    | nil => exact absurd rfl hn
    | cons b q => show 32 :: _ = 32 :: _; rw [h1]
/-- how many words, and how long -/
theorem join_ge : ∀ ws : List Str, ws.length ≤ (Str.join sp ws).length + 1 ∧ ∀ w ∈ ws, w.length ≤ (Str.join sp ws).length
  | [] => ⟨Nat.zero_le _, fun _ h => nomatch h⟩
  | [a] => ⟨Nat.le_add_left _ _, fun w h => by rw [List.mem_singleton.mp h]; exact Nat.le_refl _⟩
  | a :: b :: r => by
    obtain ⟨h1, h2⟩ := join_ge (b :: r)
    have e : (Str.join sp (a :: b :: r)).length = a.length + 1 + (Str.join sp (b :: r)).length := by
      show (a ++ sp ++ Str.join sp (b :: r)).length = _
      rw [Str.length_append, Str.length_append]
      rfl
    rw [e]
    refine ⟨?_, fun w hw => ?_⟩
    · rw [List.length_cons]; lia
    · rcases List.mem_cons.mp hw with rfl | hw
      · exact Nat.le_trans (Nat.le_add_right _ 1) (Nat.le_add_right _ _)
      · exact Nat.le_trans (h2 w hw) (Nat.le_add_left _ _)
theorem split_le (t : Str) : (Txt.split t sp).length ≤ t.length + 1 ∧ ∀ w ∈ Txt.split t sp, w.length ≤ t.length := by
  have := join_ge (Txt.split t sp)
  rw [StrLaws.join_split] at this
  exact this
theorem sum_le {B : Nat} : ∀ {ws : List Str}, (∀ w ∈ ws, w.length ≤ B) → (ws.map (·.length)).sum ≤ ws.length * B
  | [], _ => Nat.zero_le _
  | w :: ws, h => by
    rw [List.map_cons, List.sum_cons, List.length_cons, Nat.succ_mul, Nat.add_comm]
    exact Nat.add_le_add (sum_le fun v hv => h v (.tail _ hv)) (h w (.head _))
theorem join_le {B : Nat} {ws : List Str} (h : ∀ w ∈ ws, w.length ≤ B) : (Str.join sp ws).length ≤ ws.length * (B + 1) := by
  refine Nat.le_trans (StrLaws.join_length_le sp ws) ?_
  rw [show sp.length = 1 from rfl, Nat.mul_one, Nat.mul_succ]
  exact Nat.add_le_add_right (sum_le h) _
theorem joinOk {B : Nat} {ws : List Str} (h : ∀ w ∈ ws, w.length ≤ B) (hl : ws.length * (B + 1) ≤ 1000000) : JoinOk sp ws = true := by
  unfold JoinOk
  rw [StrLaws.joinFits (B := B) h (by rw [show sp.length = 1 from rfl, ← Nat.mul_add]; exact Nat.le_trans hl (by decide))]
  rfl

open PySem

/-- every second item -/
noncomputable def alt {α : Type} (b : Bool) (xs : List α) : List α := List.rec (motive := fun _ => Bool → List α) (fun _ => []) (fun x _ ih b => if b = true then x :: ih false else ih true) xs b
theorem alt_t {α : Type} (x : α) (r : List α) : alt true (x :: r) = x :: alt false r := rfl
theorem alt_f {α : Type} (x : α) (r : List α) : alt false (x :: r) = alt true r := rfl
theorem alt_map {α β : Type} (f : α → β) (xs : List α) : ∀ b, alt b (xs.map f) = (alt b xs).map f := by
  induction xs with
  | nil => exact fun _ => rfl
  | cons x r ih =>
    intro b
    rw [List.map_cons]
    cases b with
    | true => rw [alt_t, alt_t, ih, List.map_cons]
    | false => rw [alt_f, alt_f, ih]
theorem alt_mem {α : Type} {w : α} (xs : List α) : ∀ b, w ∈ alt b xs → w ∈ xs := by
  induction xs with
  | nil => exact fun _ h => h
  | cons x r ih =>
    intro b h
    cases b with
    | true => exact (List.mem_cons.mp h).elim (fun e => e ▸ .head _) fun q => .tail _ (ih _ q)
    | false => exact .tail _ (ih _ h)
theorem half_s (n : Nat) : (n + 1 + 1) / 2 = n / 2 + 1 := Nat.add_div_right n Nat.two_pos
theorem alt_len {α : Type} (xs : List α) : (alt true xs).length = (xs.length + 1) / 2 ∧ (alt false xs).length = xs.length / 2 := by
  induction xs with
  | nil => exact ⟨by rw [List.length_nil]; rfl, by rw [List.length_nil]; rfl⟩
  | cons x r ih =>
    rw [alt_t, alt_f, List.length_cons, List.length_cons, ih.1, ih.2, half_s]
    exact ⟨rfl, rfl⟩
theorem fm_eq {α β : Type} {f g : α → Option β} {l : List α} (h : ∀ k, f k = g k) : l.filterMap f = l.filterMap g := by rw [funext h]
/-- the places are those of the steps -/
theorem alt_pick {α : Type} (xs : List α) : ((List.range ((xs.length + 1) / 2)).filterMap fun k => xs[2 * k]?) = alt true xs ∧ ((List.range (xs.length / 2)).filterMap fun k => xs[1 + 2 * k]?) = alt false xs := by
  induction xs with
  | nil => exact ⟨by rw [List.length_nil]; rfl, by rw [List.length_nil]; rfl⟩
  | cons x r ih =>
    rw [alt_t, alt_f, ← ih.1, ← ih.2, List.length_cons]
    refine ⟨?_, fm_eq fun k => ?_⟩
    · rw [half_s, List.range_succ_eq_map, List.filterMap_cons, List.filterMap_map]
      show x :: _ = _
      congr 1
      refine fm_eq fun k => ?_
      show (x :: r)[2 * (k + 1)]? = _
      rw [Nat.mul_succ, Nat.add_comm 1]
      rfl
    · rw [Nat.add_comm]
      rfl
theorem up2 (n : Nat) : ((((n : Int) - 0 + 2 - 1) / 2)).toNat = (n + 1) / 2 ∧ ((((n : Int) - 0 - 1) / 2 + 1)).toNat = (n + 1) / 2 := by lia
theorem dn2 (n : Nat) (h : 0 < n) : (if (1 : Int) < (n : Int) then ((n : Int) - 1 + 2 - 1) / 2 else 0).toNat = n / 2 ∧ (if (1 : Int) < (n : Int) then ((n : Int) - 1 - 1) / 2 + 1 else 0).toNat = n / 2 := by
  split <;> lia
theorem slice2 {α : Type} (xs : List α) (h : 0 < xs.length) : (sliceRange 0 xs.length 2).filterMap (xs[·]?) = alt true xs ∧ (sliceRange 1 xs.length 2).filterMap (xs[·]?) = alt false xs := by
  obtain ⟨h1, h2⟩ := alt_pick xs
  rw [← h1, ← h2]
  unfold sliceRange
  have h0 : (0 : Int) < xs.length := Int.ofNat_lt.mpr h
  dsimp only
  rw [if_pos (by decide), if_pos h0, if_pos (by decide), List.filterMap_map, List.filterMap_map, (up2 _).1, (dn2 _ h).1]
  exact ⟨fm_eq fun k => by show xs[((0 : Int) + 2 * (k : Int)).toNat]? = _; rw [Int.zero_add]; rfl, fm_eq fun k => rfl⟩
theorem range2 (n : Nat) (h : 0 < n) : (Builtin.Range.rangeSize 0 n 2).toNat = (n + 1) / 2 ∧ (Builtin.Range.rangeSize 1 n 2).toNat = n / 2 := by
  unfold Builtin.Range.rangeSize
  have h0 : (0 : Int) < n := Int.ofNat_lt.mpr h
  rw [if_pos (by decide : (2 : Int) > 0), if_pos (by decide : (2 : Int) > 0), if_pos h0]
  exact ⟨(up2 n).2, (dn2 n h).2⟩

open PySem

noncomputable def isDig (c : Nat) : Bool := decide (48 ≤ c) && decide (c ≤ 57)
theorem strIn_one (c : Nat) (y : Str) : strIn ⟨#[c]⟩ y = decide (c ∈ y.cps.toList) := by
  rw [Bool.eq_iff_iff, decide_eq_true_iff]
  refine (StrLaws.found_iff y ⟨#[c]⟩).trans ⟨?_, fun h => ?_⟩
  · rintro ⟨i, h⟩
    exact List.mem_of_getElem? ((StrLaws.subAt_one y c i).mp h)
  · obtain ⟨i, hi⟩ := List.getElem?_of_mem h
    exact ⟨i, (StrLaws.subAt_one y c i).mpr hi⟩
theorem fig_list : ((("0123456789" : String) : Str)).cps.toList = [48, 49, 50, 51, 52, 53, 54, 55, 56, 57] := by decide +kernel
theorem strIn_fig (c : Nat) : strIn ⟨#[c]⟩ ("0123456789" : String) = isDig c := by
  rw [strIn_one, fig_list]
  unfold isDig
  by_cases h : 48 ≤ c ∧ c ≤ 57
  · rw [decide_eq_true h.1, decide_eq_true h.2, Bool.and_true, decide_eq_true_iff]
    obtain ⟨d, rfl⟩ := Nat.exists_eq_add_of_le h.1
    have hd : d < 10 := Nat.lt_of_add_lt_add_left (n := 48) (Nat.lt_succ_of_le h.2)
    exact (by decide : ∀ d, d < 10 → 48 + d ∈ [48, 49, 50, 51, 52, 53, 54, 55, 56, 57]) d hd
  · have e : (decide (48 ≤ c) && decide (c ≤ 57)) = false := by
      rw [Bool.eq_false_iff]
      intro q
      rw [Bool.and_eq_true, decide_eq_true_iff, decide_eq_true_iff] at q
      exact h q
    rw [e, decide_eq_false_iff_not]
    intro hm
    exact h ((by decide : ∀ d ∈ [48, 49, 50, 51, 52, 53, 54, 55, 56, 57], 48 ≤ d ∧ d ≤ 57) c hm)
/-- a length's word: its tests, and its value -/
noncomputable def headBad (w : Str) : Bool := decide (w.length = 0) || decide (4 < w.length) || decide (w.cps[0]? = some 48)
noncomputable def lenOk (w : Str) : Bool := !headBad w && w.cps.toList.all isDig
noncomputable def lenVal (w : Str) : Int := (PySem.NumText.digitsVal w.cps.toList : Nat)
theorem lenOk_of {w : Str} (h : lenOk w = true) : headBad w = false ∧ ∀ c ∈ w.cps.toList, isDig c = true := by
  unfold lenOk at h
  rw [Bool.and_eq_true, Bool.not_eq_true', List.all_eq_true] at h
  exact h
theorem head_of {w : Str} (h : headBad w = false) : 0 < w.length ∧ w.length ≤ 4 ∧ w.cps[0]? ≠ some 48 := by
  unfold headBad at h
  rw [Bool.or_eq_false_iff, Bool.or_eq_false_iff, decide_eq_false_iff_not, decide_eq_false_iff_not, decide_eq_false_iff_not] at h
  exact ⟨Nat.pos_of_ne_zero h.1.1, Nat.le_of_not_lt h.1.2, h.2⟩
theorem dig_of {c : Nat} (h : isDig c = true) : 48 ≤ c ∧ c ≤ 57 := by
  unfold isDig at h
  rw [Bool.and_eq_true, decide_eq_true_iff, decide_eq_true_iff] at h
  exact h
theorem cps_cons {w : Str} (h : 0 < w.length) : ∃ c r, w.cps.toList = c :: r ∧ w.cps[0]? = some c := by
  have hl : w.cps.toList.length = w.length := Array.length_toList
  rw [← Array.getElem?_toList]
  cases e : w.cps.toList with
  | nil => rw [e] at hl; rw [← hl] at h; exact absurd h (Nat.lt_irrefl 0)
  | cons c r => exact ⟨c, r, rfl, rfl⟩
theorem lenOk_txt {w : Str} (h : lenOk w = true) : PySem.intText? w = some (lenVal w) := by
  obtain ⟨h1, h2⟩ := lenOk_of h
  obtain ⟨h3, h4, _⟩ := head_of h1
  obtain ⟨c, r, e, _⟩ := cps_cons h3
  exact PySem.intText_digits (fun c hc => dig_of (h2 c hc)) (fun q => by rw [e] at q; cases q) (Nat.le_trans h4 (by decide))
theorem fold_ge : ∀ (r : List Nat) (a : Nat), 1 ≤ a → 1 ≤ r.foldl (fun acc c => acc * 10 + (c - 48)) a
  | [], _, h => h
  | _ :: r, _, h => fold_ge r _ (Nat.le_trans h (Nat.le_trans (Nat.le_mul_of_pos_right _ (by decide)) (Nat.le_add_right _ _)))
theorem lenOk_pos {w : Str} (h : lenOk w = true) : 1 ≤ lenVal w := by
  obtain ⟨h1, h2⟩ := lenOk_of h
  obtain ⟨h3, _, h5⟩ := head_of h1
  obtain ⟨c, r, e, e0⟩ := cps_cons h3
  have hc := dig_of (h2 c (by rw [e]; exact .head _))
  have hne : c ≠ 48 := fun q => h5 (by rw [e0, q])
  unfold lenVal PySem.NumText.digitsVal
  rw [e, List.foldl_cons, Nat.zero_mul, Nat.zero_add]
  exact Int.ofNat_le.mpr (fold_ge r _ (Nat.sub_pos_of_lt (Nat.lt_of_le_of_ne hc.1 (Ne.symm hne))))
/-- a number's word -/
noncomputable def digOk (m : Nat) : Bool := let l := (Nat.toDigits 10 m).map Char.toNat; decide (0 < l.length) && decide (l.length ≤ 4) && decide (l[0]? ≠ some 48) && l.all isDig
theorem digs_ok : ∀ m, m < 1000 → digOk (m + 1) = true := by decide +kernel
theorem num_ok {n : Int} (h0 : 1 ≤ n) (h1 : n ≤ 1000) : lenOk (numStr n) = true ∧ lenVal (numStr n) = n ∧ 32 ∉ (numStr n).cps.toList := by
  obtain ⟨m, rfl⟩ := Int.eq_ofNat_of_zero_le (Int.le_trans (by decide) h0)
  have hm0 : 1 ≤ m := Int.ofNat_le.mp h0
  have hm1 : m ≤ 1000 := Int.ofNat_le.mp h1
  obtain ⟨k, rfl⟩ := Nat.exists_eq_add_of_le hm0
  have hd := digs_ok k (Nat.lt_of_lt_of_le (Nat.lt_add_of_pos_left (by decide)) hm1)
  rw [Nat.add_comm] at hd
  have e := PySem.W.KIN.signs_num (1 + k)
  have e' : (numStr ((1 + k : Nat) : Int)).cps.toList = (Nat.toDigits 10 (1 + k)).map Char.toNat := e
  unfold digOk at hd
  rw [← e'] at hd
  generalize numStr ((1 + k : Nat) : Int) = w at e' hd
  dsimp only at hd
  rw [Bool.and_eq_true, Bool.and_eq_true, Bool.and_eq_true, decide_eq_true_iff, decide_eq_true_iff, decide_eq_true_iff, Array.length_toList, Array.getElem?_toList] at hd
  obtain ⟨⟨⟨d1, d2⟩, d3⟩, d4⟩ := hd
  refine ⟨?_, ?_, fun hm => ?_⟩
  · unfold lenOk headBad
    rw [d4, decide_eq_false (Nat.ne_of_gt d1 : ¬ w.length = 0), decide_eq_false (Nat.not_lt.mpr d2 : ¬ 4 < w.length), decide_eq_false d3]
    rfl
  · unfold lenVal
    rw [e', PySem.W.KIN.val_back]
  · exact absurd (dig_of (List.all_eq_true.mp d4 32 hm)).1 (by decide)
/-- the first sign that is none -/
theorem first_bad (p : Nat → Bool) : ∀ (l : List Nat), l.all p = false → ∃ j c, l[j]? = some c ∧ p c = false ∧ ∀ (k d : Nat), k < j → l[k]? = some d → p d = true
  | [], h => nomatch h
  | c :: r, h => by
    cases e : p c with
    | false => exact ⟨0, c, rfl, e, fun _ _ q => absurd q (Nat.not_lt_zero _)⟩
    | true =>
      rw [List.all_cons, e, Bool.true_and] at h
      obtain ⟨j, d, e1, e2, e3⟩ := first_bad p r h
      refine ⟨j + 1, d, e1, e2, fun k f hk ek => ?_⟩
      cases k with
      | zero => cases ek; exact e
      | succ k => exact e3 k f (Nat.lt_of_succ_lt_succ hk) ek
theorem split_bad {α : Type} (p : α → Bool) : ∀ (l : List α), l.all p = false → ∃ pre b post, l = pre ++ b :: post ∧ p b = false ∧ ∀ x ∈ pre, p x = true
  | [], h => nomatch h
  | c :: r, h => by
    cases e : p c with
    | false => exact ⟨[], c, r, rfl, e, fun _ q => nomatch q⟩
    | true =>
      rw [List.all_cons, e, Bool.true_and] at h
      obtain ⟨pre, b, post, rfl, e2, e3⟩ := split_bad p r h
      refine ⟨c :: pre, b, post, rfl, e2, fun x hx => ?_⟩
      rcases List.mem_cons.mp hx with rfl | hx
      · exact e
      · exact e3 x hx

open PySem

noncomputable abbrev sOk (x : Str) : Prop := PyData.strOk x = true
theorem sOk_iff {x : Str} : sOk x ↔ ∀ c ∈ x.cps.toList, c < 0x110000 := by
  show x.cps.all (· < 0x110000) = true ↔ _
  rw [← Array.all_toList, List.all_eq_true]
  exact ⟨fun h c hc => of_decide_eq_true (h c hc), fun h c hc => decide_eq_true (h c hc)⟩
theorem ok_app {x y : Str} (hx : sOk x) (hy : sOk y) : sOk (x ++ y) := sOk_iff.mpr fun c hc => by
  rw [Str.cps_append, Array.toList_append] at hc
  exact (List.mem_append.mp hc).elim (sOk_iff.mp hx c) (sOk_iff.mp hy c)
theorem ok_join {y : Str} (hy : sOk y) : ∀ {ws : List Str}, (∀ w ∈ ws, sOk w) → sOk (Str.join y ws)
  | [], _ => (by decide +kernel : sOk Str.empty)
  | [w], h => h w (.head _)
  | a :: b :: r, h => ok_app (ok_app (h a (.head _)) hy) (ok_join hy (ws := b :: r) fun w hw => h w (.tail _ hw))
theorem join_chars {c : Nat} {w : Str} : ∀ {ws : List Str}, w ∈ ws → c ∈ w.cps.toList → c ∈ (Str.join sp ws).cps.toList
  | a :: r, hw, hc => by
    rw [join_cons]
    rcases List.mem_cons.mp hw with rfl | hw
    · exact List.mem_append_left _ hc
    · refine List.mem_append_right _ ?_
      cases r with
      | nil => cases hw
      | cons b r => exact .tail _ (join_chars hw hc)
theorem ok_word {t w : Str} (ht : sOk t) (hw : w ∈ Txt.split t sp) : sOk w := sOk_iff.mpr fun c hc => sOk_iff.mp ht c (by
  have := join_chars hw hc
  rwa [StrLaws.join_split] at this)
theorem ok_slice {x : Str} {l u : Option Int} (hx : sOk x) : sOk (Txt.slice x l u) := sOk_iff.mpr fun c hc => by
  unfold Txt.slice at hc
  split at hc
  · exact sOk_iff.mp hx c hc
  · rw [List.toList_toArray] at hc
    obtain ⟨i, _, e⟩ := List.mem_filterMap.mp hc
    exact sOk_iff.mp hx c (List.mem_of_getElem? (by rw [Array.getElem?_toList]; exact e))
theorem ok_num {n : Int} (h0 : 1 ≤ n) (h1 : n ≤ 1000) : sOk (numStr n) := sOk_iff.mpr fun c hc => Nat.lt_of_le_of_lt (dig_of ((lenOk_of (num_ok h0 h1).1).2 c hc)).2 (by decide)

noncomputable def sV : Str := ("v" : String)
noncomputable def sH : Str := ("h" : String)
noncomputable def letr (m : Str) : Str := if m = ("valley" : String) then sV else sH
noncomputable def isLet (w : Str) : Bool := decide (w = sV) || decide (w = sH)
noncomputable def markOf (w : Str) : Str := if w = sV then ("valley" : String) else ("hill" : String)
noncomputable def pE (t : Str) : List Str := alt true (Txt.split t sp)
noncomputable def pO (t : Str) : List Str := alt false (Txt.split t sp)
noncomputable def eOk (w : Str) : Bool := lenOk w && decide (lenVal w ≤ 1000)
/-- a text that tells a strip -/
noncomputable def pOk (t : Str) : Prop := (∀ w ∈ pE t, eOk w = true) ∧ (∀ w ∈ pO t, isLet w = true) ∧ (Txt.split t sp).length % 2 = 1 ∧ (pE t).length ≤ 30
theorem eOk_of {w : Str} (h : eOk w = true) : lenOk w = true ∧ lenVal w ≤ 1000 := by
  unfold eOk at h
  rw [Bool.and_eq_true, decide_eq_true_iff] at h
  exact h
theorem pw_len (t : Str) : 0 < (Txt.split t sp).length ∧ (pE t).length = ((Txt.split t sp).length + 1) / 2 ∧ (pO t).length = (Txt.split t sp).length / 2 :=
  ⟨List.length_pos_iff.mpr (split_ne t sp), (alt_len _).1, (alt_len _).2⟩
theorem odd_iff (n : Nat) : n / 2 + 1 = (n + 1) / 2 ↔ n % 2 = 1 := by omega
theorem markOf_mk (w : Str) : Mk (markOf w) := by
  unfold markOf
  split
  · exact .inr rfl
  · exact .inl rfl
theorem pOk_strip {t : Str} (h : pOk t) : StripIs 1000 ((pE t).map lenVal) ((pO t).map markOf) where
  len := by rw [List.length_map, List.length_map, (pw_len t).2.1, (pw_len t).2.2]; exact ((odd_iff _).mpr h.2.2.1).symm
  most := by rw [List.length_map]; exact h.2.2.2
  nums := fun n hn => by
    obtain ⟨w, hw, rfl⟩ := List.mem_map.mp hn
    obtain ⟨h1, h2⟩ := eOk_of (h.1 w hw)
    exact ⟨lenOk_pos h1, h2⟩
  marks := fun m hm => by obtain ⟨w, _, rfl⟩ := List.mem_map.mp hm; exact markOf_mk w

/-- a strip's words -/
noncomputable def wds (n : Int) (ps : List (Int × Str)) : List Str := numStr n :: ps.flatMap fun p => [letr p.2, numStr p.1]
theorem alt_flat {α : Type} (f g : α → Str) (ps : List α) : alt true (ps.flatMap fun p => [f p, g p]) = ps.map f ∧ alt false (ps.flatMap fun p => [f p, g p]) = ps.map g := by
  induction ps with
  | nil => exact ⟨rfl, rfl⟩
  | cons p ps ih =>
    rw [List.flatMap_cons]
    show alt true (f p :: g p :: (ps.flatMap fun p => [f p, g p])) = _ ∧ alt false (f p :: g p :: (ps.flatMap fun p => [f p, g p])) = _
    rw [alt_t, alt_f, alt_f, alt_t, ih.1, ih.2]
    exact ⟨rfl, rfl⟩
theorem flat_len {α : Type} (f g : α → Str) (ps : List α) : (ps.flatMap fun p => [f p, g p]).length = 2 * ps.length := by
  induction ps with
  | nil => rfl
  | cons p ps ih => rw [List.flatMap_cons, List.length_append, ih, List.length_cons (a := p), Nat.mul_succ, Nat.add_comm]; rfl
theorem letr_let (m : Str) : isLet (letr m) = true ∧ 32 ∉ (letr m).cps.toList ∧ sOk (letr m) ∧ (letr m).length ≤ 4 := by
  unfold letr
  split <;> decide +kernel
theorem letr_back {m : Str} (h : Mk m) : markOf (letr m) = m := by
  rcases h with rfl | rfl <;> decide +kernel
noncomputable def NumsOk (n : Int) (ps : List (Int × Str)) : Prop := (1 ≤ n ∧ n ≤ 1000) ∧ (∀ p ∈ ps, 1 ≤ p.1 ∧ p.1 ≤ 1000) ∧ (∀ p ∈ ps, Mk p.2) ∧ ps.length ≤ 29
theorem wds_mem {n : Int} {ps : List (Int × Str)} {Pw : Str → Prop} (hn : ∀ m : Int, 1 ≤ m → m ≤ 1000 → Pw (numStr m)) (hl : ∀ m, Pw (letr m)) (h : NumsOk n ps) : ∀ w ∈ wds n ps, Pw w := fun w hw => by
  rcases List.mem_cons.mp hw with rfl | hw
  · exact hn n h.1.1 h.1.2
  · obtain ⟨p, hp, hw⟩ := List.mem_flatMap.mp hw
    rcases List.mem_cons.mp hw with rfl | hw
    · exact hl _
    · rw [List.mem_singleton.mp hw]
      exact hn _ (h.2.1 p hp).1 (h.2.1 p hp).2
theorem map_id {α β γ : Type} {f : α → β} {g : β → γ} {k : α → γ} {l : List α} (h : ∀ x ∈ l, g (f x) = k x) : (l.map f).map g = l.map k := by rw [List.map_map]; exact List.map_congr_left h
/-- what is written is read -/
theorem wds_read {n : Int} {ps : List (Int × Str)} (h : NumsOk n ps) : pOk (Str.join sp (wds n ps)) ∧ (pE (Str.join sp (wds n ps))).map lenVal = n :: ps.map (·.1) ∧ (pO (Str.join sp (wds n ps))).map markOf = ps.map (·.2) := by
  have e := split_join (ws := wds n ps) (fun q => nomatch q) (wds_mem (fun m a b => (num_ok a b).2.2) (fun m => (letr_let m).2.1) h)
  have eE : pE (Str.join sp (wds n ps)) = numStr n :: ps.map fun p => numStr p.1 := by unfold pE; rw [e]; unfold wds; rw [alt_t, (alt_flat _ _ ps).2]
  have eO : pO (Str.join sp (wds n ps)) = ps.map fun p => letr p.2 := by unfold pO; rw [e]; unfold wds; rw [alt_f, (alt_flat _ _ ps).1]
  have el : (Txt.split (Str.join sp (wds n ps)) sp).length = 2 * ps.length + 1 := by rw [e]; unfold wds; rw [List.length_cons, flat_len]
  have ok : ∀ m : Int, 1 ≤ m → m ≤ 1000 → eOk (numStr m) = true := fun m a b => by
    unfold eOk
    rw [(num_ok a b).1, (num_ok a b).2.1, decide_eq_true b]
    rfl
  unfold pOk
  rw [eE, eO, el]
  refine ⟨⟨fun w hw => ?_, fun w hw => ?_, by omega, ?_⟩, ?_, ?_⟩
  · rcases List.mem_cons.mp hw with rfl | hw
    · exact ok n h.1.1 h.1.2
    · obtain ⟨p, hp, rfl⟩ := List.mem_map.mp hw
      exact ok _ (h.2.1 p hp).1 (h.2.1 p hp).2
  · obtain ⟨p, hp, rfl⟩ := List.mem_map.mp hw
    exact (letr_let _).1
  · rw [List.length_cons, List.length_map]
    exact Nat.succ_le_succ h.2.2.2
  · rw [List.map_cons, (num_ok h.1.1 h.1.2).2.1, map_id (k := fun p => p.1) fun p hp => (num_ok (h.2.1 p hp).1 (h.2.1 p hp).2).2.1]
  · exact map_id fun p hp => letr_back (h.2.2.1 p hp)
theorem wds_small {n : Int} {ps : List (Int × Str)} (h : NumsOk n ps) : (∀ w ∈ wds n ps, w.length ≤ 4) ∧ (wds n ps).length ≤ 59 ∧ (Str.join sp (wds n ps)).length ≤ 295 ∧ sOk (Str.join sp (wds n ps)) := by
  have h1 : ∀ w ∈ wds n ps, w.length ≤ 4 := wds_mem (fun m a b => (head_of (lenOk_of (num_ok a b).1).1).2.1) (fun m => (letr_let m).2.2.2) h
  have h2 : (wds n ps).length ≤ 59 := by
    unfold wds
    rw [List.length_cons, flat_len]
    exact Nat.succ_le_succ (Nat.mul_le_mul_left 2 h.2.2.2)
  exact ⟨h1, h2, Nat.le_trans (join_le h1) (Nat.mul_le_mul_right 5 h2), ok_join (by decide +kernel) (wds_mem (fun m a b => ok_num a b) (fun m => (letr_let m).2.2.1) h)⟩

open PySem PyProof.Rows PySem.SeqAt

theorem c_ss {x y : Str} {H : AH} {Q : AV → AH → Prop} (hx : sOk x) (hy : sOk y) (h : Q (.bool (decide (x = y))) H) : opCmp .Eq (.str x) (.str y) H Q :=
  ⟨_, _, .str x hx, .str y hy, by rw [show (PyData.str x).eqv (PyData.str y) = decide (x = y) from by simp [PyData.eqv]; rfl]; exact h⟩
noncomputable def cs_letter_of : List CS := [
  .ite (.cmp .Eq (.var 0) (.const (.str "valley")))
    [      .ret (.const (.str "v"))]
    [],
  .ret (.const (.str "h"))]
noncomputable def cs_mark_of : List CS := [
  .ite (.cmp .Eq (.var 0) (.const (.str "v")))
    [      .ret (.const (.str "valley"))]
    [],
  .ite (.cmp .Eq (.var 0) (.const (.str "h")))
    [      .ret (.const (.str "hill"))]
    [],
  .raise ""]
noncomputable def hd1 : CE := .or (.cmp .Eq (.var 0) (.const (.str ""))) (.or (.cmp .Gt (.prim .len [(.var 0)]) (.prim .len [(.prim .str [(.const (.int (1000)))])])) (.cmp .Eq (.idx (.var 0) (.const (.int (0)))) (.const (.str "0"))))
noncomputable def hd2 : CE := .or (.cmp .Eq (.var 0) (.const (.str ""))) (.or (.cmp .Eq (.idx (.var 0) (.const (.int (0)))) (.const (.str "0"))) (.cmp .Gt (.prim .len [(.var 0)]) (.const (.int (4)))))
noncomputable def figT : CE := .cmp .NotIn (.var 1) (.const (.str "0123456789"))
noncomputable def cs_length_of : List CS := [
  .ite hd1
    [      .raise ""]
    [],
  .for1 1 (.var 0)
    [      .ite figT
        [          .raise ""]
        []],
  .ret (.prim .int [(.var 0)])]
noncomputable def cs_law_length : List CS := [
  .ite hd2
    [      .ret (.const .none)]
    [],
  .for1 1 (.var 0)
    [      .ite figT
        [          .ret (.const .none)]
        []],
  .ite (.cmp .Gt (.prim .int [(.var 0)]) (.const (.int (1000))))
    [      .ret (.const .none)]
    [],
  .ret (.prim .int [(.var 0)])]
section
variable {P : PC} {l : Lv} {f : Nat} {ps rest : List Str} {X : Str → Prop}
theorem letter_ok (F : FnIs P f ps rest cs_letter_of) (hp : ps.length = 1) (hr : rest.length = 0) (hk : 0 < l.k) {m : Str} (hm : sOk m) : CallJ P l f [.str m] (fun v H => v = .str (letr m) ∧ H = []) X := by
  refine F.call hk (by rw [hp]; rfl) ?_
  rw [hr]
  unfold cs_letter_of
  (refine wpSs_cons.mpr ?_; tm_at "wps")
  refine ⟨fun loc H => m ≠ ("valley" : String) ∧ H = [], ?_, c_ss hm (by decide +kernel) (brk (fun h => ?_) fun h => Cut.here ⟨h, rfl⟩)⟩
  · rintro loc H ⟨h, rfl⟩
    exact ⟨by unfold letr; rw [if_neg h]; rfl, rfl⟩
  · exact ⟨by unfold letr; rw [if_pos h]; rfl, rfl⟩
theorem mark_ok (F : FnIs P f ps rest cs_mark_of) (hp : ps.length = 1) (hr : rest.length = 0) (hk : 0 < l.k) {w : Str} (hw : sOk w) (h : isLet w = true) : CallJ P l f [.str w] (fun v H => v = .str (markOf w) ∧ H = []) X := by
  refine F.call hk (by rw [hp]; rfl) ?_
  rw [hr]
  unfold cs_mark_of
  (refine wpSs_cons.mpr ?_; tm_at "wps")
  refine ⟨fun loc H => w ≠ sV ∧ loc = [some (.str w)] ∧ H = [], ?_, c_ss hw (by decide +kernel) (brk (fun h => ?_) fun h => Cut.here ⟨h, rfl, rfl⟩)⟩
  · rintro loc H ⟨h1, rfl, rfl⟩
    have h2 : w = sH := by
      unfold isLet at h
      rw [decide_eq_false h1, Bool.false_or, decide_eq_true_iff] at h
      exact h
    (refine wpSs_cons.mpr ?_; tm_at "wps")
    refine ⟨fun _ _ => False, fun _ _ q => q.elim, c_ss hw (by decide +kernel) (brk (fun _ => ?_) fun q => absurd h2 q)⟩
    exact ⟨by unfold markOf; rw [if_neg h1], rfl⟩
  · exact ⟨by unfold markOf; rw [if_pos (show w = sV from h)], rfl⟩
theorem idx0_ok {w : Str} {H : AH} {Q : AV → AH → Prop} (h0 : 0 < w.length) (hs : w.length ≤ smallN) (h : ∀ c, w.cps[0]? = some c → Q (.str ⟨#[c]⟩) H) : opIdx (.str w) (.int 0) H Q := by
  obtain ⟨c, r, e, e0⟩ := cps_cons h0
  have el : (signs w).length = w.length := by unfold signs; rw [List.length_map, Array.length_toList]; rfl
  have ei : idxAt 0 (signs w) = some (.str ⟨#[c]⟩) := idxAt_some (j := 0) (by rw [el]; exact hs) (idx_in (Int.le_refl 0) (by rw [el]; exact Int.ofNat_lt.mpr h0)) (by unfold signs; rw [e]; rfl)
  show opt (idxAt 0 (signs w)) fun v => Q v H
  rw [ei]
  exact h c e0
theorem one_eq {c d : Nat} : ((⟨#[c]⟩ : Str) = ⟨#[d]⟩) ↔ c = d := ⟨fun h => by injection h with h; injection h with h; injection h, fun h => by rw [h]⟩
theorem sOk_sub {w : Str} {c : Nat} (hw : sOk w) (h : w.cps[0]? = some c) : sOk ⟨#[c]⟩ := sOk_iff.mpr fun d hd => sOk_iff.mp hw d (by
  rw [List.mem_singleton.mp hd]
  exact List.mem_of_getElem? (by rw [Array.getElem?_toList]; exact h))
theorem empty_iff {w : Str} : w = ("" : String) ↔ w.length = 0 := ⟨fun h => by rw [h]; decide +kernel, fun h => Str.ext' (by
  have : w.cps = #[] := Array.eq_empty_of_size_eq_zero h
  rw [this]
  decide +kernel)⟩
theorem zero_is : (("0" : String) : Str) = ⟨#[48]⟩ := by decide +kernel
theorem dec_congr {p q : Prop} [Decidable p] [Decidable q] (h : p ↔ q) : decide p = decide q := by simp only [h]
theorem ff_else {A B : Prop} (h : B) : if false = true then A else B := h
/-- the first test of a word -/
theorem hd1_ok {w : Str} {r : Loc} {H : AH} {K : AV → AH → Prop} (hq : l.q = true) (hw : sOk w) (hs : w.length ≤ smallN) (h : K (.bool (headBad w)) H) : wpE P l X hd1 (some (.str w) :: r) H K := by
  unfold hd1
  tm_at "wps"
  refine c_ss hw (by decide +kernel) ?_
  show if decide (w = ("" : String)) = true then _ else _
  unfold headBad at h
  rw [dec_congr empty_iff]
  cases e1 : decide (w.length = 0) with
  | true => rw [e1] at h; exact h
  | false =>
    rw [e1, Bool.false_or] at h
    have h0 : 0 < w.length := Nat.pos_of_ne_zero (of_decide_eq_false e1)
    refine ff_else ⟨hq, hs, hq, hq, by decide +kernel, by decide +kernel, ?_⟩
    show if decide (((numStr 1000).length : Int) < (w.length : Int)) = true then _ else _
    rw [dec_congr (q := 4 < w.length) (by rw [show (numStr 1000).length = 4 from by decide +kernel]; exact Int.ofNat_lt)]
    cases e2 : decide (4 < w.length) with
    | true => rw [e2] at h; exact h
    | false =>
      rw [e2, Bool.false_or] at h
      refine ff_else (idx0_ok h0 hs ?_)
      intro c hc
      refine c_ss (sOk_sub hw hc) (by decide +kernel) ?_
      rw [zero_is, dec_congr one_eq]
      rw [hc, dec_congr (p := some c = some 48) (q := c = 48) ⟨Option.some.inj, congrArg some⟩] at h
      exact h
theorem hd2_ok {w : Str} {r : Loc} {H : AH} {K : AV → AH → Prop} (hq : l.q = true) (hw : sOk w) (hs : w.length ≤ smallN) (h : K (.bool (headBad w)) H) : wpE P l X hd2 (some (.str w) :: r) H K := by
  unfold hd2
  tm_at "wps"
  refine c_ss hw (by decide +kernel) ?_
  show if decide (w = ("" : String)) = true then _ else _
  unfold headBad at h
  rw [Bool.or_assoc, Bool.or_comm (decide (4 < w.length))] at h
  rw [dec_congr empty_iff]
  cases e1 : decide (w.length = 0) with
  | true => rw [e1] at h; exact h
  | false =>
    rw [e1, Bool.false_or] at h
    have h0 : 0 < w.length := Nat.pos_of_ne_zero (of_decide_eq_false e1)
    refine ff_else (idx0_ok h0 hs ?_)
    intro c hc
    refine c_ss (sOk_sub hw hc) (by decide +kernel) ?_
    rw [zero_is, dec_congr one_eq]
    rw [hc, dec_congr (p := some c = some 48) (q := c = 48) ⟨Option.some.inj, congrArg some⟩] at h
    show if decide (c = 48) = true then _ else _
    cases e2 : decide (c = 48) with
    | true => rw [e2] at h; exact h
    | false =>
      rw [e2, Bool.false_or] at h
      refine ff_else ⟨hq, hs, ?_⟩
      show K (.bool (decide ((4 : Int) < (w.length : Int)))) H
      rw [dec_congr (p := (4 : Int) < (w.length : Int)) (q := 4 < w.length) (Int.ofNat_lt (n := 4))]
      exact h
/-- the signs of a word, one by one -/
theorem figs_ok {w : Str} {o : Option AV} {br : List CS} {H : AH} {Qn : Loc → AH → Prop} {Qr : AV → AH → Prop} {Qx : Str → Loc → AH → Prop} (hq : l.q = true) (hs : w.length ≤ smallN) (hd : ∀ c ∈ w.cps.toList, isDig c = true) (h : ∀ o', Qn [some (.str w), o'] H) :
    wpS P l (.for1 1 (.var 0) [.ite figT br []]) [some (.str w), o] H Qn Qr Qx := by
  have el : (signs w).length = w.length := by unfold signs; rw [List.length_map, Array.length_toList]; rfl
  refine ⟨hq, w.length, .str w, fun k v loc H' => v = .str w ∧ H' = H ∧ ∃ o', loc = [some (.str w), o'], ⟨_, _, _, .inl ⟨rfl, rfl⟩, rfl, rfl, rfl, _, rfl⟩, ?_, hs, ?_, ?_⟩
  · rintro k v loc H' _ ⟨rfl, rfl, o', rfl⟩
    exact ⟨rfl, _, rfl, el⟩
  · rintro k v loc H' its u hk _ ⟨rfl, rfl, o', rfl⟩ ei eu
    cases ei
    unfold signs at eu
    rw [List.getElem?_map] at eu
    obtain ⟨d, ed, rfl⟩ := Option.map_eq_some_iff.mp eu
    refine ⟨fun loc H => loc = [some (.str w), some (.str ⟨#[d]⟩), some (.str w)] ∧ H = H', ?_, ?_⟩
    · rintro loc H ⟨rfl, rfl⟩
      exact ⟨.str w, [some (.str w), some (.str ⟨#[d]⟩)], _, .inl ⟨rfl, rfl⟩, rfl, rfl, rfl, _, rfl⟩
    · show if (!strIn ⟨#[d]⟩ ("0123456789" : String)) = true then _ else _
      rw [strIn_fig, hd d (List.mem_of_getElem? ed)]
      exact Cut.here ⟨rfl, rfl⟩
  · rintro v loc H' ⟨rfl, rfl, o', rfl⟩
    exact h o'
theorem figs_bad {w : Str} {o : Option AV} {H : AH} {Qn : Loc → AH → Prop} {Qr : AV → AH → Prop} {Qx : Str → Loc → AH → Prop} (hq : l.q = true) (hs : w.length ≤ smallN) (hd : w.cps.toList.all isDig = false) (h : Qr .none H) :
    wpS P l (.for1 1 (.var 0) [.ite figT [.ret (.const .none)] []]) [some (.str w), o] H Qn Qr Qx := by
  have el : (signs w).length = w.length := by unfold signs; rw [List.length_map, Array.length_toList]; rfl
  obtain ⟨j, cj, ej, ebad, egood⟩ := first_bad isDig _ hd
  have hj : j < w.length := by have := (List.getElem?_eq_some_iff.mp ej).1; rwa [Array.length_toList] at this
  refine ⟨hq, w.length, .str w, fun k v loc H' => k ≤ j ∧ v = .str w ∧ H' = H ∧ ∃ o', loc = [some (.str w), o'], ⟨_, _, _, .inl ⟨rfl, rfl⟩, rfl, Nat.zero_le _, rfl, rfl, _, rfl⟩, ?_, hs, ?_, ?_⟩
  · rintro k v loc H' _ ⟨_, rfl, rfl, o', rfl⟩
    exact ⟨rfl, _, rfl, el⟩
  · rintro k v loc H' its u hk _ ⟨hkj, rfl, rfl, o', rfl⟩ ei eu
    cases ei
    unfold signs at eu
    rw [List.getElem?_map] at eu
    obtain ⟨d, ed, rfl⟩ := Option.map_eq_some_iff.mp eu
    refine ⟨fun loc H => k < j ∧ loc = [some (.str w), some (.str ⟨#[d]⟩), some (.str w)] ∧ H = H', ?_, ?_⟩
    · rintro loc H ⟨hlt, rfl, rfl⟩
      exact ⟨.str w, [some (.str w), some (.str ⟨#[d]⟩)], _, .inl ⟨rfl, rfl⟩, rfl, hlt, rfl, rfl, _, rfl⟩
    · show if (!strIn ⟨#[d]⟩ ("0123456789" : String)) = true then _ else _
      rw [strIn_fig]
      rcases Nat.lt_or_eq_of_le hkj with hlt | rfl
      · rw [egood k d hlt ed]
        exact Cut.here ⟨hlt, rfl, rfl⟩
      · rw [ej] at ed
        cases ed
        rw [ebad]
        exact h
  · rintro v loc H' ⟨q, _⟩
    exact absurd q (Nat.not_le.mpr hj)
theorem len_small {w : Str} (h : lenOk w = true) : w.length ≤ 4 := (head_of (lenOk_of h).1).2.1
theorem length_ok (F : FnIs P f ps rest cs_length_of) (hp : ps.length = 1) (hr : rest.length = 1) (hk : 0 < l.k) (hq : l.q = true) {w : Str} (hw : sOk w) (h : lenOk w = true) : CallJ P l f [.str w] (fun v H => v = .int (lenVal w) ∧ H = []) X := by
  have hs := Nat.le_trans (len_small h) (by decide : 4 ≤ smallN)
  refine F.call hk (by rw [hp]; rfl) ?_
  rw [hr]
  unfold cs_length_of
  (refine wpSs_cons.mpr ?_; tm_at "wps")
  refine ⟨fun loc H => loc = [some (.str w), none] ∧ H = [], ?_, hd1_ok hq hw hs ?_⟩
  · rintro loc H ⟨rfl, rfl⟩
    refine wpSs_cons.mpr (figs_ok hq hs (lenOk_of h).2 fun o' => ?_)
    (refine wpSs_cons.mpr ?_; tm_at "wps")
    refine ⟨hq, Nat.le_trans (len_small h) (by decide), ?_⟩
    rw [lenOk_txt h]
    exact ⟨rfl, rfl⟩
  · rw [(lenOk_of h).1]
    exact Cut.here ⟨rfl, rfl⟩
theorem law_length_ok (F : FnIs P f ps rest cs_law_length) (hp : ps.length = 1) (hr : rest.length = 1) (hk : 0 < l.k) (hq : l.q = true) {w : Str} (hw : sOk w) (hs : w.length ≤ smallN) : CallJ P l f [.str w] (fun v H => v = (if eOk w = true then .int (lenVal w) else .none) ∧ H = []) X := by
  refine F.call hk (by rw [hp]; rfl) ?_
  rw [hr]
  unfold cs_law_length
  (refine wpSs_cons.mpr ?_; tm_at "wps")
  refine ⟨fun loc H => headBad w = false ∧ loc = [some (.str w), none] ∧ H = [], ?_, hd2_ok hq hw hs ?_⟩
  · rintro loc H ⟨e1, rfl, rfl⟩
    refine wpSs_cons.mpr ?_
    cases e2 : w.cps.toList.all isDig with
    | false => exact figs_bad hq hs e2 ⟨by unfold eOk lenOk; rw [e2, Bool.and_false, Bool.false_and]; rfl, rfl⟩
    | true =>
      have h : lenOk w = true := by unfold lenOk; rw [e1, e2]; rfl
      have h3 : w.length ≤ 640 := Nat.le_trans (len_small h) (by decide)
      refine figs_ok hq hs (List.all_eq_true.mp e2) fun o' => ?_
      (refine wpSs_cons.mpr ?_; tm_at "wps")
      refine ⟨fun loc H => lenVal w ≤ 1000 ∧ loc = [some (.str w), o'] ∧ H = [], ?_, hq, h3, ?_⟩
      · rintro loc H ⟨e3, rfl, rfl⟩
        (refine wpSs_cons.mpr ?_; tm_at "wps")
        refine ⟨hq, h3, ?_⟩
        rw [lenOk_txt h]
        exact ⟨by unfold eOk; rw [h, decide_eq_true e3]; rfl, rfl⟩
      · rw [lenOk_txt h]
        exact brk (fun q => ⟨by unfold eOk; rw [decide_eq_false (Int.not_le.mpr q), Bool.and_false]; rfl, rfl⟩) fun q => Cut.here ⟨Int.not_lt.mp q, rfl, rfl⟩
  · cases e1 : headBad w with
    | false => exact Cut.here ⟨rfl, rfl, rfl⟩
    | true => exact ⟨by unfold eOk lenOk; rw [e1]; rfl, rfl⟩
end

open PySem PyProof.Rows PySem.SeqAt

/-- [G(w) for w in ..] -/
noncomputable def LcIs (nt : NT) (n : Nat) (kd : Str → Option NameKind) (names : List Str) (e : PySem.Expr) (gi : Nat) (ci : CE) : Prop :=
  ∃ scope wd g wp gp cp pos a0 it, e = .ListComp (.Call (.Name g gp) [a0] [] cp) [⟨.Name wd wp, it, [], 0⟩] scope pos ∧ compE nt n kd names it = some ci ∧ freeNames scope = [] ∧ compOk scope kd [wd] = true ∧ compE nt n (compKd scope kd) [wd] a0 = some (.var 0) ∧ compE nt n (compKd scope kd) [wd] (.Call (.Name g gp) [a0] [] cp) = some (.call gi [.var 0]) ∧ isGlob (compKd scope kd) g = true ∧ nt.fns[gi]? = some g
theorem lc_rais {K : FC} {base : Heap} {outer : List Env} {ρ : List Addr} {loc : Loc} {H : AH} {s : Shared} {c : Addr} (x : FX K base outer) (F : Fr K ρ loc H s) (hq : K.l.q = true) (hk : 0 < K.l.k) {n gi : Nat} {ci : CE} {e : PySem.Expr} (h : LcIs K.P.nt n K.env.kindOf K.names e gi ci)
    (hw : wpE K.P K.l (fun _ => False) ci loc H fun v H₁ => ∃ ws, iterOfC H₁ v = some ws ∧ ws.length ≤ smallN ∧ (∀ w ∈ ws, ∀ H, Ren [] H w w) ∧ Upto K.P K.l gi c ws) :
    wpAny (model K.P.prog K.P.w) K.A (eval e K.env) (fun _ _ => False) (XIn base (K.env :: outer) c K.s₀) s := by
  obtain ⟨_, _, _, _, _, _, _, _, _, rfl, h1, h2, h3, h4, h5, h6, h7⟩ := h
  exact comp_rais x F hq hk h1 h2 h3 h4 h5 h6 h7 hw
/-- what a def must be that runs to a place where it raises -/
noncomputable def PreIs (P : PC) (f : Nat) (ps rest : List Str) (k : Nat) (cpre : List CS) (Sh : (Str → Option NameKind) → List PySem.Stmt → Prop) : Prop :=
  ∃ x d n, P.nt.fns[f]? = some x ∧ P.defs[f]? = some d ∧ defOk d.scope ps rest = true ∧ allSome ((d.body.take k).map (compS P.nt n (fun x => d.scope.names.lookup x) (ps ++ rest))) = some cpre ∧ Sh (fun x => d.scope.names.lookup x) (d.body.drop k) ∧
    ∀ xs pm code doc, xs.length = ps.length → bindArgs (Calls.docDef d.name d.params d.body d.scope pm code doc) ⟨xs, []⟩ = pure (ps.zip xs)
theorem PreIs.call {P : PC} {l : Lv} {f : Nat} {ps rest : List Str} {k : Nat} {cpre : List CS} {Sh : (Str → Option NameKind) → List PySem.Stmt → Prop} {vs : List AV} {c : Addr} {R : Loc → AH → Prop} (F : PreIs P f ps rest k cpre Sh) (hk : 0 < l.k) (hl : vs.length = ps.length)
    (hw : wpSs P ⟨l.k - 1, l.q⟩ cpre (vs.map some ++ List.replicate rest.length none) [] R (fun _ _ => False) (fun _ _ _ => False))
    (hpost : ∀ (K : FC) (base : Heap) (outer : List Env) (ρ : List Addr) (loc : Loc) (H : AH) (s : Shared) (b : List PySem.Stmt), K.P = P → K.l = ⟨l.k - 1, l.q⟩ → K.names = ps ++ rest → Sh K.env.kindOf b → FX K base outer → Fr K ρ loc H s → R loc H →
      wpAny (model K.P.prog K.P.w) K.A (execs b K.env) (fun _ _ => False) (XOut K base outer c) s) : CallX P l f vs c := by
  obtain ⟨x, d, n, h1, h2, h3, h4, h5, h6⟩ := F
  exact CallX.of_pre h1 h2 hk h6 h3 hl (List.take_append_drop k d.body).symm h4 hw fun K base outer ρ loc H s a1 a2 a3 a4 X F r => hpost K base outer ρ loc H s _ a1 a2 a3 (by rw [a4]; exact h5) X F r
/-- raise C(..) -/
noncomputable def ShR (c : Str) (kd : Str → Option NameKind) (b : List PySem.Stmt) : Prop := ∃ np m kk kp cp rp, b = .Raise (some (.Call (.Name c np) [.Constant (.str m) kk kp] [] cp)) none rp :: b.drop 1 ∧ isGlob kd c = true
/-- if T: raise C(..) -/
noncomputable def ShIf (nt : NT) (names : List Str) (c : Str) (ct : CE) (kd : Str → Option NameKind) (b : List PySem.Stmt) : Prop := ∃ t np m kk kp cp rp els ip n, b = .If t [.Raise (some (.Call (.Name c np) [.Constant (.str m) kk kp] [] cp)) none rp] els ip :: b.drop 1 ∧ isGlob kd c = true ∧ compE nt n kd names t = some ct
section
variable {K : FC} {base : Heap} {outer : List Env} {ρ : List Addr} {loc : Loc} {H : AH} {s : Shared} {c : Addr} {n : Str} {b : List PySem.Stmt}
theorem ShR.rais (h : ShR n K.env.kindOf b) (x : FX K base outer) (F : Fr K ρ loc H s) (hq : K.l.q = true) (ho : K.P.own n c = some true) (hm : K.P.mg n = some (.ref c)) : wpAny (model K.P.prog K.P.w) K.A (execs b K.env) (fun _ _ => False) (XOut K base outer c) s := by
  obtain ⟨_, _, _, _, _, _, h1, h2⟩ := h
  rw [h1]
  exact rais_raise x F hq h2 ho hm fun h1 h' tk a vs k hmade => XOut.of_made x F k hmade
theorem ShIf.rais {ct : CE} {nt : NT} {names : List Str} (h : ShIf nt names n ct K.env.kindOf b) (hnt : K.P.nt = nt) (hn : K.names = names) (x : FX K base outer) (F : Fr K ρ loc H s) (hq : K.l.q = true) (ho : K.P.own n c = some true) (hm : K.P.mg n = some (.ref c)) (hw : wpE K.P K.l (fun _ => False) ct loc H (isB fun b _ => b = true)) :
    wpAny (model K.P.prog K.P.w) K.A (execs b K.env) (fun _ _ => False) (XOut K base outer c) s := by
  subst hnt hn
  obtain ⟨_, _, _, _, _, _, _, _, _, _, h1, h2, h3⟩ := h
  rw [h1]
  exact rais_if x F hq h2 ho hm h3 hw fun h1 h' tk a vs F' k hmade => XOut.of_made x F' k hmade
end
/-- for S in W: if S not in F: raise C(..) -/
noncomputable def ShFor (nt : NT) (names : List Str) (c : Str) (kd : Str → Option NameKind) (b : List PySem.Stmt) : Prop :=
  ∃ vx px it t np m kk kp cp rp els ip fp n, b = .For (.Name vx px) it [.If t [.Raise (some (.Call (.Name c np) [.Constant (.str m) kk kp] [] cp)) none rp] els ip] [] fp :: b.drop 1 ∧ slotOf kd names vx = some 1 ∧ isGlob kd c = true ∧ compE nt n kd names it = some (.var 0) ∧ compE nt n kd names t = some figT ∧ allSome ([PySem.Stmt.If t [.Raise (some (.Call (.Name c np) [.Constant (.str m) kk kp] [] cp)) none rp] els ip].map (compS nt n kd names)) = some [.ite figT [.raise ""] []]
theorem ShFor.rais {K : FC} {base : Heap} {outer : List Env} {ρ : List Addr} {s : Shared} {c : Addr} {n : Str} {b : List PySem.Stmt} {nt : NT} {names : List Str} {w : Str} (h : ShFor nt names n K.env.kindOf b) (hnt : K.P.nt = nt) (hn : K.names = names) (x : FX K base outer) (F : Fr K ρ [some (.str w), none] [] s) (hq : K.l.q = true) (ho : K.P.own n c = some true) (hm : K.P.mg n = some (.ref c)) (hd : w.cps.toList.all isDig = false) :
    wpAny (model K.P.prog K.P.w) K.A (execs b K.env) (fun _ _ => False) (XOut K base outer c) s := by
  subst hnt hn
  obtain ⟨_, _, _, _, _, _, _, _, _, _, _, _, _, _, h1, h3, h7, h8, h9, h10⟩ := h
  rw [h1]
  obtain ⟨j, cj, ej, ebad, egood⟩ := first_bad isDig _ hd
  exact rais_for x F hq h7 ho hm h3 h8 h9 h10 (by rw [← Array.getElem?_toList]; exact ej) (by rw [strIn_fig]; exact ebad) fun k d hk ed => by rw [strIn_fig]; exact egood k d hk (by rw [Array.getElem?_toList]; exact ed)
section
variable {P : PC} {l : Lv} {f : Nat} {ps rest : List Str} {c : Addr}
theorem mark_bad (F : PreIs P f ps rest 2 (cs_mark_of.take 2) (ShR "BadText")) (hp : ps.length = 1) (hr : rest.length = 0) (hk : 0 < l.k) (hq : l.q = true) (ho : P.own "BadText" c = some true) (hm : P.mg "BadText" = some (.ref c)) {w : Str} (hw : sOk w) (h : isLet w = false) : CallX P l f [.str w] c := by
  unfold isLet at h
  rw [Bool.or_eq_false_iff, decide_eq_false_iff_not, decide_eq_false_iff_not] at h
  refine F.call (R := fun _ _ => True) hk (by rw [hp]; rfl) ?_ ?_
  · rw [hr]
    show wpSs P _ [_, _] _ _ _ _ _
    (refine wpSs_cons.mpr ?_; tm_at "wps")
    refine ⟨fun loc H => loc = [some (.str w)], ?_, c_ss hw (by decide +kernel) (brk (fun q => absurd q h.1) fun h => Cut.here rfl)⟩
    rintro loc H rfl
    (refine wpSs_cons.mpr ?_; tm_at "wps")
    exact ⟨fun _ _ => True, fun _ _ q => q, c_ss hw (by decide +kernel) (brk (fun q => absurd q h.2) fun h => Cut.here trivial)⟩
  · intro K base outer ρ loc H s b a1 a2 a3 sh x F' _
    subst a1
    exact sh.rais x F' (by rw [a2]; exact hq) ho hm
theorem length_bad (F0 : PreIs P f ps rest 0 [] (ShIf P.nt (ps ++ rest) "BadText" hd1)) (F1 : PreIs P f ps rest 1 (cs_length_of.take 1) (ShFor P.nt (ps ++ rest) "BadText")) (hp : ps.length = 1) (hr : rest.length = 1) (hk : 0 < l.k) (hq : l.q = true) (ho : P.own "BadText" c = some true) (hm : P.mg "BadText" = some (.ref c)) {w : Str} (hw : sOk w) (hs : w.length ≤ smallN) (h : lenOk w = false) : CallX P l f [.str w] c := by
  unfold lenOk at h
  cases e : headBad w with
  | true =>
    refine F0.call (R := fun loc H => loc = [some (.str w), none]) hk (by rw [hp]; rfl) ?_ ?_
    · rw [hr]; rfl
    · intro K base outer ρ loc H s b a1 a2 a3 sh x F' rl
      subst a1
      subst rl
      exact sh.rais rfl a3 x F' (by rw [a2]; exact hq) ho hm (hd1_ok (by rw [a2]; exact hq) hw hs e)
  | false =>
    rw [e] at h
    refine F1.call (R := fun loc H => loc = [some (.str w), none] ∧ H = []) hk (by rw [hp]; rfl) ?_ ?_
    · rw [hr]
      show wpSs P _ [_] _ _ _ _ _
      refine wpSs_cons.mpr ⟨fun loc H => loc = [some (.str w), none] ∧ H = [], fun _ _ q => q, hd1_ok hq hw hs ?_⟩
      rw [e]
      exact Cut.here ⟨rfl, rfl⟩
    · rintro K base outer ρ loc H s b a1 a2 a3 sh x F' ⟨rfl, rfl⟩
      subst a1
      exact sh.rais rfl a3 x F' (by rw [a2]; exact hq) ho hm h
end

open PySem PyProof.Rows PySem.SeqAt

noncomputable def cs_isstrip (fn : Nat) : List CS := [
  .ite (.or (.not (.isin .tuple (.var 0))) (.cmp .NotEq (.prim .len [(.var 0)]) (.const (.int (2)))))
    [      .ret (.const (.bool false))]
    [],
  .assignT [1, 2] (.var 0),
  .ite (.or (.not (.isin .list (.var 1))) (.not (.isin .list (.var 2))))
    [      .ret (.const (.bool false))]
    [],
  .ite (.or (.not (.chain .LtE .LtE (.const (.int (1))) (.prim .len [(.var 1)]) (.const (.int (30))))) (.cmp .NotEq (.prim .len [(.var 2)]) (.bin .Sub (.prim .len [(.var 1)]) (.const (.int (1))))))
    [      .ret (.const (.bool false))]
    [],
  .ite (.not (.prim .all [(.comp (.call fn [(.var 0), (.const (.int (1))), (.const (.int (1000)))]) [] [] 0 (.var 1))]))
    [      .ret (.const (.bool false))]
    [],
  .ret (.prim .all [(.comp (.and (.isin .str (.var 0)) (.cmp .In (.var 0) (.tup [(.const (.str "hill")), (.const (.str "valley"))]))) [] [] 0 (.var 2))])]
noncomputable def isMk : AV → Bool
  | .str m => ("hill" : Str) == m || ("valley" : Str) == m
  | _ => false
noncomputable def stripA (ls ms : List AV) : Bool := (decide (1 ≤ ls.length) && decide (ls.length ≤ 30) && decide (ms.length + 1 = ls.length)) && ls.all (isNum 1 1000) && ms.all isMk
section
variable {P : PC} {l : Lv} {f fn : Nat} {ps rest : List Str} {X : Str → Prop}
theorem stripA_f {ls ms : List AV} (h : ¬ ((1 ≤ ls.length ∧ ls.length ≤ 30 ∧ ms.length + 1 = ls.length) ∧ ls.all (isNum 1 1000) = true)) : AV.bool false = AV.bool (stripA ls ms) := by
  unfold stripA
  congr 1
  symm
  rw [Bool.and_eq_false_iff]
  left
  rw [Bool.eq_false_iff]
  intro q
  simp only [Bool.and_eq_true, decide_eq_true_eq] at q
  exact h ⟨⟨q.1.1.1, q.1.1.2, q.1.2⟩, q.2⟩
theorem stripA_t {ls ms : List AV} (h : 1 ≤ ls.length ∧ ls.length ≤ 30 ∧ ms.length + 1 = ls.length) (h2 : ls.all (isNum 1 1000) = true) : AV.bool (ms.all isMk) = AV.bool (stripA ls ms) := by
  unfold stripA
  rw [h2, decide_eq_true h.1, decide_eq_true h.2.1, decide_eq_true h.2.2]
  rfl
theorem isMk_el {x : AV} {A B : Prop} {k : AV → Prop} (hx : Pl x) (hk : k (.bool (isMk x))) : offRng x (if isInst Ty.str x = true then 2 ≤ smallN ∧ opCmp CmpOp.In x (AV.tup [AV.str "hill", AV.str "valley"]) [] fun r Hc => ∃ r', Ren [] Hc r r' ∧ (A ∧ B ∨ NoFl r') ∧ k r'
    else ∃ r', Ren [] [] (AV.bool false) r' ∧ (A ∧ B ∨ NoFl r') ∧ k r') := by
  cases x with
  | none => exact ⟨_, .bool _, .inr (.bool _), hk⟩
  | bool => exact ⟨_, .bool _, .inr (.bool _), hk⟩
  | int => exact ⟨_, .bool _, .inr (.bool _), hk⟩
  | fl => exact ⟨_, .bool _, .inr (.bool _), hk⟩
  | str m =>
    refine ⟨by decide, .str m, _, _, .str m hx, rfl, .cons (.str _ (by decide +kernel)) (.cons (.str _ (by decide +kernel)) .nil), ⟨_, .bool _, .inr (.bool _), ?_⟩⟩
    have e : (([PyData.str "hill", PyData.str "valley"] : List PyData).any fun d => d.eqv (.str m)) = isMk (.str m) := by
      simp [isMk, PyData.eqv]
    rw [e]
    exact hk
  | _ => exact hx.elim
theorem isstrip_lists (F : FnIs P f ps rest (cs_isstrip fn)) (hp : ps.length = 1) (hr : rest.length = 2) (hk : 1 < l.k) (hq : l.q = true) {ls ms : List AV} (hl : ∀ v ∈ ls, Pl v) (hm : ∀ v ∈ ms, Pl v) (hll : ls.length ≤ smallN) (hlm : ms.length ≤ smallN)
    (rl0 : ∀ H, ∀ v ∈ ls, Ren [] H v v) (rm0 : ∀ H, ∀ v ∈ ms, Ren [] H v v) (hn : ∀ v, Pl v → CallJ P ⟨l.k - 1, l.q⟩ fn [v, .int 1, .int 1000] (fun r H => r = .bool (isNum 1 1000 v) ∧ H = []) X) :
    CallJ P l f [.tup [.fl ls, .fl ms]] (fun r _ => r = .bool (stripA ls ms)) X := by
  have hk' : 0 < l.k := Nat.lt_trans (by decide) hk
  have rl : ∀ H, Rens [] H ls ls := fun H => Rens.self (rl0 H)
  have rm : ∀ H, Rens [] H ms ms := fun H => Rens.self (rm0 H)
  have sl : ls.length ≤ smallN := hll
  have sm : ms.length ≤ smallN := hlm
  refine F.call hk' (by simp [hp]) ?_
  rw [hr]
  unfold cs_isstrip
  (refine wpSs_cons.mpr ?_; tm_at "wps")
  refine ⟨fun loc H => loc = [some (.tup [.fl ls, .fl ms]), none, none] ∧ H = [], ?_, hq, by decide, Cut.here ⟨rfl, rfl⟩⟩
  rintro loc H ⟨rfl, rfl⟩
  (refine wpSs_cons.mpr ?_; tm_at "wps")
  refine ⟨hq, ?_⟩
  (refine wpSs_cons.mpr ?_; tm_at "wps")
  refine ⟨fun loc H => loc = [some (.tup [.fl ls, .fl ms]), some (.fl ls), some (.fl ms)] ∧ H = [], ?_, Cut.here ⟨rfl, rfl⟩⟩
  rintro loc H ⟨rfl, rfl⟩
  (refine wpSs_cons.mpr ?_; tm_at "wps")
  refine ⟨fun loc H => (1 ≤ ls.length ∧ ls.length ≤ 30 ∧ ms.length + 1 = ls.length) ∧ loc = [some (.tup [.fl ls, .fl ms]), some (.fl ls), some (.fl ms)] ∧ H = [], ?_, hq, sl,
    brk (fun h1 => brk_not (fun h2 => stripA_f fun q => h2 (Int.ofNat_le.mpr q.1.2.1)) fun h2 => ⟨hq, sm, hq, sl, brk_not (fun h3 => stripA_f fun q => h3 (by omega)) fun h3 => Cut.here ⟨⟨Int.ofNat_le.mp h1, Int.ofNat_le.mp h2, by omega⟩, rfl, rfl⟩⟩) fun h1 => stripA_f fun q => h1 (Int.ofNat_le.mpr q.1.1)⟩
  rintro loc H ⟨hlen, rfl, rfl⟩
  (refine wpSs_cons.mpr ?_; tm_at "wps")
  refine ⟨fun loc H => ls.all (isNum 1 1000) = true ∧ loc = [some (.tup [.fl ls, .fl ms]), some (.fl ls), some (.fl ms)] ∧ H = [], ?_, hq, hq, _, _, _, rfl, sl, rl _, .nil, comp_map (fun v => .bool (isNum 1 1000 v)) (fun x hx k hk => opt_bind0 hk) ?_ ?_⟩
  · rintro loc H ⟨hall, rfl, rfl⟩
    (refine wpSs_cons.mpr ?_; tm_at "wps")
    refine ⟨hq, hq, _, _, _, rfl, sm, rm _, .nil, comp_map (fun v => .bool (isMk v)) (fun x hx k hk => opt_bind0 hk) ?_ ?_⟩
    · intro x hx k hk'
      refine opt_bind0 ?_
      tm_at "wps"
      exact isMk_el (hm x hx) hk'
    · refine ⟨ms.map isMk, by rw [List.map_map]; rfl, ?_⟩
      rw [List.all_map]
      exact stripA_t hlen hall
  · intro x hx k hk'
    refine opt_bind0 ⟨Nat.sub_pos_of_lt hk, ?_⟩
    tm_at "wps"
    refine CallP.plain (.cons (rl0 _ x hx) (.cons (.int _) (.cons (.int _) .nil))) (hn x (hl x hx)) ?_
    rintro v Hc ⟨rfl, rfl⟩
    exact ⟨_, .bool _, .inr (.bool _), hk'⟩
  · refine ⟨ls.map (isNum 1 1000), by rw [List.map_map]; rfl, ?_⟩
    rw [List.all_map]
    show if (!ls.all (isNum 1 1000)) = true then _ else _
    cases e : ls.all (isNum 1 1000) with
    | false => exact stripA_f fun q => by rw [e] at q; exact Bool.noConfusion q.2
    | true =>
      exact ⟨_, _, .inr ⟨[], RenH.nil, .keep (.tup (.cons (.fl (rl _)) (.cons (.fl (rm _)) .nil))) (.keep (.fl (rl _)) (.keep (.fl (rm _)) .nil))⟩, rfl, rfl, rfl⟩
end

open PySem PyProof.Rows PySem.SeqAt

section
variable {P : PC} {l : Lv} {f fn fs fc fe : Nat} {ps rest : List Str} {X : Str → Prop}
theorem stripA_good {ns : List Int} {ms : List Str} (hS : StripIs 1000 ns ms) : stripA (ns.map AV.int) (ms.map AV.str) = true := by
  unfold stripA
  simp only [Bool.and_eq_true, decide_eq_true_eq, List.length_map, List.all_map, List.all_eq_true]
  refine ⟨⟨⟨⟨by have := hS.len; omega, hS.most⟩, hS.len.symm⟩, fun n hn => ?_⟩, fun m hm => ?_⟩
  · have := hS.nums n hn
    simp [isNum, this.1, this.2]
  · rcases hS.marks m hm with rfl | rfl <;> rfl
theorem isstrip_good (F : FnIs P f ps rest (cs_isstrip fn)) (hp : ps.length = 1) (hr : rest.length = 2) (hk : 1 < l.k) (hq : l.q = true) (hn : ∀ v, Pl v → CallJ P ⟨l.k - 1, l.q⟩ fn [v, .int 1, .int 1000] (fun r H => r = .bool (isNum 1 1000 v) ∧ H = []) X)
    {ns : List Int} {ms : List Str} (hS : StripIs 1000 ns ms) : CallJ P l f [.tup [.fl (ns.map AV.int), .fl (ms.map AV.str)]] (fun r _ => r = .bool true) X := by
  have h1 := hS.most
  have h2 := hS.len
  refine (isstrip_lists F hp hr hk hq (fun v hv => ?_) (fun v hv => ?_) (by rw [List.length_map]; exact Nat.le_trans h1 (by decide)) (by rw [List.length_map]; exact Nat.le_trans (Nat.le_of_succ_le (h2 ▸ h1)) (by decide)) (fun H v hv => ?_) (fun H v hv => ?_) hn).mono fun _ _ q => by rw [q, stripA_good hS]
  · obtain ⟨i, _, rfl⟩ := List.mem_map.mp hv; trivial
  · obtain ⟨i, hi, rfl⟩ := List.mem_map.mp hv; exact mk_ok (hS.marks i hi)
  · obtain ⟨i, _, rfl⟩ := List.mem_map.mp hv; exact .int i
  · obtain ⟨i, _, rfl⟩ := List.mem_map.mp hv; exact .str i
end

open PySem PyProof.Rows PySem.SeqAt

noncomputable def ev2 (a : AV) : CE := .slc (.var 1) (.const a) (.const .none) (.const (.int (2)))
noncomputable def cs_read (fl fm fs : Nat) : List CS := [
  .ite (.not (.isin .str (.var 0)))
    [      .raise ""]
    [],
  .assign 1 (.meth .split (.var 0) [(.const (.str " "))]),
  .assign 2 (.tup [(.comp (.call fl [(.var 0)]) [] [] 0 (ev2 .none)), (.comp (.call fm [(.var 0)]) [] [] 0 (ev2 (.int 1)))]),
  .ite (.not (.call fs [(.var 2)]))
    [      .raise ""]
    [],
  .ret (.var 2)]
theorem sl_two {o : AV} {vs : List AV} {H : AH} {Q : AV → AH → Prop} (e : o.items? H = some vs) (hl : vs.length ≤ smallN) (h0 : 0 < vs.length) (h : Q (.ref H.length) (H ++ [alt true vs])) : opSlc o .none .none (.int 2) H Q := by
  refine opSlc_l e ⟨vs, none, none, some 2, e, hl, rfl, rfl, rfl, fun q => (by cases q), ?_⟩
  have : slPick vs none none (some 2) = alt true vs := (slice2 vs h0).1
  rw [this]
  exact h
theorem sl_two1 {o : AV} {vs : List AV} {H : AH} {Q : AV → AH → Prop} (e : o.items? H = some vs) (hl : vs.length ≤ smallN) (h0 : 0 < vs.length) (h : Q (.ref H.length) (H ++ [alt false vs])) : opSlc o (.int 1) .none (.int 2) H Q := by
  refine opSlc_l e ⟨vs, some 1, none, some 2, e, hl, rfl, rfl, rfl, fun q => (by cases q), ?_⟩
  have : slPick vs (some 1) none (some 2) = alt false vs := by
    rw [← (slice2 vs h0).2]
    unfold slPick sliceBounds
    have e1 : max 0 (min (1 : Int) (vs.length : Int)) = 1 := by rw [Int.min_eq_left (show (1 : Int) ≤ (vs.length : Int) from Int.ofNat_le.mpr h0)]; rfl
    show (sliceRange (max 0 (min (1 : Int) (vs.length : Int))) _ _).filterMap _ = _
    rw [e1]
    rfl
  rw [this]
  exact h
theorem split_ok {t : Str} {H : AH} {Q : AV → AH → Prop} (ht : t.length ≤ 90000) (h : Q (.ref H.length) (H ++ [(Txt.split t sp).map AV.str])) : opMeth .split (.str t) [.str (" " : String)] H Q := by
  refine ⟨by decide +kernel, Nat.le_trans (Nat.succ_le_succ ht) (by decide), ?_, ?_⟩
  · rw [sp_is]; exact Nat.le_trans (split_le t).1 (Nat.le_trans (Nat.succ_le_succ ht) (by decide))
  · rw [sp_is]; exact h
theorem ws_ren {ws : List Str} : ∀ w ∈ ws.map AV.str, ∀ H, Ren [] H w w := fun w hw H => by obtain ⟨x, _, rfl⟩ := List.mem_map.mp hw; exact .str x
section
variable {P : PC} {l : Lv} {f fl fm fs : Nat} {ps rest : List Str} {X : Str → Prop} {c : Addr} {t : Str}
/-- the words of a text, in reach -/
noncomputable def rdL (t : Str) : Loc := [some (.str t), some (.ref 0), none]
noncomputable def rdH (t : Str) : AH := [(Txt.split t sp).map AV.str]
theorem ws_small (ht : t.length ≤ 90000) : (Txt.split t sp).length ≤ smallN := Nat.le_trans (split_le t).1 (Nat.le_trans (Nat.succ_le_succ ht) (by decide))
theorem alt_small {b : Bool} (ht : t.length ≤ 90000) : (alt b (Txt.split t sp)).length ≤ smallN := by
  have h := ws_small ht
  have h2 := alt_len (Txt.split t sp)
  cases b with
  | true => rw [h2.1]; exact Nat.div_le_of_le_mul (Nat.le_trans (Nat.succ_le_succ h) (by decide))
  | false => rw [h2.2]; exact Nat.le_trans (Nat.div_le_self _ _) h
theorem rd_pre {R : Loc → AH → Prop} (ht : t.length ≤ 90000) (h : R (rdL t) (rdH t)) : wpSs P l ((cs_read fl fm fs).take 2) [some (.str t), none, none] [] R (fun _ _ => False) (fun _ _ _ => False) := by
  show wpSs P _ [_, _] _ _ _ _ _
  (refine wpSs_cons.mpr ?_; tm_at "wps")
  refine ⟨fun loc H => loc = [some (.str t), none, none] ∧ H = [], ?_, Cut.here ⟨rfl, rfl⟩⟩
  rintro loc H ⟨rfl, rfl⟩
  (refine wpSs_cons.mpr ?_; tm_at "wps")
  exact split_ok ht h
theorem ev_none {r : Option AV} {H : AH} {K : AV → AH → Prop} {W : List Str} {i : Nat} (hi : H[i]? = some (W.map AV.str)) (h0 : 0 < W.length) (hl : W.length ≤ smallN) (h : K (.ref H.length) (H ++ [(alt true W).map AV.str])) : wpE P l X (ev2 .none) [r, some (.ref i), none] H K := by
  unfold ev2
  tm_at "wps"
  refine sl_two hi (by rw [List.length_map]; exact hl) (by rw [List.length_map]; exact h0) ?_
  rw [alt_map]
  exact h
theorem ev_one {r : Option AV} {H : AH} {K : AV → AH → Prop} {W : List Str} {i : Nat} (hi : H[i]? = some (W.map AV.str)) (h0 : 0 < W.length) (hl : W.length ≤ smallN) (h : K (.ref H.length) (H ++ [(alt false W).map AV.str])) : wpE P l X (ev2 (.int 1)) [r, some (.ref i), none] H K := by
  unfold ev2
  tm_at "wps"
  refine sl_two1 hi (by rw [List.length_map]; exact hl) (by rw [List.length_map]; exact h0) ?_
  rw [alt_map]
  exact h
/-- [G(w) for w in words] where all go well -/
theorem comp_ws {β : Type} (gv : Str → β) (cv : β → AV) {g : Nat} {it : CE} {loc : Loc} {H H1 : AH} {i : Nat} {K : AV → AH → Prop} {W : List Str} (hq : l.q = true) (hk : 0 < l.k) (hit : ∀ K : AV → AH → Prop, K (.ref i) H1 → wpE P l X it loc H K) (hi : H1[i]? = some (W.map AV.str)) (hl : W.length ≤ smallN)
    (hg : ∀ w ∈ W, CallJ P l g [.str w] (fun v H => v = cv (gv w) ∧ H = []) X) (hf : ∀ b, NoFl (cv b) ∧ ∀ H, Ren [] H (cv b) (cv b)) (h : K (.ref H1.length) (H1 ++ [(W.map gv).map cv])) : wpE P l X (.comp (.call g [.var 0]) [] [] 0 it) loc H K := by
  refine ⟨hq, hit _ ⟨_, _, _, hi, by rw [List.length_map]; exact hl, Rens.self fun w hw => ws_ren w hw _, .nil, ?_⟩⟩
  refine comp_map (fun v => match v with | .str w => cv (gv w) | v => v) (fun x hx k hk => opt_bind0 hk) (fun x hx k hk' => ?_) ?_
  · obtain ⟨w, hw, rfl⟩ := List.mem_map.mp hx
    refine opt_bind0 ⟨hk, ?_⟩
    tm_at "wps"
    refine CallP.plain (.cons (.str w) .nil) (hg w hw) ?_
    rintro v Hc ⟨rfl, rfl⟩
    rw [List.length_nil, shift0]
    exact ⟨_, (hf _).2 _, .inr (hf _).1, hk'⟩
  · rw [List.map_map]
    rw [List.map_map] at h
    exact h
end

open PySem PyProof.Rows PySem.SeqAt

/-- X = ([..], [..]) -/
noncomputable def ShAsg (nt : NT) (names : List Str) (g1 g2 : Nat) (i1 i2 c1 c2 : CE) (kd : Str → Option NameKind) (b : List PySem.Stmt) : Prop :=
  ∃ y yp e1 e2 k p ap n, b = .Assign [.Name y yp] (.Tuple [e1, e2] k p) ap :: b.drop 1 ∧ LcIs nt n kd names e1 g1 i1 ∧ LcIs nt n kd names e2 g2 i2 ∧ compE nt n kd names e1 = some c1 ∧ compE nt n kd names e2 = some c2
section
variable {P : PC} {l : Lv} {f fl fm fs : Nat} {ps rest : List Str} {X : Str → Prop} {c : Addr} {t : Str}
theorem int_pure (i : Int) : NoFl (AV.int i) ∧ ∀ H, Ren [] H (AV.int i) (AV.int i) := ⟨.int i, fun _ => .int i⟩
theorem str_pure (i : Str) : NoFl (AV.str i) ∧ ∀ H, Ren [] H (AV.str i) (AV.str i) := ⟨.str i, fun _ => .str i⟩
/-- the lists that are read -/
noncomputable def rdH1 (t : Str) : AH := rdH t ++ [(pE t).map AV.str] ++ [((pE t).map lenVal).map AV.int]
noncomputable def rdH2 (t : Str) : AH := rdH1 t ++ [(pO t).map AV.str] ++ [((pO t).map markOf).map AV.str]
theorem comp1_ok {K : AV → AH → Prop} (hq : l.q = true) (hk : 0 < l.k) (ht : t.length ≤ 90000) (hl : ∀ w ∈ pE t, CallJ P l fl [.str w] (fun v H => v = .int (lenVal w) ∧ H = []) X) (h : K (.ref 2) (rdH1 t)) : wpE P l X (.comp (.call fl [.var 0]) [] [] 0 (ev2 .none)) (rdL t) (rdH t) K :=
  comp_ws (i := 1) (H1 := rdH t ++ [(pE t).map AV.str]) lenVal AV.int hq hk (fun K h => ev_none (W := Txt.split t sp) rfl (pw_len t).1 (ws_small ht) h) rfl (alt_small ht) hl int_pure h
theorem comp2_ok {K : AV → AH → Prop} (hq : l.q = true) (hk : 0 < l.k) (ht : t.length ≤ 90000) (hl : ∀ w ∈ pO t, CallJ P l fm [.str w] (fun v H => v = .str (markOf w) ∧ H = []) X) (h : K (.ref 4) (rdH2 t)) : wpE P l X (.comp (.call fm [.var 0]) [] [] 0 (ev2 (.int 1))) (rdL t) (rdH1 t) K :=
  comp_ws (i := 3) (H1 := rdH1 t ++ [(pO t).map AV.str]) markOf AV.str hq hk (fun K h => ev_one (W := Txt.split t sp) rfl (pw_len t).1 (ws_small ht) h) rfl (alt_small ht) hl str_pure h
theorem rd_tup {K : AV → AH → Prop} (hq : l.q = true) (hk : 0 < l.k) (ht : t.length ≤ 90000) (hl : ∀ w ∈ pE t, CallJ P l fl [.str w] (fun v H => v = .int (lenVal w) ∧ H = []) X) (hm : ∀ w ∈ pO t, CallJ P l fm [.str w] (fun v H => v = .str (markOf w) ∧ H = []) X) (h : K (.tup [.ref 2, .ref 4]) (rdH2 t)) :
    wpE P l X (.tup [(.comp (.call fl [(.var 0)]) [] [] 0 (ev2 .none)), (.comp (.call fm [(.var 0)]) [] [] 0 (ev2 (.int 1)))]) (rdL t) (rdH t) K := by
  rw [w_tup, w_cons]
  refine comp1_ok hq hk ht hl ?_
  rw [w_cons]
  exact comp2_ok hq hk ht hm ⟨by decide, h⟩
theorem read_ok (F : FnIs P f ps rest (cs_read fl fm fs)) (hp : ps.length = 1) (hr : rest.length = 2) (hk : 1 < l.k) (hq : l.q = true) (ht : t.length ≤ 90000) (h : pOk t)
    (hl : ∀ w ∈ pE t, CallJ P ⟨l.k - 1, l.q⟩ fl [.str w] (fun v H => v = .int (lenVal w) ∧ H = []) fun _ => False) (hm : ∀ w ∈ pO t, CallJ P ⟨l.k - 1, l.q⟩ fm [.str w] (fun v H => v = .str (markOf w) ∧ H = []) fun _ => False)
    (hs : CallJ P ⟨l.k - 1, l.q⟩ fs [.tup [.fl (((pE t).map lenVal).map AV.int), .fl (((pO t).map markOf).map AV.str)]] (fun r _ => r = .bool true) fun _ => False) :
    CallJ P l f [.str t] (Gives ((pE t).map lenVal) ((pO t).map markOf)) X := by
  have hk' : 0 < l.k - 1 := Nat.sub_pos_of_lt hk
  refine CallJ.ren (F.call (Nat.lt_trans (by decide) hk) (by rw [hp]; rfl) ?_)
  rw [hr]
  unfold cs_read
  (refine wpSs_cons.mpr ?_; tm_at "wps")
  refine ⟨fun loc H => loc = [some (.str t), none, none] ∧ H = [], ?_, Cut.here ⟨rfl, rfl⟩⟩
  rintro loc H ⟨rfl, rfl⟩
  (refine wpSs_cons.mpr ?_; tm_at "wps")
  refine split_ok ht (wpSs_cons.mpr ?_)
  rw [q_assign]
  show wpE P _ _ _ (rdL t) (rdH t) _
  refine rd_tup (l := ⟨l.k - 1, l.q⟩) hq hk' ht (fun w hw => (hl w hw).mono fun _ _ q => q) (fun w hw => (hm w hw).mono fun _ _ q => q) ?_
  (refine wpSs_cons.mpr ?_; tm_at "wps")
  refine ⟨fun loc H => loc = [some (.str t), some (.ref 0), some (.tup [.ref 2, .ref 4])] ∧ H = rdH2 t, ?_, hk', CallP.frz (.cons (frz2 (i := 2) (j := 4) rfl rfl) .nil) ((CallJ.only hs).mono fun _ _ q => q) (fun v H h => nofl_only h) ?_⟩
  · rintro loc H ⟨rfl, rfl⟩
    exact ⟨[2, 4], [((pE t).map lenVal).map AV.int, ((pO t).map markOf).map AV.str], .tup [.ref 0, .ref 1], RenH.two rfl rfl (by decide) (Rens.ints _) (Rens.strs _), .tup (.cons (.ref rfl) (.cons (.ref rfl) .nil)), rfl, rfl⟩
  · rintro v Hc ⟨rfl, rfl⟩
    exact Cut.here ⟨rfl, List.append_nil _⟩
end

open PySem PyProof.Rows PySem.SeqAt
section
variable {K : FC} {base : Heap} {outer : List Env} {ρ : List Addr} {loc : Loc} {H : AH} {s : Shared} {c : Addr} {b : List PySem.Stmt} {nt : NT} {names : List Str} {g1 g2 : Nat} {i1 i2 c1 c2 : CE}
/-- words, some good ones ahead of a bad one -/
noncomputable def UptoW (P : PC) (l : Lv) (g : Nat) (c : Addr) (v : AV) (H : AH) : Prop := ∃ ws, iterOfC H v = some ws ∧ ws.length ≤ smallN ∧ (∀ w ∈ ws, ∀ H, Ren [] H w w) ∧ Upto P l g c ws
theorem ShAsg.rais1 (h : ShAsg nt names g1 g2 i1 i2 c1 c2 K.env.kindOf b) (hnt : K.P.nt = nt) (hn : K.names = names) (x : FX K base outer) (F : Fr K ρ loc H s) (hq : K.l.q = true) (hk : 0 < K.l.k) (hw : wpE K.P K.l (fun _ => False) i1 loc H (UptoW K.P K.l g1 c)) :
    wpAny (model K.P.prog K.P.w) K.A (execs b K.env) (fun _ _ => False) (XOut K base outer c) s := by
  subst hnt hn
  obtain ⟨_, _, _, _, _, _, _, _, e, h1, _, h3, _⟩ := h
  rw [e]
  exact rais_asg x rfl (tup_rais1 h3 (lc_rais x F hq hk h1 hw))
theorem ShAsg.rais2 {R : AH → Prop} (h : ShAsg nt names g1 g2 i1 i2 c1 c2 K.env.kindOf b) (hnt : K.P.nt = nt) (hn : K.names = names) (x : FX K base outer) (F : Fr K ρ loc H s) (hq : K.l.q = true) (hk : 0 < K.l.k) (hw1 : wpE K.P K.l (fun _ => False) c1 loc H fun _ H' => R H') (hw : ∀ H', R H' → wpE K.P K.l (fun _ => False) i2 loc H' (UptoW K.P K.l g2 c)) :
    wpAny (model K.P.prog K.P.w) K.A (execs b K.env) (fun _ _ => False) (XOut K base outer c) s := by
  subst hnt hn
  obtain ⟨_, _, _, _, _, _, _, _, e, _, h2, h3, h4⟩ := h
  rw [e]
  exact rais_asg x rfl (tup_rais2 F h3 h4 hw1 fun ρ' H' s' F' r => lc_rais x F' hq hk h2 (hw H' r))
end
/-- a word's contracts -/
structure WordC (P : PC) (l : Lv) (g : Nat) (c : Addr) (ok : Str → Bool) (val : Str → AV) : Prop where
  good : ∀ w, sOk w → ok w = true → CallJ P l g [.str w] (fun v H => v = val w ∧ H = []) fun _ => False
  bad : ∀ w, sOk w → w.length ≤ smallN → ok w = false → CallX P l g [.str w] c
  pure : ∀ w, NoFl (val w) ∧ ∀ H, Ren [] H (val w) (val w)
theorem WordC.upto {P : PC} {l : Lv} {g : Nat} {c : Addr} {ok : Str → Bool} {val : Str → AV} (C : WordC P l g c ok val) {W : List Str} {H : AH} {i : Nat} (hi : H[i]? = some (W.map AV.str)) (hl : W.length ≤ smallN) (hw : ∀ w ∈ W, sOk w ∧ w.length ≤ smallN) (hb : W.all ok = false) : UptoW P l g c (.ref i) H := by
  obtain ⟨pre, b, post, rfl, e1, e2⟩ := split_bad ok W hb
  refine ⟨_, hi, by rw [List.length_map]; exact hl, ws_ren, pre.map AV.str, .str b, post.map AV.str, by rw [List.map_append, List.map_cons], fun w hm => ?_, ?_⟩
  · obtain ⟨x, hx, rfl⟩ := List.mem_map.mp hm
    exact (C.good x (hw x (List.mem_append_left _ hx)).1 (e2 x hx)).mono fun v _ q => by rw [q.1]; exact C.pure x
  · have := hw b (List.mem_append_right _ (.head _))
    exact C.bad b this.1 this.2 e1
section
variable {P : PC} {l : Lv} {f fl fm fs : Nat} {ps rest : List Str} {X : Str → Prop} {c : Addr} {t : Str}
theorem w_ok (ht : t.length ≤ 90000) (hs : sOk t) {b : Bool} : ∀ w ∈ alt b (Txt.split t sp), sOk w ∧ w.length ≤ smallN := fun w hw =>
  have hm := alt_mem _ b hw
  ⟨ok_word hs hm, Nat.le_trans ((split_le t).2 w hm) (Nat.le_trans ht (by decide))⟩
theorem stripA_of {t : Str} (h1 : ∀ w ∈ pE t, lenOk w = true) (h2 : ∀ w ∈ pO t, isLet w = true) (h : ¬ pOk t) : stripA (((pE t).map lenVal).map AV.int) (((pO t).map markOf).map AV.str) = false := by
  rw [Bool.eq_false_iff]
  intro q
  unfold stripA at q
  simp only [Bool.and_eq_true, decide_eq_true_eq, List.length_map, List.all_map, List.all_eq_true] at q
  obtain ⟨⟨⟨⟨_, q1⟩, q2⟩, q3⟩, _⟩ := q
  refine h ⟨fun w hw => ?_, h2, ?_, q1⟩
  · have := q3 w hw
    unfold eOk
    rw [h1 w hw, Bool.true_and]
    simp only [Function.comp, isNum, Bool.and_eq_true] at this
    exact this.2
  · rw [(pw_len t).2.1, (pw_len t).2.2] at q2
    exact (odd_iff _).mp q2
noncomputable abbrev rdC1 (fl : Nat) : CE := .comp (.call fl [(.var 0)]) [] [] 0 (ev2 .none)
noncomputable abbrev rdC2 (fm : Nat) : CE := .comp (.call fm [(.var 0)]) [] [] 0 (ev2 (.int 1))
theorem all_false {p : Str → Bool} {l : List Str} (h : ¬ ∀ w ∈ l, p w = true) : l.all p = false := by
  rw [Bool.eq_false_iff]
  exact fun q => h (List.all_eq_true.mp q)
theorem read_bad (F2 : PreIs P f ps rest 2 ((cs_read fl fm fs).take 2) (ShAsg P.nt (ps ++ rest) fl fm (ev2 .none) (ev2 (.int 1)) (rdC1 fl) (rdC2 fm))) (F3 : PreIs P f ps rest 3 ((cs_read fl fm fs).take 3) (ShIf P.nt (ps ++ rest) "BadText" (.not (.call fs [.var 2]))))
    (hp : ps.length = 1) (hr : rest.length = 2) (hk : 1 < l.k) (hq : l.q = true) (ho : P.own "BadText" c = some true) (hm : P.mg "BadText" = some (.ref c)) (ht : t.length ≤ 90000) (hs : sOk t) (h : ¬ pOk t)
    (C1 : WordC P ⟨l.k - 1, l.q⟩ fl c lenOk fun w => .int (lenVal w)) (C2 : WordC P ⟨l.k - 1, l.q⟩ fm c isLet fun w => .str (markOf w))
    (hst : ∀ (ns : List Int) (ms : List Str), ns.length ≤ smallN → ms.length ≤ smallN → (∀ m ∈ ms, Mk m) → CallJ P ⟨l.k - 1, l.q⟩ fs [.tup [.fl (ns.map AV.int), .fl (ms.map AV.str)]] (fun r _ => r = .bool (stripA (ns.map AV.int) (ms.map AV.str))) fun _ => False) : CallX P l f [.str t] c := by
  have hk' : 0 < l.k - 1 := Nat.sub_pos_of_lt hk
  have hk0 := Nat.lt_trans (by decide : 0 < 1) hk
  have hl1 : [AV.str t].length = ps.length := by rw [hp]; rfl
  by_cases h1 : ∀ w ∈ pE t, lenOk w = true
  · have g1 : ∀ w ∈ pE t, CallJ P ⟨l.k - 1, l.q⟩ fl [.str w] (fun v H => v = .int (lenVal w) ∧ H = []) fun _ => False := fun w hw => C1.good w (w_ok ht hs w hw).1 (h1 w hw)
    by_cases h2 : ∀ w ∈ pO t, isLet w = true
    · have g2 : ∀ w ∈ pO t, CallJ P ⟨l.k - 1, l.q⟩ fm [.str w] (fun v H => v = .str (markOf w) ∧ H = []) fun _ => False := fun w hw => C2.good w (w_ok ht hs w hw).1 (h2 w hw)
      have fin : CallJ P ⟨l.k - 1, l.q⟩ fs [.tup [.fl (((pE t).map lenVal).map AV.int), .fl (((pO t).map markOf).map AV.str)]] (fun r _ => r = .bool false) fun _ => False :=
        (hst ((pE t).map lenVal) ((pO t).map markOf) (by rw [List.length_map]; exact alt_small ht) (by rw [List.length_map]; exact alt_small ht) (fun m hm => by obtain ⟨w, _, rfl⟩ := List.mem_map.mp hm; exact markOf_mk w)).mono fun r _ q => q.trans (by rw [stripA_of h1 h2 h])
      refine F3.call (R := fun loc H => loc = [some (.str t), some (.ref 0), some (.tup [.ref 2, .ref 4])] ∧ H = rdH2 t) hk0 hl1 ?_ ?_
      · rw [hr]
        show wpSs P _ [_, _, _] _ _ _ _ _
        (refine wpSs_cons.mpr ?_; tm_at "wps")
        refine ⟨fun loc H => loc = [some (.str t), none, none] ∧ H = [], ?_, Cut.here ⟨rfl, rfl⟩⟩
        rintro loc H ⟨rfl, rfl⟩
        (refine wpSs_cons.mpr ?_; tm_at "wps")
        refine split_ok ht (wpSs_cons.mpr ?_)
        rw [q_assign]
        show wpE P _ _ _ (rdL t) (rdH t) _
        exact rd_tup (l := ⟨l.k - 1, l.q⟩) hq hk' ht g1 g2 ⟨rfl, rfl⟩
      · rintro K base outer ρ loc H s b a1 a2 a3 sh x F' ⟨rfl, rfl⟩
        subst a1
        refine sh.rais rfl a3 x F' (by rw [a2]; exact hq) ho hm ?_
        rw [a2]
        tm_at "wps"
        refine ⟨hk', CallP.frz (.cons (frz2 (i := 2) (j := 4) rfl rfl) .nil) (CallJ.only fin) (fun v H h => nofl_only h) ?_⟩
        rintro v Hc ⟨rfl, rfl⟩
        rfl
    · refine F2.call (R := fun loc H => loc = rdL t ∧ H = rdH t) hk0 hl1 (by rw [hr]; exact rd_pre ht ⟨rfl, rfl⟩) ?_
      rintro K base outer ρ loc H s b a1 a2 a3 sh x F' ⟨rfl, rfl⟩
      subst a1
      refine sh.rais2 (R := fun H => H = rdH1 t) rfl a3 x F' (by rw [a2]; exact hq) (by rw [a2]; exact hk') ?_ ?_
      · rw [a2]; exact comp1_ok hq hk' ht g1 rfl
      · rintro H' rfl
        rw [a2]
        exact ev_one (W := Txt.split t sp) rfl (pw_len t).1 (ws_small ht) (C2.upto (W := pO t) (i := 3) rfl (alt_small ht) (w_ok ht hs) (all_false h2))
  · refine F2.call (R := fun loc H => loc = rdL t ∧ H = rdH t) hk0 hl1 (by rw [hr]; exact rd_pre ht ⟨rfl, rfl⟩) ?_
    rintro K base outer ρ loc H s b a1 a2 a3 sh x F' ⟨rfl, rfl⟩
    subst a1
    refine sh.rais1 rfl a3 x F' (by rw [a2]; exact hq) (by rw [a2]; exact hk') ?_
    rw [a2]
    exact ev_none (W := Txt.split t sp) rfl (pw_len t).1 (ws_small ht) (C1.upto (W := pE t) (i := 1) rfl (alt_small ht) (w_ok ht hs) (all_false h1))
theorem read_thing (F0 : PreIs P f ps rest 0 [] (ShIf P.nt (ps ++ rest) "BadText" (.not (.isin .str (.var 0))))) (hp : ps.length = 1) (hr : rest.length = 2) (hk : 0 < l.k) (hq : l.q = true) (ho : P.own "BadText" c = some true) (hm : P.mg "BadText" = some (.ref c)) {v : AV} (h1 : v.offX = true) (h2 : isInst .str v = false) : CallX P l f [v] c := by
  refine F0.call (R := fun loc H => loc = [some v, none, none]) hk (by rw [hp]; rfl) ?_ ?_
  · rw [hr]; rfl
  · rintro K base outer ρ loc H s b a1 a2 a3 sh x F' rfl
    subst a1
    refine sh.rais rfl a3 x F' (by rw [a2]; exact hq) ho hm ?_
    show offRng v _
    refine offRng_to h1 ?_
    rw [h2]
    rfl
end

open PySem PyProof.Rows PySem.SeqAt

noncomputable def cs_right (fr fi : Nat) : List CS := [
  .try
    [      .assign 2 (.call fr [(.var 0)])]
    "" 0
    [],
  .ite (.or (.cmp .Is (.var 1) (.const .none)) (.not (.call fi [(.var 2), (.var 1)])))
    [      .ret (.const (.bool false))]
    [],
  .mut .append (.idx (.var 2) (.const (.int (0)))) [(.const (.int (0)))],
  .mut .append (.idx (.var 2) (.const (.int (1)))) [(.const (.str ""))],
  .ret (.call fi [(.call fr [(.var 0)]), (.var 1)])]
/-- try: X = G(V) except FoldError as E: return .. -/
noncomputable def Try2Is (P : PC) (f : Nat) (ps rest : List Str) (fr i : Nat) (cre : CE) : Prop :=
  ∃ x d n nm dn re y g yp a0 gp cp ap zp rp hp tp, P.nt.fns[f]? = some x ∧ P.defs[f]? = some d ∧ defOk d.scope ps rest = true ∧ d.body = .Try [.Assign [.Name y yp] (.Call (.Name g gp) [a0] [] cp) ap] [.ExceptHandler (some (.Name "FoldError" zp)) (some nm) [.Return (some re) rp] hp] [] [] tp :: d.body.drop 1 ∧ isGlob (kdOf d) ("FoldError" : Str) = true ∧ kdOf d nm = some .local ∧ kdOf d dn = some .local ∧ dn ≠ nm ∧ (ps ++ rest)[i]? = some dn ∧
    compE P.nt n (kdOf d) [nm, dn] re = some cre ∧ allSome ([a0].map (compE P.nt n (kdOf d) (ps ++ rest))) = some [.var 0] ∧ isGlob (kdOf d) g = true ∧ P.nt.fns[fr]? = some g ∧
    ∀ xs pm code doc, xs.length = ps.length → bindArgs (Calls.docDef d.name d.params d.body d.scope pm code doc) ⟨xs, []⟩ = pure (ps.zip xs)
theorem Try2Is.call {P : PC} {l : Lv} {f : Nat} {ps rest : List Str} {fr i : Nat} {cre : CE} {vs : List AV} {K : Addr} {b : Bool} (F : Try2Is P f ps rest fr i cre) (hk : 0 < l.k) (hl : vs.length = ps.length) (hz : P.mg "FoldError" = some (.ref P.sup)) (ho : P.own "BadText" K = some true)
    (hvi : (vs.map some ++ List.replicate rest.length none)[i]?.join = some AV.none) {v : AV} (hv0 : (vs.map some ++ List.replicate rest.length none)[0]?.join = some v) (hv : ∀ H, Ren [] H v v) (hX : CallX P ⟨l.k - 1, l.q⟩ fr [v] K)
    (hwr : wpE P ⟨l.k - 1, false⟩ (fun _ => False) cre [some (.exc K), some .none] [] fun v _ => v = .bool b) : CallS P l f vs b := by
  obtain ⟨_, _, _, _, _, _, _, _, _, _, _, _, _, _, _, _, _, h1, h2, h3, h4, h5, h6, h7, h8, h9, h10, h11, h12, h13, h14⟩ := F
  refine CallS.of_try2 h1 h2 hk h14 h3 hl h4 h5 hz h6 ho h7 h8 h9 hvi (RaisesX.asg h12 h13 h11 ?_) h10 hwr
  rw [w_cons, w_var, hv0]
  exact ⟨[v], .cons (hv _) .nil, hX⟩
noncomputable def soleT (fo : Nat) : CE := .and (.cmp .Is (.var 1) (.const .none)) (.call fo [(.var 0), (.const (.str "text"))])
section
variable {P : PC} {l : Lv} {f fr fi fo : Nat} {ps rest : List Str} {X : Str → Prop} {c : Addr} {t : Str}
theorem right_ok (F : FnIs P f ps rest (cs_right fr fi)) (hp : ps.length = 2) (hr : rest.length = 2) (hk : 1 < l.k) {ns : List Int} {ms : List Str} (hS : StripIs 1000 ns ms)
    (hg : CallJ P ⟨l.k - 1, l.q⟩ fr [.str t] (Gives ns ms) fun _ => False) (hi : CallJ P ⟨l.k - 1, l.q⟩ fi [.tup [.fl (ns.map AV.int), .fl (ms.map AV.str)], .tup [.fl (ns.map AV.int), .fl (ms.map AV.str)]] (fun v _ => v = .bool true) fun _ => False) :
    CallJ P l f [.str t, .tup [.fl (ns.map AV.int), .fl (ms.map AV.str)]] (fun v _ => v = .bool true) X := by
  have hk' : 0 < l.k - 1 := Nat.sub_pos_of_lt hk
  have hn := hS.most
  have hm : ms.length ≤ 30 := Nat.le_of_succ_le (Nat.le_trans (Nat.le_of_eq hS.len.symm) hn)
  refine F.call (Nat.lt_trans (by decide) hk) (by rw [hp]; rfl) ?_
  rw [hr]
  unfold cs_right
  (refine wpSs_cons.mpr ?_; tm_at "wps")
  (refine wpSs_cons.mpr ?_; tm_at "wps")
  refine ⟨hk', CallP.plain (.cons (.str t) .nil) (hg.mono fun _ _ q => q) ?_⟩
  rintro v Hc ⟨rfl, rfl⟩
  show wpSs P _ _ [some (.str t), some (.tup [.fl (ns.map AV.int), .fl (ms.map AV.str)]), some (.tup [.ref 0, .ref 1]), none] [_, _] _ _ _
  simp only [AV.shifts_eq, AV.shift_ints, AV.shift_strs]
  (refine wpSs_cons.mpr ?_; tm_at "wps")
  refine ⟨fun loc H => loc = [some (.str t), some (.tup [.fl (ns.map AV.int), .fl (ms.map AV.str)]), some (.tup [.ref 0, .ref 1]), none] ∧ H = [ns.map AV.int, ms.map AV.str], ?_, hk', CallP.frz (.cons (frz2 rfl rfl) (.cons rens2 .nil)) ((CallJ.only hi).mono fun _ _ q => q) (fun v H h => nofl_only h) ?_⟩
  · rintro loc H ⟨rfl, rfl⟩
    (refine wpSs_cons.mpr ?_; tm_at "wps")
    refine ⟨_, _, _, rfl, rfl, m_app (by rw [List.length_map]; exact Nat.lt_of_le_of_lt hn (by decide)), (fun _ _ e => nomatch e), ?_⟩
    (refine wpSs_cons.mpr ?_; tm_at "wps")
    refine ⟨_, _, _, rfl, rfl, m_app (by rw [List.length_map]; exact Nat.lt_of_le_of_lt hm (by decide)), (fun _ _ e => nomatch e), ?_⟩
    (refine wpSs_cons.mpr ?_; tm_at "wps")
    refine ⟨hk', hk', CallP.plain (.cons (.str t) .nil) (hg.mono fun _ _ q => q) ?_⟩
    rintro v Hc ⟨rfl, rfl⟩
    rw [List.map_cons, List.map_cons, List.map_nil, AV.shifts_eq, AV.shifts_eq, AV.shift_ints, AV.shift_strs]
    refine CallP.frz (.cons (frz2 (i := 2) (j := 3) rfl rfl) (.cons rens2 .nil)) ((CallJ.only hi).mono fun _ _ q => q) (fun v H h => nofl_only h) ?_
    rintro v Hc ⟨rfl, rfl⟩
    rfl
  · rintro v Hc ⟨rfl, rfl⟩
    exact Cut.here ⟨rfl, rfl⟩
theorem right_bad (F : Try2Is P f ps rest fr 1 (soleT fo)) (hp : ps.length = 2) (hk : 1 < l.k) (hz : P.mg "FoldError" = some (.ref P.sup)) (ho : P.own "BadText" c = some true) {v : AV} (hv : ∀ H, Ren [] H v v) (hX : CallX P ⟨l.k - 1, l.q⟩ fr [v] c)
    (hs : CallJ P ⟨l.k - 1, false⟩ fo [.exc c, .str "text"] (fun v _ => v = .bool true) fun _ => False) : CallS P l f [v, .none] true := by
  refine F.call (Nat.lt_trans (by decide) hk) (by rw [hp]; rfl) hz ho rfl rfl hv hX ?_
  unfold soleT
  tm_at "wps"
  refine ⟨Nat.sub_pos_of_lt hk, CallP.plain (.cons (.exc c) (.cons (.str _) .nil)) (CallJ.only hs) ?_⟩
  rintro v Hc ⟨rfl, rfl⟩
  rfl
end

open PySem PyProof.Rows PySem.SeqAt

noncomputable def cs_written (fl : Nat) : List CS := [
  .assign 1 (.lst [(.prim .str [(.idx (.idx (.var 0) (.const (.int (0)))) (.const (.int (0))))])]),
  .forT [2, 3] .zip [(.slc (.idx (.var 0) (.const (.int (0)))) (.const (.int (1))) (.const .none) (.const .none)), (.idx (.var 0) (.const (.int (1))))]
    [      .mut .append (.var 1) [(.call fl [(.var 3)])],
      .mut .append (.var 1) [(.prim .str [(.var 2)])]],
  .ret (.meth .join (.const (.str " ")) [(.var 1)])]
noncomputable def cs_text : List CS := [
  .assign 1 (.lst [(.prim .str [(.idx (.idx (.var 0) (.const (.int (0)))) (.const (.int (0))))])]),
  .for1 2 (.prim .range [(.prim .len [(.idx (.var 0) (.const (.int (1))))])])
    [      .mut .append (.var 1) [(.idx (.dct ["valley", "hill"] [(.const (.str "v")), (.const (.str "h"))]) (.idx (.idx (.var 0) (.const (.int (1)))) (.var 2)))],
      .mut .append (.var 1) [(.prim .str [(.idx (.idx (.var 0) (.const (.int (0)))) (.bin .Add (.var 2) (.const (.int (1)))))])]],
  .ret (.meth .join (.const (.str " ")) [(.var 1)])]
/-- a strip as its first length and pairs -/
noncomputable def nsOf (n : Int) (ps : List (Int × Str)) : List Int := n :: ps.map (·.1)
noncomputable def msOf (ps : List (Int × Str)) : List Str := ps.map (·.2)
theorem strip_ps {ns : List Int} {ms : List Str} (h : StripIs 1000 ns ms) : ∃ n ps, NumsOk n ps ∧ ns = nsOf n ps ∧ ms = msOf ps := by
  obtain ⟨h1, h2, h3, h4⟩ := h
  cases ns with
  | nil => cases h1
  | cons n r =>
    have hl : r.length = ms.length := Nat.succ.inj h1
    have e1 : (r.zip ms).map (·.1) = r := List.map_fst_zip (Nat.le_of_eq hl)
    have e2 : (r.zip ms).map (·.2) = ms := List.map_snd_zip (Nat.le_of_eq hl.symm)
    refine ⟨n, r.zip ms, ⟨h3 n (.head _), fun p hp => h3 _ (.tail _ (List.of_mem_zip hp).1), fun p hp => h4 _ (List.of_mem_zip hp).2, ?_⟩, by unfold nsOf; rw [e1], e2.symm⟩
    rw [List.length_zip, hl, Nat.min_self, ← hl]
    exact Nat.le_of_succ_le_succ h2
noncomputable abbrev stv (n : Int) (ps : List (Int × Str)) : AV := .tup [.fl ((nsOf n ps).map AV.int), .fl ((msOf ps).map AV.str)]
/-- the words so far -/
noncomputable def wdk (n : Int) (ps : List (Int × Str)) (k : Nat) : List AV := (wds n (ps.take k)).map AV.str
theorem wdk_succ {n : Int} {ps : List (Int × Str)} {k : Nat} {p : Int × Str} (h : ps[k]? = some p) : wdk n ps (k + 1) = wdk n ps k ++ [.str (letr p.2)] ++ [.str (numStr p.1)] := by
  unfold wdk wds
  rw [List.take_add_one, h]
  show List.map AV.str (numStr n :: (ps.take k ++ [p]).flatMap _) = _
  rw [List.flatMap_append, List.map_cons, List.map_append, List.map_cons, List.append_assoc]
  rfl
theorem wdk_len {n : Int} {ps : List (Int × Str)} {k : Nat} (h : NumsOk n ps) : (wdk n ps k).length ≤ 59 := by
  unfold wdk wds
  rw [List.length_map, List.length_cons, flat_len]
  exact Nat.succ_le_succ (Nat.mul_le_mul_left 2 (Nat.le_trans (List.length_take_le' _ _) h.2.2.2))
theorem wdk_all {n : Int} {ps : List (Int × Str)} : wdk n ps ps.length = (wds n ps).map AV.str := by unfold wdk; rw [List.take_length]
theorem join_ok {n : Int} {ps : List (Int × Str)} {H : AH} {Q : AV → AH → Prop} (h : NumsOk n ps) (hi : H[0]? = some (wdk n ps ps.length)) (hq : Q (.str (Str.join sp (wds n ps))) H) : opMeth .join (.str (" " : String)) [.ref 0] H Q := by
  refine ⟨wds n ps, by rw [← wdk_all]; exact hi, ?_, ?_⟩
  · rw [sp_is]; exact joinOk (wds_small h).1 (Nat.le_trans (Nat.mul_le_mul_right 5 (wds_small h).2.1) (by decide))
  · rw [sp_is]; exact hq
theorem num_fit {n : Int} (h : 1 ≤ n ∧ n ≤ 1000) : n.natAbs.log2 < 1920 := by
  have h1 : n.natAbs ≤ 1000 := by omega
  have h2 : n.natAbs.log2 ≤ n.natAbs := Nat.log2_le_self _
  omega
theorem CallJ.str {P : PC} {l : Lv} {f : Nat} {vs : List AV} {x : Str} {X : Str → Prop} (h : CallJ P l f vs (fun v _ => v = .str x) X) : CallJ P l f vs (fun v H => v = .str x ∧ H = []) X :=
  CallJ.ren (h.mono fun v H e => ⟨[], [], .str x, RenH.nil, by subst e; exact .str x, rfl, rfl⟩)
theorem zip_two (ps : List (Int × Str)) : (((ps.map (·.1)).map AV.int).zip ((ps.map (·.2)).map AV.str)).map (fun p => [p.1, p.2]) = ps.map fun p => [AV.int p.1, AV.str p.2] := by
  induction ps with
  | nil => rfl
  | cons p ps ih => rw [List.map_cons, List.map_cons, List.map_cons, List.map_cons, List.zip_cons_cons, List.map_cons, ih, List.map_cons]
section
variable {P : PC} {l : Lv} {f fl : Nat} {ps rest : List Str} {X : Str → Prop} {n : Int} {qs : List (Int × Str)}
theorem written_ok (F : FnIs P f ps rest (cs_written fl)) (hp : ps.length = 1) (hr : rest.length = 3) (hk : 1 < l.k) (hq : l.q = true) (h : NumsOk n qs) (hl : ∀ m, Mk m → CallJ P ⟨l.k - 1, l.q⟩ fl [.str m] (fun v H => v = .str (letr m) ∧ H = []) fun _ => False) :
    CallJ P l f [stv n qs] (fun v H => v = .str (Str.join sp (wds n qs)) ∧ H = []) X := by
  have hk' : 0 < l.k - 1 := Nat.sub_pos_of_lt hk
  have hN : (nsOf n qs).length ≤ 30 := by unfold nsOf; rw [List.length_cons, List.length_map]; exact Nat.succ_le_succ h.2.2.2
  refine CallJ.str (F.call (Nat.lt_trans (by decide) hk) (by rw [hp]; rfl) ?_)
  rw [hr]
  unfold cs_written
  (refine wpSs_cons.mpr ?_; tm_at "wps")
  refine ⟨hq, i_at (vs := (nsOf n qs).map AV.int) (w := .int n) rfl (by rw [List.length_map]; exact Nat.le_trans hN (by decide)) (Int.le_refl 0) (by unfold nsOf; exact Int.ofNat_lt.mpr (Nat.succ_pos _)) rfl ⟨num_fit h.1, by decide, ?_⟩⟩
  (refine wpSs_cons.mpr ?_; tm_at "wps")
  refine ⟨hq, sl_from rfl (by rw [List.length_map]; exact Nat.le_trans hN (by decide)) (by decide) ⟨qs.length, fun k vs loc H => vs = [.ref 1, .fl ((msOf qs).map AV.str)] ∧ ∃ o2 o3, loc = [some (stv n qs), some (.ref 0), o2, o3] ∧ H = [wdk n qs k, (qs.map (·.1)).map AV.int], ?_, ?_, Nat.le_trans h.2.2.2 (by decide), ?_, ?_⟩⟩
  · exact ⟨_, _, _, .inl ⟨rfl, rfl⟩, rfl, rfl, rfl, none, none, rfl, rfl⟩
  · rintro k vs loc H _ ⟨rfl, o2, o3, rfl, rfl⟩
    refine ⟨_, rfl, ?_⟩
    unfold msOf
    show (List.map (fun p : AV × AV => [p.1, p.2]) (((qs.map (·.1)).map AV.int).zip ((qs.map (·.2)).map AV.str))).length = _
    rw [zip_two, List.length_map]
  · rintro k vs loc H its us hkn _ ⟨rfl, o2, o3, rfl, rfl⟩ ei eu
    obtain ⟨p, hp'⟩ : ∃ p, qs[k]? = some p := ⟨_, List.getElem?_eq_getElem hkn⟩
    have e : us = [.int p.1, .str p.2] := by
      have ei' : some (((((qs.map (·.1)).map AV.int).zip ((qs.map (·.2)).map AV.str))).map fun p => [p.1, p.2]) = some its := ei
      rw [zip_two] at ei'
      rw [← Option.some.inj ei', List.getElem?_map, hp'] at eu
      exact (Option.some.inj eu).symm
    subst e
    have hmem := List.mem_of_getElem? hp'
    have hw : (wdk n qs k).length < smallN := Nat.lt_of_le_of_lt (wdk_len h) (by decide)
    refine ⟨rfl, ?_⟩
    show wpSs P _ _ [some (stv n qs), some (.ref 0), some (.int p.1), some (.str p.2), some (.ref 1), some (.fl _)] [wdk n qs k, (qs.map (·.1)).map AV.int] _ _ _
    (refine wpSs_cons.mpr ?_; tm_at "wps")
    refine ⟨hk', CallP.plain (.cons (.str _) .nil) ((hl p.2 (h.2.2.1 p hmem)).mono fun _ _ q => q) ?_⟩
    rintro v Hc ⟨rfl, rfl⟩
    refine ⟨_, _, _, rfl, rfl, m_app hw, (fun _ _ e => nomatch e), ?_⟩
    (refine wpSs_cons.mpr ?_; tm_at "wps")
    refine ⟨hq, num_fit (h.2.1 p hmem), _, _, _, rfl, rfl, m_app (by rw [List.length_append]; exact Nat.lt_of_le_of_lt (Nat.add_le_add_right (wdk_len h) 1) (by decide)), (fun _ _ e => nomatch e), ?_⟩
    refine wpSs_nil.mpr ⟨[.ref 1, .fl ((msOf qs).map AV.str)], _, _, .inl ⟨rfl, rfl⟩, rfl, rfl, rfl, _, _, rfl, ?_⟩
    rw [wdk_succ hp']
    rfl
  · rintro vs loc H ⟨rfl, o2, o3, rfl, rfl⟩
    (refine wpSs_cons.mpr ?_; tm_at "wps")
    exact join_ok h rfl rfl
theorem letr_dict {m : Str} (h : Mk m) : ((["valley", "hill"] : List Str).zip [AV.str "v", AV.str "h"]).lookup m = some (.str (letr m)) := by
  rcases h with rfl | rfl <;> kernel_rfl
theorem text_ok (F : FnIs P f ps rest cs_text) (hp : ps.length = 1) (hr : rest.length = 2) (hk : 0 < l.k) (hq : l.q = true) (h : NumsOk n qs) : CallJ P l f [stv n qs] (fun v H => v = .str (Str.join sp (wds n qs)) ∧ H = []) X := by
  have hN : (nsOf n qs).length ≤ 30 := by unfold nsOf; rw [List.length_cons, List.length_map]; exact Nat.succ_le_succ h.2.2.2
  have hM : (msOf qs).length = qs.length := by unfold msOf; rw [List.length_map]
  have hs : (nsOf n qs).length ≤ smallN := Nat.le_trans hN (by decide)
  have ht : (msOf qs).length ≤ smallN := by rw [hM]; exact Nat.le_trans h.2.2.2 (by decide)
  refine CallJ.str (F.call hk (by rw [hp]; rfl) ?_)
  rw [hr]
  unfold cs_text
  (refine wpSs_cons.mpr ?_; tm_at "wps")
  refine ⟨hq, i_at (vs := (nsOf n qs).map AV.int) (w := .int n) rfl (by rw [List.length_map]; exact hs) (Int.le_refl 0) (by unfold nsOf; exact Int.ofNat_lt.mpr (Nat.succ_pos _)) rfl ⟨num_fit h.1, by decide, ?_⟩⟩
  (refine wpSs_cons.mpr ?_; tm_at "wps")
  have hrng : rngOk 0 (((msOf qs).map AV.str).length : Int) 1 := by
    rw [List.length_map, hM]
    have := h.2.2.2
    exact ⟨⟨by decide, by decide⟩, ⟨by omega, by omega⟩, by decide, by decide⟩
  refine ⟨hq, hq, hq, by rw [List.length_map]; exact ht, hrng, qs.length, .rng 0 (((msOf qs).map AV.str).length : Int) 1, fun k v loc H => v = .rng 0 (((msOf qs).map AV.str).length : Int) 1 ∧ ∃ o2, loc = [some (stv n qs), some (.ref 0), o2] ∧ H = [wdk n qs k], ?_, ?_, Nat.le_trans h.2.2.2 (by decide), ?_, ?_⟩
  · exact ⟨_, _, _, .inl ⟨rfl, rfl⟩, rfl, rfl, none, rfl, rfl⟩
  · rintro k v loc H _ ⟨rfl, o2, rfl, rfl⟩
    refine ⟨rfl, _, rfl, ?_⟩
    rw [List.length_map, rngList1_len, List.length_map, hM, Int.sub_zero, Int.toNat_natCast]
  · rintro k v loc H its u hkn _ ⟨rfl, o2, rfl, rfl⟩ ei eu
    cases ei
    obtain ⟨rfl, _⟩ := rngList1_get eu
    obtain ⟨p, hp'⟩ : ∃ p, qs[k]? = some p := ⟨_, List.getElem?_eq_getElem hkn⟩
    have hmem := List.mem_of_getElem? hp'
    have hw : (wdk n qs k).length < smallN := Nat.lt_of_le_of_lt (wdk_len h) (by decide)
    have ek : (0 : Int) + (k : Int) = k := Int.zero_add _
    rw [ek]
    show wpSs P _ _ [some (stv n qs), some (.ref 0), some (.int k), some (.rng 0 _ 1)] [wdk n qs k] _ _ _
    (refine wpSs_cons.mpr ?_; tm_at "wps")
    refine i_at (vs := (msOf qs).map AV.str) (w := .str p.2) rfl (by rw [List.length_map]; exact ht) (Int.natCast_nonneg k) (by rw [List.length_map, hM]; exact Int.ofNat_lt.mpr hkn) (by rw [Int.toNat_natCast]; unfold msOf; rw [List.map_map, List.getElem?_map, hp']; rfl) ?_
    refine ⟨_, _, _, rfl, letr_dict (h.2.2.1 p hmem), _, _, _, rfl, rfl, m_app hw, (fun _ _ e => nomatch e), ?_⟩
    (refine wpSs_cons.mpr ?_; tm_at "wps")
    refine ⟨hq, i_at (vs := (nsOf n qs).map AV.int) (w := .int p.1) rfl (by rw [List.length_map]; exact hs) (Int.le_trans (Int.natCast_nonneg k) (Int.le_add_one (Int.le_refl _))) ?_ ?_ ⟨num_fit (h.2.1 p hmem), _, _, _, rfl, rfl, m_app (by rw [List.length_append]; exact Nat.lt_of_le_of_lt (Nat.add_le_add_right (wdk_len h) 1) (by decide)), (fun _ _ e => nomatch e), ?_⟩⟩
    · unfold nsOf
      rw [List.length_map, List.length_cons, List.length_map]
      exact Int.add_lt_add_right (Int.ofNat_lt.mpr hkn) 1
    · rw [show ((k : Int) + 1).toNat = k + 1 from rfl]
      unfold nsOf
      rw [List.map_cons, List.getElem?_cons_succ, List.map_map, List.getElem?_map, hp']
      rfl
    · refine wpSs_nil.mpr ⟨.rng 0 (((msOf qs).map AV.str).length : Int) 1, _, _, .inl ⟨rfl, rfl⟩, rfl, rfl, _, rfl, ?_⟩
      rw [wdk_succ hp']
      rfl
  · rintro v loc H ⟨rfl, o2, rfl, rfl⟩
    (refine wpSs_cons.mpr ?_; tm_at "wps")
    exact join_ok h rfl rfl
end

open PySem PyProof.Rows PySem.SeqAt

noncomputable def cs_strip_of (fl : Nat) : List CS := [
  .assign 1 (.meth .split (.var 0) [(.const (.str " "))]),
  .assign 2 (.comp (.call fl [(.idx (.var 0) (.var 1))]) [] [1] 0 (.prim .range [(.const (.int (0))), (.prim .len [(.var 1)]), (.const (.int (2)))])),
  .assign 3 (.comp (.meth .get (.dct ["v", "h"] [(.const (.str "valley")), (.const (.str "hill"))]) [(.idx (.var 0) (.var 1))]) [] [1] 0 (.prim .range [(.const (.int (1))), (.prim .len [(.var 1)]), (.const (.int (2)))])),
  .ite (.or (.cmp .In (.const .none) (.var 2)) (.or (.cmp .In (.const .none) (.var 3)) (.or (.cmp .Eq (.bin .Mod (.prim .len [(.var 1)]) (.const (.int (2)))) (.const (.int (0)))) (.cmp .Gt (.prim .len [(.var 2)]) (.const (.int (30)))))))
    [      .ret (.const .none)]
    [],
  .ret (.tup [(.var 2), (.var 3)])]
theorem fm_map {α β : Type} {f : α → Option β} {g : α → β} : ∀ {l : List α}, (∀ k ∈ l, f k = some (g k)) → l.filterMap f = l.map g
  | [], _ => rfl
  | a :: r, h => by rw [List.filterMap_cons, h a (.head _), List.map_cons]; exact congrArg _ (fm_map fun k hk => h k (.tail _ hk))
/-- the words at the places of a range -/
theorem rng_alt {W : List Str} (h : 0 < W.length) (g : Str → AV) : ((rngList 0 W.length 2).map fun k => g (W.getD k.toNat Str.empty)) = (alt true W).map g ∧ ((rngList 1 W.length 2).map fun k => g (W.getD k.toNat Str.empty)) = (alt false W).map g := by
  obtain ⟨r1, r2⟩ := range2 W.length h
  unfold rngList
  rw [r1, r2, List.map_map, List.map_map, ← (alt_pick W).1, ← (alt_pick W).2]
  refine ⟨?_, ?_⟩
  · rw [fm_map (g := fun k => W.getD (2 * k) Str.empty) fun k hk => by rw [List.getD_eq_getElem?_getD, List.getElem?_eq_getElem (by have := List.mem_range.mp hk; omega)]; rfl, List.map_map]
    refine List.map_congr_left fun k _ => ?_
    show g (W.getD ((0 : Int) + (k : Int) * 2).toNat Str.empty) = g (W.getD (2 * k) Str.empty)
    rw [Int.zero_add, Nat.mul_comm]
    rfl
  · rw [fm_map (g := fun k => W.getD (1 + 2 * k) Str.empty) fun k hk => by rw [List.getD_eq_getElem?_getD, List.getElem?_eq_getElem (by have := List.mem_range.mp hk; omega)]; rfl, List.map_map]
    refine List.map_congr_left fun k _ => ?_
    show g (W.getD ((1 : Int) + (k : Int) * 2).toNat Str.empty) = g (W.getD (1 + 2 * k) Str.empty)
    rw [Nat.mul_comm]
    rfl
theorem rng2_mem {a n : Nat} {k : Int} (h : k ∈ rngList a n 2) : 0 ≤ k ∧ k < n := by
  unfold rngList at h
  obtain ⟨i, hi, rfl⟩ := List.mem_map.mp h
  have hi' := List.mem_range.mp hi
  unfold Builtin.Range.rangeSize at hi'
  rw [if_pos (by decide)] at hi'
  split at hi' <;> omega
noncomputable def lenRes (w : Str) : AV := if eOk w = true then .int (lenVal w) else .none
noncomputable def markRes (w : Str) : AV := if isLet w = true then .str (markOf w) else .none
theorem get_mark (w : Str) : (((["v", "h"] : List Str).zip [AV.str "valley", AV.str "hill"]).lookup w).getD .none = markRes w := by
  unfold markRes isLet markOf
  by_cases h1 : w = sV
  · subst h1; kernel_rfl
  · by_cases h2 : w = sH
    · subst h2; kernel_rfl
    · rw [decide_eq_false h1, decide_eq_false h2]
      have e1 : (w == ("v" : String)) = false := beq_eq_false_iff_ne.mpr h1
      have e2 : (w == ("h" : String)) = false := beq_eq_false_iff_ne.mpr h2
      show (List.lookup w [(("v" : String), _), (("h" : String), _)]).getD AV.none = _
      rw [List.lookup_cons, e1, List.lookup_cons, e2]
      rfl
/-- whether None is in a list of what was made of words -/
theorem none_in {W : List Str} {r : Str → AV} {d : Str → PyData} {ok : Str → Bool} {H : AH} {i : Nat} {Q : AV → AH → Prop} (hi : H[i]? = some (W.map r)) (hd : ∀ w ∈ W, Rd H 9 (r w) (d w)) (he : ∀ w, (d w).eqv .none = !ok w) (h : Q (.bool (!W.all ok)) H) : opCmp .In .none (.ref i) H Q := by
  refine ⟨.none, _, _, .none, hi, Rds.ofAll hd, ?_⟩
  rw [show (W.map d).any (fun d => d.eqv .none) = !W.all ok from by rw [List.any_map, List.not_all_eq_any_not]; congr 1; funext w; exact he w]
  exact h
theorem allB {p : Str → Bool} {l : List Str} : (l.all p = true) ↔ ∀ w ∈ l, p w = true := List.all_eq_true
section
variable {P : PC} {l : Lv} {f fl : Nat} {ps rest : List Str} {X : Str → Prop} {t : Str}
/-- [F(words[k]) for k in range(a, len(words), 2)] -/
theorem comp_rng {elt : CE} {a : Nat} {loc : Loc} {H : AH} {K : AV → AH → Prop} {W : List Str} {r : Str → AV} {N : AV → AV} (hq : l.q = true) (ha : a ≤ 1) (hW : W.length ≤ smallN) (h1 : loc[1]?.join = some (.ref 0)) (h0 : H[0]? = some (W.map AV.str)) (hp : ∀ w, NoFl (r w) ∧ ∀ H, Ren [] H (r w) (r w))
    (hel : ∀ k : Int, 0 ≤ k → k < W.length → ∀ Q : AV → AH → Prop, Q (r (W.getD k.toNat Str.empty)) [] → wpE P l X elt [some (.fl (W.map AV.str)), some (.int k)] [] Q) (h : K (.ref H.length) (H ++ [(rngList a W.length 2).map fun k => r (W.getD k.toNat Str.empty)])) :
    wpE P l X (.comp elt [] [1] 0 (.prim .range [(.const (.int a)), (.prim .len [(.var 1)]), (.const (.int (2)))])) loc H K := by
  have hr : rngOk a (W.length : Int) 2 := by unfold smallN at hW; exact ⟨⟨by omega, by omega⟩, ⟨by omega, by omega⟩, by decide, by decide⟩
  tm_at "wps"
  rw [h1]
  refine ⟨hq, hq, hq, ?_⟩
  show opt ((H[0]?).map List.length) _
  rw [h0]
  refine ⟨by rw [List.length_map]; exact hW, ?_⟩
  tm_at "wps"
  rw [List.length_map]
  refine ⟨hr, _, _, [some (.fl (W.map AV.str))], rfl, ?_, Rens.ints _, .cons h1 (.frz (fun q => nomatch q) h0 (Rens.strs _)) .nil, ?_⟩
  · rw [List.length_map]
    unfold rngList
    rw [List.length_map, List.length_range]
    have := (rng_e hr).2
    unfold Builtin.Range.rangeSize
    unfold smallN at hW ⊢
    rw [if_pos (by decide)]
    split <;> omega
  · refine comp_map (fun v => match v with | .int k => r (W.getD k.toNat Str.empty) | v => v) (fun x hx k hk => opt_bind0 hk) (fun x hx k hk' => ?_) ?_
    · obtain ⟨i, hi, rfl⟩ := List.mem_map.mp hx
      have hm := rng2_mem hi
      exact opt_bind0 (hel i hm.1 hm.2 _ ⟨_, (hp _).2 _, .inr (hp _).1, hk'⟩)
    · rw [List.map_map]
      exact h
end

open PySem PyProof.Rows PySem.SeqAt
section
variable {P : PC} {l : Lv} {f fl : Nat} {ps rest : List Str} {X : Str → Prop} {t : Str}
theorem lenRes_pure (w : Str) : NoFl (lenRes w) ∧ ∀ H, Ren [] H (lenRes w) (lenRes w) := by
  unfold lenRes
  split
  · exact int_pure _
  · exact ⟨.none, fun _ => .none⟩
theorem markRes_pure (w : Str) : NoFl (markRes w) ∧ ∀ H, Ren [] H (markRes w) (markRes w) := by
  unfold markRes
  split
  · exact str_pure _
  · exact ⟨.none, fun _ => .none⟩
noncomputable def lenD (w : Str) : PyData := if eOk w = true then .int (lenVal w) else .none
noncomputable def markD (w : Str) : PyData := if isLet w = true then .str (markOf w) else .none
theorem lenD_rd {H : AH} (w : Str) : Rd H 9 (lenRes w) (lenD w) := by
  unfold lenRes lenD
  split
  · exact .int _
  · exact .none
theorem markOf_ok (w : Str) : sOk (markOf w) := by
  unfold markOf
  split <;> decide +kernel
theorem markD_rd {H : AH} (w : Str) : Rd H 9 (markRes w) (markD w) := by
  unfold markRes markD
  split
  · exact .str _ (markOf_ok w)
  · exact .none
theorem lenD_eq (w : Str) : (lenD w).eqv .none = !eOk w := by
  unfold lenD
  cases eOk w <;> rfl
theorem markD_eq (w : Str) : (markD w).eqv .none = !isLet w := by
  unfold markD
  cases isLet w <;> rfl
/-- what strip_of gives back -/
noncomputable def OfStrip (t : Str) (v : AV) (H : AH) : Prop := (pOk t → Gives ((pE t).map lenVal) ((pO t).map markOf) v H) ∧ (¬ pOk t → v = .none ∧ H = [])
theorem of_none {H : AH} (hn : ¬ pOk t) : ∃ φ H' v', RenH φ H H' ∧ Ren φ H .none v' ∧ OfStrip t v' H' := ⟨[], [], .none, RenH.nil, .none, fun q => absurd q hn, fun _ => ⟨rfl, rfl⟩⟩
theorem of_some {W : List AV} (h : pOk t) : ∃ φ H' v', RenH φ [W, (pE t).map lenRes, (pO t).map markRes] H' ∧ Ren φ [W, (pE t).map lenRes, (pO t).map markRes] (.tup [.ref 1, .ref 2]) v' ∧ OfStrip t v' H' := by
  have e1 : (pE t).map lenRes = ((pE t).map lenVal).map AV.int := by rw [List.map_map]; exact List.map_congr_left fun w hw => by unfold lenRes; rw [if_pos (h.1 w hw)]; rfl
  have e2 : (pO t).map markRes = ((pO t).map markOf).map AV.str := by rw [List.map_map]; exact List.map_congr_left fun w hw => by unfold markRes; rw [if_pos (h.2.1 w hw)]; rfl
  rw [e1, e2]
  exact ⟨[1, 2], _, .tup [.ref 0, .ref 1], RenH.two rfl rfl (by decide) (Rens.ints _) (Rens.strs _), .tup (.cons (.ref rfl) (.cons (.ref rfl) .nil)), fun _ => ⟨rfl, rfl⟩, fun q => absurd h q⟩
theorem w_at {W : List Str} {k : Int} {H : AH} {Q : AV → AH → Prop} (hW : W.length ≤ smallN) (h0 : 0 ≤ k) (h1 : k < W.length) (h : Q (.str (W.getD k.toNat Str.empty)) H) : opIdx (.fl (W.map AV.str)) (.int k) H Q := by
  obtain ⟨j, rfl⟩ := Int.eq_ofNat_of_zero_le h0
  have hj : j < W.length := Int.ofNat_lt.mp h1
  refine i_at (vs := W.map AV.str) rfl (by rw [List.length_map]; exact hW) h0 (by rw [List.length_map]; exact h1) ?_ h
  rw [Int.toNat_natCast, List.getElem?_map, List.getElem?_eq_getElem hj, List.getD_eq_getElem?_getD, List.getElem?_eq_getElem hj]
  rfl
theorem strip_of_ok (F : FnIs P f ps rest (cs_strip_of fl)) (hp : ps.length = 1) (hr : rest.length = 3) (hk : 1 < l.k) (hq : l.q = true) (ht : t.length ≤ 90000) (hs : sOk t) (hl : ∀ w, sOk w → w.length ≤ smallN → CallJ P ⟨l.k - 1, l.q⟩ fl [.str w] (fun v H => v = lenRes w ∧ H = []) fun _ => False) :
    CallJ P l f [.str t] (OfStrip t) X := by
  have hk' : 0 < l.k - 1 := Nat.sub_pos_of_lt hk
  have hW := ws_small ht
  have hmem : ∀ k : Int, 0 ≤ k → k < (Txt.split t sp).length → (Txt.split t sp).getD k.toNat Str.empty ∈ Txt.split t sp := fun k h0 h1 => by
    obtain ⟨j, rfl⟩ := Int.eq_ofNat_of_zero_le h0
    have hj : j < (Txt.split t sp).length := Int.ofNat_lt.mp h1
    rw [Int.toNat_natCast, List.getD_eq_getElem?_getD, List.getElem?_eq_getElem hj]
    exact List.getElem_mem hj
  refine CallJ.ren (F.call (Nat.lt_trans (by decide) hk) (by rw [hp]; rfl) ?_)
  rw [hr]
  unfold cs_strip_of
  (refine wpSs_cons.mpr ?_; tm_at "wps")
  refine split_ok ht (wpSs_cons.mpr ?_)
  rw [q_assign]
  refine comp_rng (l := ⟨l.k - 1, l.q⟩) (a := 0) (W := Txt.split t sp) (r := lenRes) (N := id) hq (by decide) hW rfl rfl lenRes_pure ?_ ?_
  · intro k h0 h1 Q q
    tm_at "wps"
    refine ⟨hk', w_at hW h0 h1 ?_⟩
    have hw := hmem k h0 h1
    refine CallP.plain (.cons (.str _) .nil) ((hl _ (ok_word hs hw) (Nat.le_trans ((split_le t).2 _ hw) (Nat.le_trans ht (by decide)))).mono fun _ _ q => q) ?_
    rintro v Hc ⟨rfl, rfl⟩
    rw [List.length_nil, shift0]
    exact q
  rw [show ((0 : Nat) : Int) = 0 from rfl, (rng_alt (pw_len t).1 lenRes).1]
  refine wpSs_cons.mpr ?_
  rw [q_assign]
  refine comp_rng (l := ⟨l.k - 1, l.q⟩) (a := 1) (W := Txt.split t sp) (r := markRes) (N := id) hq (by decide) hW rfl rfl markRes_pure ?_ ?_
  · intro k h0 h1 Q q
    tm_at "wps"
    refine w_at hW h0 h1 ?_
    show Q (((List.zip _ _).lookup _).getD .none) []
    rw [get_mark]
    exact q
  rw [show ((1 : Nat) : Int) = 1 from rfl, (rng_alt (pw_len t).1 markRes).2]
  show wpSs P _ _ [some (.str t), some (.ref 0), some (.ref 1), some (.ref 2)] [(Txt.split t sp).map AV.str, (pE t).map lenRes, (pO t).map markRes] _ _ _
  (refine wpSs_cons.mpr ?_; tm_at "wps")
  refine ⟨fun loc H => pOk t ∧ loc = [some (.str t), some (.ref 0), some (.ref 1), some (.ref 2)] ∧ H = [(Txt.split t sp).map AV.str, (pE t).map lenRes, (pO t).map markRes], ?_, ?_⟩
  · rintro loc H ⟨h, rfl, rfl⟩
    (refine wpSs_cons.mpr ?_; tm_at "wps")
    exact ⟨by decide, of_some h⟩
  refine none_in rfl (fun w _ => lenD_rd w) lenD_eq ?_
  show if (!(pE t).all eOk) = true then _ else _
  cases e1 : (pE t).all eOk with
  | false => exact of_none fun q => by rw [allB.mpr q.1] at e1; cases e1
  | true =>
    refine ff_else (none_in rfl (fun w _ => markD_rd w) markD_eq ?_)
    show if (!(pO t).all isLet) = true then _ else _
    cases e2 : (pO t).all isLet with
    | false => exact of_none fun q => by rw [allB.mpr q.2.1] at e2; cases e2
    | true =>
      refine ff_else ⟨hq, by rw [List.length_map]; exact hW, by decide, ?_⟩
      rw [List.length_map]
      refine brk (fun h => of_none fun q => ?_) fun h => ⟨hq, by rw [List.length_map]; exact alt_small ht, ?_⟩
      · have := q.2.2.1; omega
      · rw [List.length_map]
        refine brk (fun h => of_none fun q => ?_) fun h2 => Cut.here ⟨⟨allB.mp e1, allB.mp e2, by omega, Int.ofNat_le.mp (Int.not_lt.mp h2)⟩, rfl, rfl⟩
        exact absurd (Int.ofNat_le.mpr q.2.2.2) (Int.not_le.mpr h)
end

open PySem PyProof.Rows PySem.SeqAt

noncomputable def sgA : Str := (" !\"#$&'()*+,-./0123456789:;<=>?@ABCDEFGHIJKLMNOPQRSTUVWXYZ[\\]^_`" : String)
noncomputable def sgB : Str := ("abcdefghijklmnopqrstuvwxyz{|}~\n\t" : String)
noncomputable def sgC : Str := (" vh0123456789" : String)
noncomputable def cs_sign : List CS := [
  .assign 1 (.const (.str sgA)),
  .assign 1 (.bin .Add (.var 1) (.const (.str sgB))),
  .ret (.idx (.lst [(.idx (.var 1) (.bin .Mod (.bin .FloorDiv (.var 0) (.const (.int (4)))) (.prim .len [(.var 1)]))), (.idx (.const (.str sgC)) (.bin .Mod (.bin .FloorDiv (.var 0) (.const (.int (4)))) (.const (.int (13)))))]) (.bin .Mod (.var 0) (.const (.int (2)))))]
noncomputable def odA : List Str := ["", " ", "3 v", "v", "3  v 2", " 3", "3 ", "03", "0", "3 v 02", "3 V 2", "3 x 2", "-3", "+3", "1001"]
noncomputable def odB : List Str := ["3 v h 2", "3 4", "3v2", "3 v 2 v", "1_0", "10000"]
noncomputable def odC : List Str := ["1000", "3 v 1000"]
noncomputable def kStr (x : Str) : CE := .const (.str x)
noncomputable def cs_odd : List CS := [
  .assign 1 (.lst (odA.map kStr ++ [])),
  .assign 1 (.bin .Add (.var 1) (.lst (odB.map kStr ++ [(.meth .join (.const (.str " v ")) [(.bin .Mult (.lst [(.const (.str "1"))]) (.const (.int (31))))])]))),
  .assign 1 (.bin .Add (.var 1) (.lst (odC.map kStr ++ [(.meth .join (.const (.str " h ")) [(.bin .Mult (.lst [(.const (.str "999"))]) (.const (.int (30))))])]))),
  .ret (.idx (.var 1) (.bin .Mod (.var 0) (.const (.int (25)))))]
/-- a text of some length at most -/
noncomputable def GivesTxt (n : Nat) (v : AV) (H : AH) : Prop := ∃ x, v = .str x ∧ sOk x ∧ x.length ≤ n ∧ H = []
theorem CallJ.txt {P : PC} {l : Lv} {f n : Nat} {vs : List AV} {X : Str → Prop} (h : CallJ P l f vs (fun v _ => ∃ x, v = .str x ∧ sOk x ∧ x.length ≤ n) X) : CallJ P l f vs (GivesTxt n) X :=
  CallJ.ren (h.mono fun v H ⟨x, e, a, b⟩ => ⟨[], [], .str x, RenH.nil, by subst e; exact .str x, x, rfl, a, b, rfl⟩)
theorem s_at {x : Str} {k : Int} {H : AH} {Q : AV → AH → Prop} (hs : x.length ≤ smallN) (h0 : 0 ≤ k) (h1 : k < x.length) (h : ∀ c ∈ x.cps.toList, Q (.str ⟨#[c]⟩) H) : opIdx (.str x) (.int k) H Q := by
  have el : (signs x).length = x.length := by unfold signs; rw [List.length_map, Array.length_toList]; rfl
  have hk : k.toNat < (signs x).length := by rw [el]; exact (Int.toNat_lt h0).mpr h1
  have ei : idxAt k (signs x) = some (signs x)[k.toNat] := idxAt_some (by rw [el]; exact hs) (idx_in h0 (by rw [el]; exact h1)) (List.getElem?_eq_getElem hk)
  show opt (idxAt k (signs x)) fun v => Q v H
  rw [ei]
  have hm := List.getElem_mem hk
  obtain ⟨c, hc, e⟩ := List.mem_map.mp hm
  rw [← e]
  exact h c hc
theorem one_ok {x : Str} {c : Nat} (hx : sOk x) (hc : c ∈ x.cps.toList) : sOk ⟨#[c]⟩ := sOk_iff.mpr fun d hd => by rw [List.mem_singleton.mp hd]; exact sOk_iff.mp hx c hc
theorem sg_facts : (sgA ++ sgB).length = 96 ∧ sOk (sgA ++ sgB) ∧ sgC.length = 13 ∧ sOk sgC ∧ sgA.length + sgB.length = 96 := by decide +kernel
section
variable {P : PC} {l : Lv} {f : Nat} {ps rest : List Str} {X : Str → Prop}
theorem sign_ok (F : FnIs P f ps rest cs_sign) (hp : ps.length = 1) (hr : rest.length = 1) (hk : 0 < l.k) (hq : l.q = true) {c : Int} : CallJ P l f [.int c] (GivesTxt 1) X := by
  obtain ⟨g1, g2, g3, g4, g5⟩ := sg_facts
  refine CallJ.txt (F.call hk (by rw [hp]; rfl) ?_)
  rw [hr]
  unfold cs_sign
  (refine wpSs_cons.mpr ?_; tm_at "wps")
  (refine wpSs_cons.mpr ?_; tm_at "wps")
  refine ⟨by rw [g5]; decide, ?_⟩
  generalize hx : sgA ++ sgB = x at g1 g2
  (refine wpSs_cons.mpr ?_; tm_at "wps")
  have m1 := mod_in (c / 4) (by decide : (0 : Int) < 96)
  have m2 := mod_in (c / 4) (by decide : (0 : Int) < 13)
  refine ⟨⟨by decide, by decide⟩, hq, by rw [g1]; decide, by rw [g1]; decide, ?_⟩
  rw [g1]
  refine s_at (by rw [g1]; decide) m1.1 (by rw [g1]; exact m1.2) fun d hd => ⟨⟨by decide, by decide⟩, by decide, s_at (by rw [g3]; decide) m2.1 (by rw [g3]; exact m2.2) fun e he => ⟨by decide, by decide, ?_⟩⟩
  have m3 := mod_in c (by decide : (0 : Int) < 2)
  refine i_any (vs := [.str ⟨#[d]⟩, .str ⟨#[e]⟩]) rfl (show 2 ≤ smallN from by decide) m3.1 m3.2 fun w hw => ?_
  rcases List.mem_cons.mp hw with rfl | hw
  · exact ⟨_, rfl, one_ok g2 hd, Nat.le_refl 1⟩
  · rw [List.mem_singleton.mp hw]
    exact ⟨_, rfl, one_ok g4 he, Nat.le_refl 1⟩
noncomputable def odO : List Str := List.replicate 31 "1"
noncomputable def odN : List Str := List.replicate 30 "999"
noncomputable def oddAll : List Str := odA ++ (odB ++ [Str.join " v " odO]) ++ (odC ++ [Str.join " h " odN])
noncomputable def small200 (x : Str) : Bool := PyData.strOk x && decide (x.length ≤ 200)
theorem rept_join {x y : Str} {n : Nat} (hx : sOk x) (hy : sOk y) (h : n * x.length + n * y.length ≤ 200) : JoinOk y (List.replicate n x) = true ∧ small200 (Str.join y (List.replicate n x)) = true := by
  have hl : ∀ w ∈ List.replicate n x, w.length ≤ x.length := fun w hw => by rw [List.eq_of_mem_replicate hw]; exact Nat.le_refl _
  refine ⟨?_, ?_⟩
  · unfold JoinOk
    rw [StrLaws.joinFits (B := x.length) hl (by rw [List.length_replicate]; exact Nat.le_trans h (by decide))]
    rfl
  · unfold small200
    rw [Bool.and_eq_true, decide_eq_true_iff]
    refine ⟨ok_join hy fun w hw => by rw [List.eq_of_mem_replicate hw]; exact hx, Nat.le_trans (StrLaws.join_length_le y _) (Nat.le_trans (Nat.add_le_add_right (sum_le hl) _) ?_)⟩
    rw [List.length_replicate]
    exact h
theorem odd_base : (odA ++ odB ++ odC).all small200 = true := by decide +kernel
theorem odd_o : JoinOk " v " odO = true ∧ small200 (Str.join " v " odO) = true := rept_join (by decide +kernel) (by decide +kernel) (by decide +kernel)
theorem odd_n : JoinOk " h " odN = true ∧ small200 (Str.join " h " odN) = true := rept_join (by decide +kernel) (by decide +kernel) (by decide +kernel)
theorem odd_all : oddAll.all small200 = true := by
  have h := odd_base
  unfold oddAll
  rw [List.all_append, List.all_append] at h
  rw [List.all_append, List.all_append, List.all_append, List.all_append]
  rw [Bool.and_eq_true, Bool.and_eq_true] at h
  rw [h.1.1, h.1.2, h.2, List.all_cons, List.all_cons, odd_o.2, odd_n.2]
  rfl
theorem consts_ok {b : List CE} {loc : Loc} {H : AH} : ∀ {xs : List Str} {Q : List AV → AH → Prop}, wpEs P l X b loc H (fun us H' => Q (xs.map AV.str ++ us) H') → wpEs P l X (xs.map kStr ++ b) loc H Q
  | [], _, h => h
  | _ :: xs, Q, h => consts_ok (xs := xs) (Q := fun vs H' => Q (_ :: vs) H') h
theorem rep_flat (x : Str) : ∀ n : Nat, (List.replicate n [AV.str x]).flatten = (List.replicate n x).map AV.str
  | 0 => rfl
  | n + 1 => by rw [List.replicate_succ, List.replicate_succ, List.flatten_cons, List.map_cons, rep_flat x n]; rfl
theorem odd_ok (F : FnIs P f ps rest cs_odd) (hp : ps.length = 1) (hr : rest.length = 1) (hk : 0 < l.k) {c : Int} : CallJ P l f [.int c] (GivesTxt 200) X := by
  have g1 := odd_all
  have g4 : oddAll.length = 25 := rfl
  refine CallJ.txt (F.call hk (by rw [hp]; rfl) ?_)
  rw [hr]
  unfold cs_odd
  (refine wpSs_cons.mpr ?_; tm_at "wps")
  refine consts_ok ⟨by decide, ?_⟩
  (refine wpSs_cons.mpr ?_; tm_at "wps")
  refine consts_ok ?_
  tm_at "wps"
  refine ⟨by decide, ⟨by decide, by decide, by decide⟩, odO, congrArg some (rep_flat _ 31), odd_o.1, by decide, by decide, ?_⟩
  (refine wpSs_cons.mpr ?_; tm_at "wps")
  refine consts_ok ?_
  tm_at "wps"
  refine ⟨by decide, ⟨by decide, by decide, by decide⟩, odN, congrArg some (rep_flat _ 30), odd_n.1, by decide, by decide, ?_⟩
  (refine wpSs_cons.mpr ?_; tm_at "wps")
  have m3 := mod_in c (by decide : (0 : Int) < 25)
  refine ⟨by decide, i_any (vs := oddAll.map AV.str) ?_ (by rw [List.length_map, g4]; decide) m3.1 (by rw [List.length_map, g4]; exact m3.2) fun w hw => ?_⟩
  · unfold oddAll
    rw [List.map_append, List.map_append, List.map_append, List.map_append]
    rfl
  obtain ⟨x, hx, rfl⟩ := List.mem_map.mp hw
  have := List.all_eq_true.mp g1 x hx
  unfold small200 at this
  rw [Bool.and_eq_true, decide_eq_true_iff] at this
  exact ⟨x, rfl, this⟩
end

open PySem PyProof.Rows PySem.SeqAt

noncomputable def isK (k : Int) : CE := .cmp .Eq (.bin .Mod (.var 1) (.const (.int (8)))) (.const (.int k))
noncomputable def jn (e : CE) : CE := .meth .join (.const (.str " ")) [e]
noncomputable def upto (x i : Nat) : CE := .slc (.var x) (.const .none) (.var i) (.const .none)
noncomputable def fromI (x i : Nat) : CE := .slc (.var x) (.var i) (.const .none) (.const .none)
noncomputable def fromJ (x i : Nat) : CE := .slc (.var x) (.bin .Add (.var i) (.const (.int (1)))) (.const .none) (.const .none)
noncomputable def cs_bent (fs fo : Nat) : List CS := [
  .assign 3 (.bin .Mod (.var 2) (.bin .Add (.prim .len [(.var 0)]) (.const (.int (1))))),
  .assign 4 (.meth .split (.var 0) [(.const (.str " "))]),
  .assign 5 (.bin .Mod (.var 2) (.prim .len [(.var 4)])),
  .ite (isK 0)
    [      .ret (.bin .Add (.bin .Add (upto 0 3) (.call fs [(.bin .FloorDiv (.var 2) (.const (.int (150))))])) (fromI 0 3))]
    [],
  .ite (isK 1)
    [      .ret (.bin .Add (.bin .Add (upto 0 3) (.call fs [(.bin .FloorDiv (.var 2) (.const (.int (150))))])) (fromJ 0 3))]
    [],
  .ite (isK 2)
    [      .ret (.bin .Add (upto 0 3) (fromJ 0 3))]
    [],
  .ite (isK 3)
    [      .ret (jn (.bin .Add (upto 4 5) (fromJ 4 5)))]
    [],
  .ite (isK 4)
    [      .ret (jn (.bin .Add (.bin .Add (upto 4 5) (.lst [(.idx (.var 4) (.var 5))])) (fromI 4 5)))]
    [],
  .ite (isK 5)
    [      .assign 6 (.bin .Mod (.bin .FloorDiv (.var 2) (.const (.int (70)))) (.prim .len [(.var 4)])),
      .assign 7 (.idx (.var 4) (.var 5)),
      .setIdx (.var 4) (.var 5) (.idx (.var 4) (.var 6)),
      .setIdx (.var 4) (.var 6) (.var 7),
      .ret (jn (.var 4))]
    [],
  .ite (isK 6)
    [      .ret (.call fo [(.var 2)])]
    [],
  .ret (.var 0)]
/-- a text that may be handed on -/
noncomputable def TxtV (v : AV) : Prop := ∃ x, v = .str x ∧ sOk x ∧ x.length ≤ 90000
section
variable {P : PC} {l : Lv} {f fs fo : Nat} {ps rest : List Str} {X : Str → Prop} {t : Str} {c m a j : Int} {W : List Str}
/-- the state behind the first three -/
noncomputable def bL (t : Str) (c m a j : Int) : Loc := [some (.str t), some (.int c), some (.int m), some (.int a), some (.ref 0), some (.int j), none, none]
noncomputable def bH (W : List Str) : AH := [W.map AV.str]
/-- what is known of it -/
structure BC (t : Str) (m a j : Int) (W : List Str) : Prop where
  ok : sOk t
  len : t.length ≤ 295
  m0 : 0 ≤ m
  a0 : 0 ≤ a
  j0 : 0 ≤ j
  j1 : j < W.length
  wl : W.length ≤ 296
  ww : ∀ w ∈ W, sOk w ∧ w.length ≤ 295
theorem ts (h : t.length ≤ 295) : t.length ≤ smallN := Nat.le_trans h (by decide)
theorem slS {lo hi : AV} {l1 u1 : Option Int} {H : AH} {Q : AV → AH → Prop} (B : BC t m a j W) (e1 : optInt lo = some l1) (e2 : optInt hi = some u1) (h : ∀ u, sOk u → u.length ≤ 295 → Q (.str u) H) : opSlc (.str t) lo hi .none H Q := by
  refine ⟨ts B.len, ?_⟩
  rw [e1, e2]
  exact h _ (ok_slice B.ok) (Nat.le_trans (Txt.slice_le t _ _) B.len)
theorem catS {x y : Str} {n k : Nat} {H : AH} {Q : AV → AH → Prop} (hx : sOk x ∧ x.length ≤ n) (hy : sOk y ∧ y.length ≤ k) (hs : n + k ≤ smallN) (h : ∀ z, sOk z → z.length ≤ n + k → Q (.str z) H) : opBin .Add (.str x) (.str y) H Q := by
  have hl := Nat.add_le_add hx.2 hy.2
  exact ⟨Nat.le_trans hl hs, h _ (ok_app hx.1 hy.1) (by rw [Str.length_append]; exact hl)⟩
/-- words that were picked of words -/
noncomputable def Pick (W V : List Str) : Prop := V.length ≤ 297 ∧ ∀ w ∈ V, w ∈ W
theorem join_pick {V : List Str} {i : Nat} {H : AH} {Q : AV → AH → Prop} (B : BC t m a j W) (hV : Pick W V) (hi : H[i]? = some (V.map AV.str)) (h : ∀ v, TxtV v → Q v H) : opMeth .join (.str (" " : String)) [.ref i] H Q := by
  have hw : ∀ w ∈ V, w.length ≤ 295 := fun w hw => (B.ww w (hV.2 w hw)).2
  have hl : V.length * (295 + 1) ≤ 90000 := Nat.le_trans (Nat.mul_le_mul_right 296 hV.1) (by decide)
  refine ⟨V, hi, ?_, ?_⟩
  · rw [sp_is]; exact joinOk hw (Nat.le_trans hl (by decide))
  · rw [sp_is]; exact h _ ⟨_, rfl, ok_join (by decide +kernel) fun w hm => (B.ww w (hV.2 w hm)).1, Nat.le_trans (join_le hw) hl⟩
theorem frI {H : AH} {K : AV → AH → Prop} (B : BC t m a j W) (h : ∀ u, sOk u → u.length ≤ 295 → K (.str u) H) : wpE P l X (fromI 0 3) (bL t c m a j) H K := slS B rfl rfl h
theorem frJ {H : AH} {K : AV → AH → Prop} (B : BC t m a j W) (h : ∀ u, sOk u → u.length ≤ 295 → K (.str u) H) : wpE P l X (fromJ 0 3) (bL t c m a j) H K := slS (hi := .none) (lo := .int (a + 1)) B rfl rfl h
theorem upS {H : AH} {K : AV → AH → Prop} (B : BC t m a j W) (h : ∀ u, sOk u → u.length ≤ 295 → K (.str u) H) : wpE P l X (upto 0 3) (bL t c m a j) H K := slS (lo := .none) (hi := .int a) B rfl rfl h
theorem bent0 (hk : 0 < l.k) (B : BC t m a j W) (hs : ∀ c : Int, CallJ P l fs [.int c] (GivesTxt 1) fun _ => False) {e : CE} {H : AH} {Q : AV → AH → Prop} (he : ∀ K : AV → AH → Prop, (∀ u, sOk u → u.length ≤ 295 → K (.str u) H) → wpE P l X e (bL t c m a j) H K) (h : ∀ v, TxtV v → Q v H) :
    wpE P l X (.bin .Add (.bin .Add (upto 0 3) (.call fs [(.bin .FloorDiv (.var 2) (.const (.int (150))))])) e) (bL t c m a j) H Q := by
  rw [w_bin, w_bin]
  refine upS B ?_
  intro u hu hul
  rw [w_call]
  refine ⟨hk, ⟨by decide, by decide⟩, ?_⟩
  tm_at "wps"
  refine CallP.plain (.cons (.int _) .nil) ((hs _).mono fun _ _ q => q) ?_
  rintro v Hc ⟨x, rfl, hx, hxl, rfl⟩
  rw [List.map_nil, List.append_nil]
  refine catS ⟨hu, hul⟩ ⟨hx, hxl⟩ (by decide) ?_
  intro z hz hzl
  refine he _ ?_
  intro w hw hwl
  refine catS ⟨hz, hzl⟩ ⟨hw, hwl⟩ (by decide) fun y hy hyl => h _ ⟨y, rfl, hy, Nat.le_trans hyl (by decide)⟩
theorem bent2 (B : BC t m a j W) {H : AH} {Q : AV → AH → Prop} (h : ∀ v, TxtV v → Q v H) : wpE P l X (.bin .Add (upto 0 3) (fromJ 0 3)) (bL t c m a j) H Q := by
  rw [w_bin]
  refine upS B ?_
  intro u hu hul
  refine frJ B ?_
  intro w hw hwl
  refine catS ⟨hu, hul⟩ ⟨hw, hwl⟩ (by decide) fun y hy hyl => h _ ⟨y, rfl, hy, Nat.le_trans hyl (by decide)⟩
theorem wsm (B : BC t m a j W) : (W.map AV.str).length ≤ smallN := by rw [List.length_map]; exact Nat.le_trans B.wl (by decide)
theorem bent3 (B : BC t m a j W) {Q : AV → AH → Prop} (h : ∀ v H, TxtV v → Q v H) : wpE P l X (jn (.bin .Add (upto 4 5) (fromJ 4 5))) (bL t c m a j) (bH W) Q := by
  unfold jn upto fromJ bL
  tm_at "wps"
  refine sl_upto rfl (wsm B) B.j0 (sl_from rfl (wsm B) (Int.le_trans B.j0 (Int.le_add_one (Int.le_refl _))) ?_)
  refine ⟨?_, join_pick (V := W.take j.toNat ++ W.drop (j + 1).toNat) B ⟨?_, fun w hw => (List.mem_append.mp hw).elim List.mem_of_mem_take List.mem_of_mem_drop⟩ (by rw [List.map_append, List.map_take, List.map_drop]; rfl) fun v hv => h v _ hv⟩
  · rw [List.length_take, List.length_drop, List.length_map]; have := B.wl; unfold smallN; omega
  · rw [List.length_append, List.length_take, List.length_drop]; have := B.wl; have := B.j0; omega
theorem wat (B : BC t m a j W) {k : Int} {H : AH} {Q : AV → AH → Prop} {i : Nat} (hi : H[i]? = some (W.map AV.str)) (h0 : 0 ≤ k) (h1 : k < W.length) (h : ∀ w ∈ W, Q (.str w) H) : opIdx (.ref i) (.int k) H Q :=
  i_any (vs := W.map AV.str) hi (wsm B) h0 (by rw [List.length_map]; exact h1) fun v hv => by obtain ⟨w, hw, rfl⟩ := List.mem_map.mp hv; exact h w hw
theorem bent4 (B : BC t m a j W) {Q : AV → AH → Prop} (h : ∀ v H, TxtV v → Q v H) : wpE P l X (jn (.bin .Add (.bin .Add (upto 4 5) (.lst [(.idx (.var 4) (.var 5))])) (fromI 4 5))) (bL t c m a j) (bH W) Q := by
  unfold jn upto fromI bL
  tm_at "wps"
  refine sl_upto rfl (wsm B) B.j0 (wat B rfl B.j0 B.j1 fun w hw => ⟨(by decide : 1 ≤ smallN), ?_⟩)
  tm_at "wps"
  have hl := B.wl
  refine ⟨?_, sl_from rfl (wsm B) B.j0 ⟨?_, join_pick (V := W.take j.toNat ++ [w] ++ W.drop j.toNat) B ⟨?_, fun x hx => ?_⟩ (by rw [List.map_append, List.map_append, List.map_take, List.map_drop]; rfl) fun v hv => h v _ hv⟩⟩
  · rw [List.length_take, List.length_map]; unfold smallN; show _ + 1 ≤ _; omega
  · rw [List.length_append, List.length_take, List.length_drop, List.length_map]; unfold smallN; show _ + 1 + _ ≤ _; omega
  · rw [List.length_append, List.length_append, List.length_take, List.length_drop]; show _ + 1 + _ ≤ _; omega
  · rcases List.mem_append.mp hx with hx | hx
    · rcases List.mem_append.mp hx with hx | hx
      · exact List.mem_of_mem_take hx
      · rw [List.mem_singleton.mp hx]; exact hw
    · exact List.mem_of_mem_drop hx
theorem set_pick {V : List Str} {w : Str} {k : Nat} (hV : ∀ x ∈ V, x ∈ W) (hw : w ∈ W) : ∀ x ∈ V.set k w, x ∈ W := fun x hx => (List.mem_or_eq_of_mem_set hx).elim (hV x) fun e => e ▸ hw
end

open PySem PyProof.Rows PySem.SeqAt
section
variable {P : PC} {l : Lv} {f fs fo : Nat} {ps rest : List Str} {X : Str → Prop} {t : Str} {c m a j : Int} {W : List Str}
noncomputable def swp : List CS := [
  .assign 6 (.bin .Mod (.bin .FloorDiv (.var 2) (.const (.int (70)))) (.prim .len [(.var 4)])),
  .assign 7 (.idx (.var 4) (.var 5)),
  .setIdx (.var 4) (.var 5) (.idx (.var 4) (.var 6)),
  .setIdx (.var 4) (.var 6) (.var 7),
  .ret (jn (.var 4))]
theorem bent5 (hq : l.q = true) (B : BC t m a j W) {Qn : Loc → AH → Prop} {Qr : AV → AH → Prop} {Qx : Str → Loc → AH → Prop} (h : ∀ v H, TxtV v → Qr v H) : wpSs P l swp (bL t c m a j) (bH W) Qn Qr Qx := by
  have hW : W.length ≤ smallN := Nat.le_trans B.wl (by decide)
  have hpos : (0 : Int) < W.length := Int.lt_of_le_of_lt B.j0 B.j1
  have mk := mod_in (m / 70) hpos
  have hjn : j.toNat < W.length := (Int.toNat_lt B.j0).mpr B.j1
  unfold swp bL bH
  (refine wpSs_cons.mpr ?_; tm_at "wps")
  refine ⟨⟨by decide, by decide⟩, hq, by rw [List.length_map]; exact hW, by rw [List.length_map]; exact hpos, ?_⟩
  rw [List.length_map]
  (refine wpSs_cons.mpr ?_; tm_at "wps")
  refine wat B rfl B.j0 B.j1 fun w1 hw1 => ?_
  (refine wpSs_cons.mpr ?_; tm_at "wps")
  refine wat B rfl mk.1 mk.2 fun w2 hw2 => ⟨_, _, _, rfl, rfl, rfl, B.j0, by rw [List.length_map]; exact B.j1, by rw [List.length_map]; exact hW, ?_⟩
  have e1 : (W.map AV.str).set j.toNat (.str w2) = (W.set j.toNat w2).map AV.str := by rw [List.map_set]
  rw [List.set_cons_zero, e1]
  (refine wpSs_cons.mpr ?_; tm_at "wps")
  refine ⟨_, _, _, rfl, rfl, rfl, mk.1, by rw [List.length_map, List.length_set]; exact mk.2, by rw [List.length_map, List.length_set]; exact hW, ?_⟩
  rw [← List.map_set]
  unfold jn
  (refine wpSs_cons.mpr ?_; tm_at "wps")
  exact join_pick (V := (W.set j.toNat w2).set (m / 70 % (W.length : Int)).toNat w1) B ⟨by rw [List.length_set, List.length_set]; exact Nat.le_trans B.wl (by decide), set_pick (set_pick (fun _ q => q) hw2) hw1⟩ rfl fun v hv => h v _ hv
theorem isK_go {k : Int} {br r : List CS} {Qn : Loc → AH → Prop} {Qr : AV → AH → Prop} {Qx : Str → Loc → AH → Prop} (h1 : ∀ Qn, wpSs P l br (bL t c m a j) (bH W) Qn Qr Qx) (h2 : wpSs P l r (bL t c m a j) (bH W) Qn Qr Qx) : wpSs P l (.ite (isK k) br [] :: r) (bL t c m a j) (bH W) Qn Qr Qx := by
  refine wpSs_cons.mpr ⟨fun loc H => loc = bL t c m a j ∧ H = bH W, ?_, ?_⟩
  · rintro loc H ⟨rfl, rfl⟩
    exact h2
  · unfold isK bL
    tm_at "wps"
    exact ⟨by decide, brk (fun _ => h1 _) fun _ => Cut.here ⟨rfl, rfl⟩⟩
theorem bent_ok (F : FnIs P f ps rest (cs_bent fs fo)) (hp : ps.length = 3) (hr : rest.length = 5) (hk : 1 < l.k) (hq : l.q = true) (ht : t.length ≤ 295) (hok : sOk t) (hm : 0 ≤ m)
    (hs : ∀ c : Int, CallJ P ⟨l.k - 1, l.q⟩ fs [.int c] (GivesTxt 1) fun _ => False) (ho : ∀ c : Int, CallJ P ⟨l.k - 1, l.q⟩ fo [.int c] (GivesTxt 200) fun _ => False) : CallJ P l f [.str t, .int c, .int m] (GivesTxt 90000) X := by
  have hk' : 0 < l.k - 1 := Nat.sub_pos_of_lt hk
  have hw := split_le t
  have hpos : (0 : Int) < (Txt.split t sp).length := Int.ofNat_lt.mpr (pw_len t).1
  have m1 := mod_in m (show (0 : Int) < (t.length : Int) + 1 from Int.lt_add_one_of_le (Int.natCast_nonneg _))
  have m2 := mod_in m hpos
  have B : BC t m (m % ((t.length : Int) + 1)) (m % ((Txt.split t sp).length : Int)) (Txt.split t sp) := ⟨hok, ht, hm, m1.1, m2.1, m2.2, Nat.le_trans hw.1 (Nat.succ_le_succ ht), fun w h => ⟨ok_word hok h, Nat.le_trans (hw.2 w h) ht⟩⟩
  refine CallJ.txt (F.call (Nat.lt_trans (by decide) hk) (by rw [hp]; rfl) ?_)
  rw [hr]
  unfold cs_bent
  (refine wpSs_cons.mpr ?_; tm_at "wps")
  refine ⟨hq, ts ht, Int.lt_add_one_of_le (Int.natCast_nonneg _), ?_⟩
  (refine wpSs_cons.mpr ?_; tm_at "wps")
  refine split_ok (Nat.le_trans ht (by decide)) ?_
  (refine wpSs_cons.mpr ?_; tm_at "wps")
  refine ⟨hq, by rw [List.length_map]; exact ws_small (Nat.le_trans ht (by decide)), by rw [List.length_map]; exact hpos, ?_⟩
  rw [List.length_map]
  generalize m % ((t.length : Int) + 1) = a at B
  generalize m % ((Txt.split t sp).length : Int) = j at B
  generalize Txt.split t sp = W at B
  show wpSs P _ _ (bL t c m a j) (bH W) _ _ _
  refine isK_go (fun Qn => wpSs_cons.mpr ?_) (isK_go (fun Qn => wpSs_cons.mpr ?_) (isK_go (fun Qn => wpSs_cons.mpr ?_) (isK_go (fun Qn => wpSs_cons.mpr ?_) (isK_go (fun Qn => wpSs_cons.mpr ?_) (isK_go (fun Qn => ?_) (isK_go (fun Qn => wpSs_cons.mpr ?_) (wpSs_cons.mpr ?_)))))))
  · exact bent0 (l := ⟨l.k - 1, l.q⟩) hk' B hs (fun K h => frI B h) fun v hv => hv
  · exact bent0 (l := ⟨l.k - 1, l.q⟩) hk' B hs (fun K h => frJ B h) fun v hv => hv
  · exact bent2 B fun v hv => hv
  · exact bent3 B fun v H hv => hv
  · exact bent4 B fun v H hv => hv
  · exact bent5 (P := P) (l := ⟨l.k - 1, l.q⟩) hq B fun v H hv => hv
  · rw [q_ret]
    unfold bL
    tm_at "wps"
    refine ⟨hk', CallP.plain (.cons (.int _) .nil) ((ho _).mono fun _ _ q => q) ?_⟩
    rintro v Hc ⟨x, rfl, hx, hxl, rfl⟩
    exact ⟨x, rfl, hx, Nat.le_trans hxl (by decide)⟩
  · exact ⟨t, rfl, hok, Nat.le_trans ht (by decide)⟩
end

open PySem PyProof.Rows PySem.SeqAt

noncomputable def c14_1 : List CS := [
  .assign 1 (.call 9 [(.var 0)]),
  .assign 2 (.tup [(.prim .list [(.idx (.var 1) (.const (.int (0))))]), (.prim .list [(.idx (.var 1) (.const (.int (1))))])]),
  .assign 3 (.call 3 [(.var 2)])]
noncomputable def c14_2 : List CS := [
  .ite (.or (.not (.isin .str (.var 3))) (.or (.cmp .NotEq (.var 3) (.call 13 [(.var 1)])) (.or (.cmp .NotEq (.var 2) (.var 1)) (.not (.call 19 [(.var 3), (.var 1)])))))
    [      .ret (.const (.bool false))]
    [],
  .assign 4 (.var 3)]
noncomputable def c14_3 : List CS := [
  .ite (.cmp .Gt (.bin .Mod (.call 7 [(.var 0), (.const (.int (16)))]) (.const (.int (4)))) (.const (.int (0))))
    [      .assign 5 (.bin .Mod (.bin .Mult (.call 7 [(.var 0), (.const (.int (17)))]) (.const (.int (48271)))) (.const (.int (2147483647)))),
      .assign 4 (.call 18 [(.var 3), (.bin .FloorDiv (.call 7 [(.var 0), (.const (.int (16)))]) (.const (.int (4)))), (.var 5)])]
    []]
noncomputable def e14_a : CE := .call 15 [(.var 4)]
noncomputable def e14_b : CE := .idx (.lst [(.const .none), (.const (.int (5))), (.lst [(.const (.str "3"))]), (.tup [(.const (.str "3"))]), (.dct [] []), (.const (.bool true))]) (.bin .Mod (.call 7 [(.var 0), (.const (.int (18)))]) (.const (.int (6))))
/-- the text of a strip -/
noncomputable def txt (n : Int) (qs : List (Int × Str)) : Str := Str.join sp (wds n qs)
/-- the calls that law 14 makes -/
structure C14 (P : PC) (l : Lv) (sc : List Int) : Prop where
  cell : ∀ k : Int, 0 ≤ k → k < 100000 → CallJ P l 7 [.fl (sc.map AV.int), .int k] IsCell fun _ => False
  strip : CallJ P l 9 [.fl (sc.map AV.int)] (GivesStrip 1000) fun _ => False
  written : ∀ n qs, NumsOk n qs → CallJ P l 3 [stv n qs] (fun v H => v = .str (txt n qs) ∧ H = []) fun _ => False
  text : ∀ n qs, NumsOk n qs → CallJ P l 13 [stv n qs] (fun v H => v = .str (txt n qs) ∧ H = []) fun _ => False
  right : ∀ n qs, NumsOk n qs → CallJ P l 19 [.str (txt n qs), stv n qs] (fun v _ => v = .bool true) fun _ => False
  bent : ∀ (t : Str) (c m : Int), t.length ≤ 295 → sOk t → 0 ≤ m → CallJ P l 18 [.str t, .int c, .int m] (GivesTxt 90000) fun _ => False
  of : ∀ t : Str, t.length ≤ 90000 → sOk t → CallJ P l 15 [.str t] (OfStrip t) fun _ => False
  good : ∀ t : Str, t.length ≤ 90000 → sOk t → pOk t → CallS P l 19 [.str t, .tup [.fl (((pE t).map lenVal).map AV.int), .fl (((pO t).map markOf).map AV.str)]] true
  bad : ∀ t : Str, t.length ≤ 90000 → sOk t → ¬ pOk t → CallS P l 19 [.str t, .none] true
  thing : ∀ v : AV, v.offX = true → isInst .str v = false → (∀ H, Ren [] H v v) → CallS P l 19 [v, .none] true
section
variable {P : PC} {l : Lv} {sc : List Int} {n : Int} {qs : List (Int × Str)} {Qn : Loc → AH → Prop} {Qr : AV → AH → Prop}
noncomputable def l14 (sc : List Int) (a b c : Option AV) (d : Option AV) : Loc := [some (.fl (sc.map AV.int)), some (.tup [.ref 0, .ref 1]), a, b, c, d]
noncomputable def h14 (n : Int) (qs : List (Int × Str)) : AH := [(nsOf n qs).map AV.int, (msOf qs).map AV.str, (nsOf n qs).map AV.int, (msOf qs).map AV.str]
theorem rd2 {H : AH} {i j : Nat} (h : NumsOk n qs) (hi : H[i]? = some ((nsOf n qs).map AV.int)) (hj : H[j]? = some ((msOf qs).map AV.str)) : Rd H 9 (.tup [.ref i, .ref j]) (.tuple [.list ((nsOf n qs).map .int), .list ((msOf qs).map .str)]) :=
  .tup (.cons (.ref hi (Rds.ints _)) (.cons (.ref hj (Rds.ofAll fun x hx => .str x (by obtain ⟨p, hp, rfl⟩ := List.mem_map.mp hx; exact mk_ok (h.2.2.1 p hp)))) .nil))
theorem nofl_txt {x : Str} {v : AV} {H : AH} (h : v = .str x ∧ H = []) : NoFl v ∧ ∀ xs ∈ H, NoFls xs := by
  obtain ⟨rfl, rfl⟩ := h
  exact ⟨.str _, fun _ h => nomatch h⟩
theorem c14_1_ok (hk : 0 < l.k) (hq : l.q = true) (C : C14 P l sc) (h : ∀ n qs, NumsOk n qs → Qn (l14 sc (some (.tup [.ref 2, .ref 3])) (some (.str (txt n qs))) none none) (h14 n qs)) : wpSs P l c14_1 [some (.fl (sc.map AV.int)), none, none, none, none, none] [] Qn Qr (fun _ _ _ => False) := by
  unfold c14_1
  (refine wpSs_cons.mpr ?_; tm_at "wps")
  refine ⟨hk, CallP.plain (.cons (.fl (Rens.ints sc)) .nil) C.strip ?_⟩
  rintro v Hc ⟨ns, ms, hS, rfl, rfl⟩
  obtain ⟨n, qs, hN, rfl, rfl⟩ := strip_ps hS
  have s1 : ((nsOf n qs).map AV.int).length ≤ smallN := by rw [List.length_map]; exact Nat.le_trans hS.most (by decide)
  have s2 : ((msOf qs).map AV.str).length ≤ smallN := by rw [List.length_map]; exact Nat.le_trans (Nat.le_of_succ_le (Nat.le_trans (Nat.le_of_eq hS.len.symm) hS.most)) (by decide)
  rw [List.map_cons, List.map_cons, List.map_nil, AV.shifts_eq, AV.shifts_eq, AV.shift_ints, AV.shift_strs]
  show wpSs P l _ [some (.fl (sc.map AV.int)), some (.tup [.ref 0, .ref 1]), none, none, none, none] [(nsOf n qs).map AV.int, (msOf qs).map AV.str] _ _ _
  (refine wpSs_cons.mpr ?_; tm_at "wps")
  refine ⟨hq, s1, hq, s2, by decide, ?_⟩
  (refine wpSs_cons.mpr ?_; tm_at "wps")
  refine ⟨hk, CallP.frz (.cons (frz2 (i := 2) (j := 3) rfl rfl) .nil) (C.written n qs hN) (fun v H h => nofl_txt h) ?_⟩
  rintro v Hc ⟨rfl, rfl⟩
  exact h n qs hN
theorem c14_2_ok (hk : 0 < l.k) (C : C14 P l sc) (hN : NumsOk n qs) (h : Qn (l14 sc (some (.tup [.ref 2, .ref 3])) (some (.str (txt n qs))) (some (.str (txt n qs))) none) (h14 n qs)) : wpSs P l c14_2 (l14 sc (some (.tup [.ref 2, .ref 3])) (some (.str (txt n qs))) none none) (h14 n qs) Qn Qr (fun _ _ _ => False) := by
  have hok : sOk (txt n qs) := (wds_small hN).2.2.2
  unfold c14_2 l14
  (refine wpSs_cons.mpr ?_; tm_at "wps")
  refine ⟨fun loc H => loc = l14 sc (some (.tup [.ref 2, .ref 3])) (some (.str (txt n qs))) none none ∧ H = h14 n qs, ?_, hk, CallP.frz (.cons (frz2 (i := 0) (j := 1) rfl rfl) .nil) (C.text n qs hN) (fun v H h => nofl_txt h) ?_⟩
  · rintro loc H ⟨rfl, rfl⟩
    exact h
  rintro v Hc ⟨rfl, rfl⟩
  refine ⟨_, _, .str _ hok, .str _ hok, ?_⟩
  rw [eqv_refl _ (Rd.str (H := []) (k := 0) _ hok).ok.1]
  refine ⟨_, _, rd2 (i := 2) (j := 3) hN rfl rfl, rd2 (i := 0) (j := 1) hN rfl rfl, ?_⟩
  rw [eqv_refl _ (rd2 (H := h14 n qs) (i := 0) (j := 1) hN rfl rfl).ok.1]
  refine ⟨hk, CallP.frz (.cons (.str _) (.cons (frz2 (i := 0) (j := 1) rfl rfl) .nil)) (CallJ.only (C.right n qs hN)) (fun v H h => nofl_only h) ?_⟩
  rintro v Hc ⟨rfl, rfl⟩
  exact Cut.here ⟨rfl, rfl⟩
/-- behind the text was bent, or not -/
noncomputable def J14 (sc : List Int) (loc : Loc) (H : AH) : Prop := ∃ n qs x o, sOk x ∧ x.length ≤ 90000 ∧ loc = l14 sc (some (.tup [.ref 2, .ref 3])) (some (.str (txt n qs))) (some (.str x)) o ∧ H = h14 n qs
theorem c14_3_ok (hk : 0 < l.k) (C : C14 P l sc) (hN : NumsOk n qs) : wpSs P l c14_3 (l14 sc (some (.tup [.ref 2, .ref 3])) (some (.str (txt n qs))) (some (.str (txt n qs))) none) (h14 n qs) (J14 sc) Qr (fun _ _ _ => False) := by
  have hl : (txt n qs).length ≤ 295 := (wds_small hN).2.2.1
  have hok : sOk (txt n qs) := (wds_small hN).2.2.2
  unfold c14_3 l14
  (refine wpSs_cons.mpr ?_; tm_at "wps")
  refine ⟨J14 sc, fun _ _ h => h, hk, call_cell C.cell (by decide) (by decide) fun c hc hc' => ⟨by decide, brk (fun _ => ?_) fun _ => Cut.here ⟨n, qs, _, _, hok, Nat.le_trans hl (by decide), rfl, rfl⟩⟩⟩
  (refine wpSs_cons.mpr ?_; tm_at "wps")
  refine ⟨hk, call_cell C.cell (by decide) (by decide) fun d hd hd' => ⟨.inl (by decide), by decide, ?_⟩⟩
  (refine wpSs_cons.mpr ?_; tm_at "wps")
  refine ⟨hk, hk, call_cell C.cell (by decide) (by decide) fun e he he' => ⟨⟨by decide, by decide⟩, ?_⟩⟩
  refine CallP.plain (.cons (.str _) (.cons (.int _) (.cons (.int _) .nil))) (C.bent _ _ _ hl hok (mod_in _ (by decide)).1) ?_
  rintro v Hc ⟨x, rfl, hx, hxl, rfl⟩
  exact Cut.here ⟨n, qs, x, _, hx, hxl, rfl, rfl⟩
noncomputable def J14b (sc : List Int) (loc : Loc) (_ : AH) : Prop := ∃ r, loc = some (.fl (sc.map AV.int)) :: r
theorem e14_a_ok (hk : 0 < l.k) (C : C14 P l sc) {loc : Loc} {H : AH} (h : J14 sc loc H) : wpEs P l (fun _ => False) [.var 4, e14_a] loc H fun vs H' => ∃ vs', Rens [] H' vs vs' ∧ CallS P l 19 vs' true ∧ J14b sc loc H' := by
  obtain ⟨n, qs, x, o, hx, hxl, rfl, rfl⟩ := h
  unfold e14_a l14
  tm_at "wps"
  refine ⟨hk, CallP.plain (.cons (.str _) .nil) (C.of x hxl hx) fun v Hc hv => ?_⟩
  by_cases hp : pOk x
  · obtain ⟨rfl, rfl⟩ := hv.1 hp
    rw [List.map_cons, List.map_cons, List.map_nil, AV.shifts_eq, AV.shifts_eq, AV.shift_ints, AV.shift_strs]
    exact ⟨_, .cons (.str x) (.cons (frz2 (i := 4) (j := 5) rfl rfl) .nil), C.good x hxl hx hp, _, rfl⟩
  · obtain ⟨rfl, rfl⟩ := hv.2 hp
    exact ⟨_, .cons (.str x) (.cons .none .nil), C.bad x hxl hx hp, _, rfl⟩
theorem e14_b_ok (hk : 0 < l.k) (C : C14 P l sc) {loc : Loc} {H : AH} (h : J14b sc loc H) : wpEs P l (fun _ => False) [e14_b, .const .none] loc H fun vs H' => ∃ vs', Rens [] H' vs vs' ∧ CallS P l 19 vs' true ∧ True := by
  obtain ⟨r, rfl⟩ := h
  unfold e14_b
  tm_at "wps"
  refine ⟨(by decide : 1 ≤ smallN), (by decide : 1 ≤ smallN), (by decide : 6 ≤ smallN), hk, call_cell C.cell (by decide) (by decide) fun c hc hc' => ⟨by decide, ?_⟩⟩
  have m := mod_in c (by decide : (0 : Int) < 6)
  have go : ∀ (v v' : AV) (H' : AH), Ren [] H' v v' → v'.offX = true → isInst .str v' = false → (∀ H, Ren [] H v' v') → ∃ vs', Rens [] H' [v, .none] vs' ∧ CallS P l 19 vs' true ∧ True := fun v v' H' r a b d => ⟨[v', .none], .cons r (.cons .none .nil), C.thing v' a b d, trivial⟩
  refine i_any (vs := [.none, .int 5, .ref H.length, .tup [.str "3"], .dict [] [], .bool true]) (by show (H ++ [_] ++ [_])[(H ++ [_]).length]? = _; exact List.getElem?_concat_length) (show 6 ≤ smallN from by decide) m.1 m.2 fun w hw => ?_
  have t3 : ∀ H, Rens [] H [AV.str "3"] [AV.str "3"] := fun H => .cons (.str _) .nil
  rcases List.mem_cons.mp hw with rfl | hw
  · exact go _ .none _ .none rfl rfl fun _ => .none
  rcases List.mem_cons.mp hw with rfl | hw
  · exact go _ (.int 5) _ (.int 5) rfl rfl fun _ => .int 5
  rcases List.mem_cons.mp hw with rfl | hw
  · exact go _ (.fl [.str "3"]) _ (.frz (fun q => nomatch q) (by rw [List.getElem?_append_left (by rw [List.length_append]; exact Nat.lt_succ_self _)]; exact List.getElem?_concat_length) (t3 _)) rfl rfl fun _ => .fl (t3 _)
  rcases List.mem_cons.mp hw with rfl | hw
  · exact go _ (.tup [.str "3"]) _ (.tup (t3 _)) rfl rfl fun _ => .tup (t3 _)
  rcases List.mem_cons.mp hw with rfl | hw
  · exact go _ (.dict [] []) _ (.dict .nil) rfl rfl fun _ => .dict .nil
  · rw [List.mem_singleton.mp hw]
    exact go _ (.bool true) _ (.bool true) rfl rfl fun _ => .bool true
end

open PySem PyProof.Rows PySem.SeqAt
section
variable {prog : Program} {w : World} {mg mb : Str → Option Value} {consts : List (Str × AV)} {defs : List DefRec} {own : Str → Addr → Option Bool} {sup : Addr} {f : Nat} {ps rest : List Str}
theorem PreIs.of {k : Nat} {cpre : List CS} {Sh : (Str → Option NameKind) → List PySem.Stmt → Prop} (h : f < defs.length) (hs : defOk (defs[f]'h).scope ps rest = true) (hc : allSome (((defs[f]'h).body.take k).map (compS ⟨defs.map (·.name), consts⟩ 40 (kdOf (defs[f]'h)) (ps ++ rest))) = some cpre) (hS : Sh (kdOf (defs[f]'h)) ((defs[f]'h).body.drop k))
    (hb : ∀ xs pm code doc, xs.length = ps.length → bindArgs (Calls.docDef (defs[f]'h).name (defs[f]'h).params (defs[f]'h).body (defs[f]'h).scope pm code doc) ⟨xs, []⟩ = pure (ps.zip xs)) : PreIs ⟨prog, w, mg, mb, ⟨defs.map (·.name), consts⟩, defs, own, sup⟩ f ps rest k cpre Sh :=
  ⟨(defs[f]'h).name, defs[f]'h, 40, by simp [h], by simp [h], hs, hc, hS, hb⟩
end

open PySem PyProof.Rows PySem.SeqAt
noncomputable def defIn (st : PySem.Stmt) : Option DefRec := match st with
  | .FunctionDef n a b _ _ _ sc _ _ pos => some ⟨n, a, b, sc, pos⟩
  | _ => none
noncomputable def defs14 : List DefRec := PySem.Challenge.pw_uf030009_14.main.body.filterMap defIn
noncomputable abbrev co14 : List (Str × AV) := [("MOST_PIECES", .int 30), ("MOST_LENGTH", .int 1000), ("FIGURES", .str "0123456789")]
noncomputable abbrev PC14 (prog : Program) (w : World) (mg mb : Str → Option Value) : PC := ⟨prog, w, mg, mb, ⟨defs14.map (·.name), co14⟩, defs14, own6 mg, adOf mg "FoldError"⟩
section
variable {prog : Program} {w : World} {mg mb : Str → Option Value}
theorem f14_0 : FnIs (PC14 prog w mg mb) 0 ["thing", "least", "most"] [] cs_isnum :=
  FnIs.of3 (by decide +kernel) (by kernel_rfl) (by kernel_rfl) rfl fun a b c pm code doc => by kernel_rfl
theorem f14_1 : FnIs (PC14 prog w mg mb) 1 ["thing"] ["lengths", "marks"] (cs_isstrip 0) :=
  FnIs.of1 (by decide +kernel) (by kernel_rfl) (by kernel_rfl) rfl fun a pm code doc => by kernel_rfl
theorem f14_2 : FnIs (PC14 prog w mg mb) 2 ["mark"] [] cs_letter_of :=
  FnIs.of1 (by decide +kernel) (by kernel_rfl) (by kernel_rfl) rfl fun a pm code doc => by kernel_rfl
theorem f14_3 : FnIs (PC14 prog w mg mb) 3 ["strip"] ["words", "length", "mark"] (cs_written 2) :=
  FnIs.of1 (by decide +kernel) (by kernel_rfl) (by kernel_rfl) rfl fun a pm code doc => by kernel_rfl
theorem f14_4 : FnIs (PC14 prog w mg mb) 4 ["word"] ["sign"] cs_length_of :=
  FnIs.of1 (by decide +kernel) (by kernel_rfl) (by kernel_rfl) rfl fun a pm code doc => by kernel_rfl
theorem f14_5 : FnIs (PC14 prog w mg mb) 5 ["word"] [] cs_mark_of :=
  FnIs.of1 (by decide +kernel) (by kernel_rfl) (by kernel_rfl) rfl fun a pm code doc => by kernel_rfl
theorem f14_6 : FnIs (PC14 prog w mg mb) 6 ["text"] ["words", "strip"] (cs_read 4 5 1) :=
  FnIs.of1 (by decide +kernel) (by kernel_rfl) (by kernel_rfl) rfl fun a pm code doc => by kernel_rfl
theorem f14_7 : FnIs (PC14 prog w mg mb) 7 ["_law_script", "_law_k"] [] cs_cell_at :=
  FnIs.of2 (by decide +kernel) (by kernel_rfl) (by kernel_rfl) rfl fun a b pm code doc => by kernel_rfl
theorem f14_8 : FnIs (PC14 prog w mg mb) 8 ["_law_script", "_law_first", "_law_many"] ["_law_lengths", "_law_marks", "_law_turn", "_law_cell", "_law_mark", "_law_at", "_law_step", "_law_short"] (cs_unfolded 7) :=
  FnIs.of3 (by decide +kernel) (by kernel_rfl) (by kernel_rfl) rfl fun a b c pm code doc => by kernel_rfl
theorem f14_9 : FnIs (PC14 prog w mg mb) 9 ["_law_script"] ["_law_head", "_law_lengths", "_law_marks", "_law_cells", "_law_cell", "_law_more", "_law_at", "_law_found"] (cs_strip 7 8) :=
  FnIs.of1 (by decide +kernel) (by kernel_rfl) (by kernel_rfl) rfl fun a pm code doc => by kernel_rfl
theorem f14_10 : FnIs (PC14 prog w mg mb) 10 ["_law_found"] [] cs_whole :=
  FnIs.of1 (by decide +kernel) (by kernel_rfl) (by kernel_rfl) rfl fun a pm code doc => by kernel_rfl
theorem f14_11 : FnIs (PC14 prog w mg mb) 11 ["_law_found", "_law_due"] [] (cs_is_strip 10) :=
  FnIs.of2 (by decide +kernel) (by kernel_rfl) (by kernel_rfl) rfl fun a b pm code doc => by kernel_rfl
theorem f14_12 : FnIs (PC14 prog w mg mb) 12 ["_law_error", "_law_due"] ["_law_kinds"] cs_sole :=
  FnIs.of2 (by decide +kernel) (by kernel_rfl) (by kernel_rfl) rfl fun a b pm code doc => by kernel_rfl
theorem f14_13 : FnIs (PC14 prog w mg mb) 13 ["_law_strip_here"] ["_law_words", "_law_k"] cs_text :=
  FnIs.of1 (by decide +kernel) (by kernel_rfl) (by kernel_rfl) rfl fun a pm code doc => by kernel_rfl
theorem f14_14 : FnIs (PC14 prog w mg mb) 14 ["_law_word"] ["_law_sign_here"] cs_law_length :=
  FnIs.of1 (by decide +kernel) (by kernel_rfl) (by kernel_rfl) rfl fun a pm code doc => by kernel_rfl
theorem f14_15 : FnIs (PC14 prog w mg mb) 15 ["_law_text_here"] ["_law_words", "_law_lengths", "_law_marks"] (cs_strip_of 14) :=
  FnIs.of1 (by decide +kernel) (by kernel_rfl) (by kernel_rfl) rfl fun a pm code doc => by kernel_rfl
theorem f14_16 : FnIs (PC14 prog w mg mb) 16 ["_law_cell"] ["_law_some"] cs_sign :=
  FnIs.of1 (by decide +kernel) (by kernel_rfl) (by kernel_rfl) rfl fun a pm code doc => by kernel_rfl
theorem f14_17 : FnIs (PC14 prog w mg mb) 17 ["_law_cell"] ["_law_some"] cs_odd :=
  FnIs.of1 (by decide +kernel) (by kernel_rfl) (by kernel_rfl) rfl fun a pm code doc => by kernel_rfl
theorem f14_18 : FnIs (PC14 prog w mg mb) 18 ["_law_text_here", "_law_cell", "_law_more"] ["_law_at", "_law_words", "_law_one", "_law_other", "_law_kept"] (cs_bent 16 17) :=
  FnIs.of3 (by decide +kernel) (by kernel_rfl) (by kernel_rfl) rfl fun a b c pm code doc => by kernel_rfl
theorem f14_19 : FnIs (PC14 prog w mg mb) 19 ["_law_thing", "_law_due"] ["_law_found", "_law_error"] (cs_right 6 11) :=
  FnIs.of2 (by decide +kernel) (by kernel_rfl) (by kernel_rfl) rfl fun a b pm code doc => by kernel_rfl
theorem p14_4a : PreIs (PC14 prog w mg mb) 4 ["word"] ["sign"] 0 [] (ShIf (PC14 prog w mg mb).nt ["word", "sign"] "BadText" hd1) :=
  PreIs.of (by decide +kernel) (by kernel_rfl) (by kernel_rfl) ⟨_, _, _, _, _, _, _, _, _, 40, rfl, by kernel_rfl, by kernel_rfl⟩ (bind1 rfl fun a pm code doc => by kernel_rfl)
theorem p14_4b : PreIs (PC14 prog w mg mb) 4 ["word"] ["sign"] 1 (cs_length_of.take 1) (ShFor (PC14 prog w mg mb).nt ["word", "sign"] "BadText") :=
  PreIs.of (by decide +kernel) (by kernel_rfl) (by kernel_rfl) ⟨_, _, _, _, _, _, _, _, _, _, _, _, _, 40, rfl, by kernel_rfl, by kernel_rfl, by kernel_rfl, by kernel_rfl, by kernel_rfl⟩ (bind1 rfl fun a pm code doc => by kernel_rfl)
theorem p14_5 : PreIs (PC14 prog w mg mb) 5 ["word"] [] 2 (cs_mark_of.take 2) (ShR "BadText") :=
  PreIs.of (by decide +kernel) (by kernel_rfl) (by kernel_rfl) ⟨_, _, _, _, _, _, rfl, by kernel_rfl⟩ (bind1 rfl fun a pm code doc => by kernel_rfl)
theorem p14_6a : PreIs (PC14 prog w mg mb) 6 ["text"] ["words", "strip"] 0 [] (ShIf (PC14 prog w mg mb).nt ["text", "words", "strip"] "BadText" (.not (.isin .str (.var 0)))) :=
  PreIs.of (by decide +kernel) (by kernel_rfl) (by kernel_rfl) ⟨_, _, _, _, _, _, _, _, _, 40, rfl, by kernel_rfl, by kernel_rfl⟩ (bind1 rfl fun a pm code doc => by kernel_rfl)
theorem p14_6b : PreIs (PC14 prog w mg mb) 6 ["text"] ["words", "strip"] 2 ((cs_read 4 5 1).take 2) (ShAsg (PC14 prog w mg mb).nt ["text", "words", "strip"] 4 5 (ev2 .none) (ev2 (.int 1)) (rdC1 4) (rdC2 5)) :=
  PreIs.of (by decide +kernel) (by kernel_rfl) (by kernel_rfl) ⟨_, _, _, _, _, _, _, 40, rfl, ⟨_, _, _, _, _, _, _, _, _, rfl, by kernel_rfl, by kernel_rfl, by kernel_rfl, by kernel_rfl, by kernel_rfl, by kernel_rfl, by kernel_rfl⟩, ⟨_, _, _, _, _, _, _, _, _, rfl, by kernel_rfl, by kernel_rfl, by kernel_rfl, by kernel_rfl, by kernel_rfl, by kernel_rfl, by kernel_rfl⟩, by kernel_rfl, by kernel_rfl⟩ (bind1 rfl fun a pm code doc => by kernel_rfl)
theorem p14_6c : PreIs (PC14 prog w mg mb) 6 ["text"] ["words", "strip"] 3 ((cs_read 4 5 1).take 3) (ShIf (PC14 prog w mg mb).nt ["text", "words", "strip"] "BadText" (.not (.call 1 [.var 2]))) :=
  PreIs.of (by decide +kernel) (by kernel_rfl) (by kernel_rfl) ⟨_, _, _, _, _, _, _, _, _, 40, rfl, by kernel_rfl, by kernel_rfl⟩ (bind1 rfl fun a pm code doc => by kernel_rfl)
theorem bind2 {d : DefRec} {ps : List Str} (hl : ps.length = 2) (hb : ∀ a b pm code doc, bindArgs (Calls.docDef d.name d.params d.body d.scope pm code doc) ⟨[a, b], []⟩ = pure (ps.zip [a, b])) (xs : List Value) (pm : Value) (code : Value) (doc : Value) (e : xs.length = ps.length) :
    bindArgs (Calls.docDef d.name d.params d.body d.scope pm code doc) ⟨xs, []⟩ = pure (ps.zip xs) := by
  rw [hl] at e
  rcases xs with _ | ⟨a, _ | ⟨b, _ | ⟨b9, r⟩⟩⟩
  · cases e
  · cases e
  · exact hb a b pm code doc
  · cases e
theorem t14_19 : Try2Is (PC14 prog w mg mb) 19 ["_law_thing", "_law_due"] ["_law_found", "_law_error"] 6 1 (soleT 12) :=
  ⟨"_law_right", defs14[19]'(by decide +kernel), 40, "_law_error", "_law_due", _, _, "read", _, _, _, _, _, _, _, _, _, by kernel_rfl, List.getElem?_eq_getElem _, by kernel_rfl, rfl, by kernel_rfl, by kernel_rfl, by kernel_rfl, by decide +kernel, rfl, by kernel_rfl, by kernel_rfl, by kernel_rfl, by kernel_rfl, bind2 rfl fun a b pm code doc => by kernel_rfl⟩
end

open PySem PyProof.Rows PySem.SeqAt
section
variable {prog : Program} {w : World} {mg mb : Str → Option Value} {sc : List Int} {h : Heap} {t : Str}
theorem isnum14 {k : Nat} {X : Str → Prop} (hk : 0 < k) : ∀ v, Pl v → CallJ (PC14 prog w mg mb) ⟨k, true⟩ 0 [v, .int 1, .int 1000] (fun r H => r = .bool (isNum 1 1000 v) ∧ H = []) X := fun _ hv => isnum_ok f14_0 rfl rfl hk hv
theorem bt_own (X : Cls6 mg h) : own6 mg "BadText" (adOf mg "BadText") = some true := own6_is X (i := 5) (j := 5) rfl rfl
theorem len14 {k : Nat} (X : Cls6 mg h) (hk : 0 < k) : WordC (PC14 prog w mg mb) ⟨k, true⟩ 4 (adOf mg "BadText") lenOk fun w => .int (lenVal w) where
  good := fun w hw h => length_ok f14_4 rfl rfl hk rfl hw h
  bad := fun w hw hl h => length_bad p14_4a p14_4b rfl rfl hk rfl (bt_own X) (X.at6 _ (by decide)).1 hw hl h
  pure := fun w => int_pure _
theorem mark14 {k : Nat} (X : Cls6 mg h) (hk : 0 < k) : WordC (PC14 prog w mg mb) ⟨k, true⟩ 5 (adOf mg "BadText") isLet fun w => .str (markOf w) where
  good := fun w hw h => mark_ok f14_5 rfl rfl hk hw h
  bad := fun w hw hl h => mark_bad p14_5 rfl rfl hk rfl (bt_own X) (X.at6 _ (by decide)).1 hw h
  pure := fun w => str_pure _
theorem read14 {k : Nat} (X : Cls6 mg h) (hk : 4 < k) (ht : t.length ≤ 90000) (hs : sOk t) (hp : pOk t) : CallJ (PC14 prog w mg mb) ⟨k, true⟩ 6 [.str t] (Gives ((pE t).map lenVal) ((pO t).map markOf)) fun _ => False :=
  read_ok f14_6 rfl rfl (show 1 < k from by omega) rfl ht hp (fun w hw => (len14 X (by show 0 < k - 1; omega)).good w (w_ok ht hs w hw).1 (eOk_of (hp.1 w hw)).1) (fun w hw => (mark14 X (by show 0 < k - 1; omega)).good w (w_ok ht hs w hw).1 (hp.2.1 w hw))
    (isstrip_good f14_1 rfl rfl (show 1 < k - 1 from by omega) rfl (isnum14 (by show 0 < k - 1 - 1; omega)) (pOk_strip hp))
theorem nread14 {k : Nat} (X : Cls6 mg h) (hk : 4 < k) (ht : t.length ≤ 90000) (hs : sOk t) (hp : ¬ pOk t) : CallX (PC14 prog w mg mb) ⟨k, true⟩ 6 [.str t] (adOf mg "BadText") :=
  read_bad p14_6b p14_6c rfl rfl (show 1 < k from by omega) rfl (bt_own X) (X.at6 _ (by decide)).1 ht hs hp (len14 X (by show 0 < k - 1; omega)) (mark14 X (by show 0 < k - 1; omega))
    fun ns ms h1 h2 h3 => isstrip_lists f14_1 rfl rfl (show 1 < k - 1 from by omega) rfl pl_ints (fun v hv => by obtain ⟨m, hm, rfl⟩ := List.mem_map.mp hv; exact mk_ok (h3 m hm)) (by rw [List.length_map]; exact h1) (by rw [List.length_map]; exact h2) rn_ints (fun H v hv => ws_ren v hv H) (isnum14 (by show 0 < k - 1 - 1; omega))
theorem same14 {k : Nat} (hk : 1 < k) {ns : List Int} {ms : List Str} (hS : StripIs 1000 ns ms) : CallJ (PC14 prog w mg mb) ⟨k, true⟩ 11 [.tup [.fl (ns.map AV.int), .fl (ms.map AV.str)], .tup [.fl (ns.map AV.int), .fl (ms.map AV.str)]] (fun v _ => v = .bool true) fun _ => False :=
  is_strip_ok f14_11 rfl rfl hk rfl (fun n => whole_ok f14_10 rfl rfl (by show 0 < k - 1; omega) n) (Nat.le_trans hS.most (by decide)) (by have := hS.len; have := hS.most; omega) fun m hm => mk_ok (hS.marks m hm)
theorem sole14 {k : Nat} {q : Bool} (X : Cls6 mg h) (hk : 0 < k) : CallJ (PC14 prog w mg mb) ⟨k, q⟩ 12 [.exc (adOf mg "BadText"), .str "text"] (fun v _ => v = .bool true) fun _ => False :=
  sole_ok f14_12 rfl rfl hk (b0 := false) (b1 := false) (b2 := false) (b3 := false) (b4 := false) (b5 := true) ⟨own6_is X (i := 0) (j := 5) rfl rfl, own6_is X (i := 1) (j := 5) rfl rfl, own6_is X (i := 2) (j := 5) rfl rfl, own6_is X (i := 3) (j := 5) rfl rfl, own6_is X (i := 4) (j := 5) rfl rfl, own6_is X (i := 5) (j := 5) rfl rfl, own6_ve (j := 5) rfl⟩ (j := 5) rfl rfl rfl (by decide +kernel)
theorem right14 (X : Cls6 mg h) (ht : t.length ≤ 90000) (hs : sOk t) (hp : pOk t) : CallJ (PC14 prog w mg mb) ⟨19, true⟩ 19 [.str t, .tup [.fl (((pE t).map lenVal).map AV.int), .fl (((pO t).map markOf).map AV.str)]] (fun v _ => v = .bool true) fun _ => False :=
  right_ok f14_19 rfl rfl (by decide) (pOk_strip hp) (read14 X (by decide) ht hs hp) (same14 (by decide) (pOk_strip hp))
theorem c14 (X : Cls6 mg h) (hn : sc.length ≤ 63) : C14 (PC14 prog w mg mb) ⟨19, true⟩ sc where
  cell := cell_all f14_7 rfl rfl hn (by decide)
  strip := strip_all f14_7 f14_8 f14_9 rfl rfl rfl rfl rfl rfl hn (by decide)
  written := fun n qs h => written_ok f14_3 rfl rfl (by decide) rfl h fun m hm => letter_ok f14_2 rfl rfl (by decide) (mk_ok hm)
  text := fun n qs h => text_ok f14_13 rfl rfl (by decide) rfl h
  right := fun n qs h => by
    obtain ⟨h1, h2, h3⟩ := wds_read h
    have r := right14 (prog := prog) (w := w) (mb := mb) X (Nat.le_trans (wds_small h).2.2.1 (by decide)) (wds_small h).2.2.2 h1
    rw [h2, h3] at r
    exact r
  bent := fun t c m h1 h2 h3 => bent_ok f14_18 rfl rfl (by decide) rfl h1 h2 h3 (fun c => sign_ok f14_16 rfl rfl (by decide) rfl) fun c => odd_ok f14_17 rfl rfl (by decide)
  of := fun t ht hs => strip_of_ok f14_15 rfl rfl (by decide) rfl ht hs fun w hw hl => (law_length_ok (X := fun _ => False) f14_14 rfl rfl (by decide) rfl hw hl).mono fun _ _ q => q
  good := fun t ht hs hp => CallS.of_J (right14 X ht hs hp)
  bad := fun t ht hs hp => right_bad t14_19 rfl (by decide) X.sup (bt_own X) (fun _ => .str t) (nread14 X (by decide) ht hs hp) (sole14 X (by decide))
  thing := fun v h1 h2 h3 => right_bad t14_19 rfl (by decide) X.sup (bt_own X) h3 (read_thing p14_6a rfl rfl (by decide) rfl (bt_own X) (X.at6 _ (by decide)).1 h1 h2) (sole14 X (by decide))
theorem co14_is {p : Program} (h1 : valOf p "MOST_PIECES" = some (.int 30)) (h2 : valOf p "MOST_LENGTH" = some (.int 1000)) (h3 : valOf p "FIGURES" = some (.str "0123456789")) : ∀ x v, co14.lookup x = some v → ∃ d, valOf p x = some d ∧ avData d = some v := by
  intro x v e
  have := lookup_mem e
  simp only [co14, List.mem_cons, Prod.mk.injEq, List.not_mem_nil, or_false] at this
  rcases this with ⟨rfl, rfl⟩ | ⟨rfl, rfl⟩ | ⟨rfl, rfl⟩
  · exact ⟨_, h1, rfl⟩
  · exact ⟨_, h2, rfl⟩
  · exact ⟨_, h3, rfl⟩
theorem wpSs_app {P : PC} {l : Lv} {Qn : Loc → AH → Prop} {Qr : AV → AH → Prop} {Qx : Str → Loc → AH → Prop} {b : List CS} : ∀ (a : List CS) (loc : Loc) (H : AH), wpSs P l (a ++ b) loc H Qn Qr Qx = wpSs P l a loc H (fun loc' H' => wpSs P l b loc' H' Qn Qr Qx) Qr Qx
  | [], _, _ => rfl
  | c :: a, loc, H => congrArg (fun Q => wpS P l c loc H Q Qr Qx) (funext fun l' => funext fun H' => wpSs_app a l' H')
theorem w14_1 {P : PC} {l : Lv} (hk : 0 < l.k) (hq : l.q = true) (C : C14 P l sc) : wpSs P l (c14_1 ++ c14_2 ++ c14_3) [some (.fl (sc.map AV.int)), none, none, none, none, none] [] (J14 sc) (fun _ _ => False) (fun _ _ _ => False) :=
  by
  rw [wpSs_app, wpSs_app]
  exact c14_1_ok hk hq C fun n qs h => c14_2_ok hk C h (c14_3_ok hk C h)
theorem law14 (X : Cls6 mg h) (hn : sc.length ≤ 63) {A : Around} {s : Shared} {S : Sx} {xs : List Value} {x' : Str} {a : Addr} (hA : Aok ⟨20, true⟩ A) (hfr : A.frames = some []) (hG : GOk (PC14 prog w mg mb) s.heap) (hx : (PC14 prog w mg mb).nt.fns[20]? = some x') (ha : mg x' = some (.ref a)) (hpp : S.prog = prog) (hpw : S.w = w) (hsd : SD S s.heap) (V : VRels S [] s.heap [.fl (sc.map AV.int)] xs) :
    codeAny (model prog w) A (.call (.ref a) ⟨xs, []⟩) (fun r s' => ∃ h' tk, r = .ok (.ret (.bool true)) ∧ s' = { s with heap := h', toks := tk } ∧ Kp s.heap h') s :=
  law_right (P := PC14 prog w mg mb) (l := ⟨20, true⟩) (f := 20) (x := "law") (d := defs14[20]'(by decide +kernel)) (ps := ["_law_script"]) (rest := ["_law_strip_here", "_law_handed", "_law_text_here", "_law_bent_here", "_law_more"]) (n := 40) (b1 := (defs14[20]'(by decide +kernel)).body.take 6) (gi := 19) (g := "_law_right") (c1 := c14_1 ++ c14_2 ++ c14_3) (ca0 := .var 4) (cas := [e14_a]) (ca1 := e14_b) (cas1 := [.const .none]) (J := J14 sc) (J2 := J14b sc) (by kernel_rfl) (List.getElem?_eq_getElem _) (by decide) (bind1 rfl fun a pm code doc => by kernel_rfl) (by kernel_rfl) rfl rfl (by kernel_rfl) (by kernel_rfl) (by kernel_rfl) (by kernel_rfl) (by kernel_rfl)
    (w14_1 (by decide) rfl (c14 X hn)) (fun _ _ h => e14_a_ok (by decide) (c14 X hn) h) (fun _ _ h => e14_b_ok (by decide) (c14 X hn) h) hA hfr hG hx ha hpp hpw hsd V
end
set_option Elab.async false
set_option maxRecDepth 100000
open PySem PySem.W PyProof.Rows
noncomputable def view14 : Program := view PySem.Challenge.pw_uf030009_14 [1, 2, 3, 4, 5, 6, 7, 9, 10, 11, 12, 14, 15, 16, 17, 18, 19, 21, 22, 23, 24, 25, 26, 27, 28, 29, 30, 31, 32, 33, 34]
noncomputable def dl14 : DefRec × List (Str × PySem.Expr) := (defOf view14 "law").get (by kernel_rfl)
theorem op14 : opening PySem.Challenge.pw_uf030009_14 = plainProg PySem.Challenge.pw_uf030009_14.main.scope.names := by kernel_rfl
theorem fe14 (s : Shared) : fenceModules? PySem.Challenge.pw_uf030009_14 s = some s := by kernel_rfl
theorem left14 : LeftO PySem.Challenge.pw_uf030009_14 view14 [] (fun s => recOk [] s && clsT s.heap) (fun _ => ()) (fun _ => ()) 4446 := left_tree op14 (by decide) fe14 fun w os => by kernel_rfl
theorem said14 : PySem.Challenge.rw_uf030009_14.wellSaid = true := said_quick (by kernel_rfl)
end Mine
open PySem PySem.W PyProof.Rows
set_option maxHeartbeats 8000000 in
theorem PySem.Challenge.cw_uf030009_14_holds : PySem.Challenge.rw_uf030009_14.Holds := by
  refine holds_law Mine.said14 fun said => holds_open (q := Mine.view14) (loose := []) (Xt := fun s => recOk [] s && Mine.clsT s.heap) (XP := fun mg h => Mine.Cls6 mg h) (Yf := fun _ => ()) (Ya := fun _ => ()) (YP := fun _ _ => True) (d := Mine.dl14.1) (kwd := Mine.dl14.2) (N := 4446) Mine.left14 (fun _ _ _ => trivial) (fun _ _ _ _ _ => trivial) (fun s e => Mine.Cls6.of (Bool.and_eq_true_iff.mp e).2) (fun mg h h' x k => x.keeps k) (by kernel_rfl) (by kernel_rfl) (by kernel_rfl) (fun s e => recFacts_of (Bool.and_eq_true_iff.mp e).1) (by kernel_rfl) said (by decide +kernel) ⟨rfl, rfl, rfl, rfl, rfl, by decide +kernel⟩ ?hw ?hc
  case hw => w_witness2
  case hc =>
    intro w s₀ s₁ mg mb G Y fa o pm cd doc dV kV ho hd hcd hD hmg hg args vals as hpre hlay hrd hwl hlo
    have X := G.X
    refine Ground.open G ?_
    intro T B D TE TW
    clear hd hD ho hcd
    wrow_args hpre hlay hrd hwl hlo
    have hve := Mine.ve_of T (by decide +kernel)
    have hG := Mine.GOk.of_top (prog := PySem.Challenge.rw_uf030009_14.row.prog) (w := w) (consts := Mine.co14) (own := Mine.own6 mg) (sup := Mine.adOf mg "FoldError") T (defs := Mine.defs14) (by kernel_rfl) (by decide +kernel) (by kernel_rfl) (Mine.co14_is (by kernel_rfl) (by kernel_rfl) (by kernel_rfl)) (Mine.own_of (P := Mine.PC14 PySem.Challenge.rw_uf030009_14.row.prog w mg mb) X hve rfl)
    refine Mine.law_callS (P := Mine.PC14 PySem.Challenge.rw_uf030009_14.row.prog w mg mb) (by assumption) (fun S xs hp hw hsd V hA hfr => Mine.law14 X ?_ hA hfr hG (by kernel_rfl) hmg hp hw hsd V) ?_
    · omega
    intro h' tk k
    exact Mine.law_good (fun _ => rfl) (by kernel_rfl) k rfl hg

