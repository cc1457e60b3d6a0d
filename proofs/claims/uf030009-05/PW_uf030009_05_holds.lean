import PyProof.Rows.All
import Open.Line
import Open.Boot
import Open.FastRun
import Open.FastLooks
import PyProof.ExcArgsOwn
import PyProof.IsInstance
import PyProof.ExcAttrAll.ValueError
import PyProof.Walks
import PyProof.Cells
import PyProof.TupleIter
import PyProof.WalksMore
import PyProof.DictKinds
import PyProof.RangeIter
import PyProof.PureInt
import PyProof.ListOps
import PyProof.TupleOps
import PyProof.Rows.RuleB_floordiv
import PyProof.Rows.RuleB_mod
import PyProof.Rows.RuleB_small
import PyProof.Rows.StrRules
import PyProof.P3Eq
import PyProof.NeData
import PyProof.SliceList
import PyProof.SliceMore
import PyProof.Rows.TupSub
import PyProof.Rows.StrTemp
import PyProof.IsRules
import PyProof.Methods
import PyProof.StrOps
import PyProof.Rows.ListMul
import PyProof.Rows.IntMath
import PyProof.ListIndexNeg
import PyProof.DictRoads
import PyProof.DictStraight
import PyProof.IsiPairs
import PyProof.IsiHeapPairs
import PyProof.IsiNone
import PyProof.Rows.SortWalk
import PyProof.Rows.Range3
import PyProof.TupleOfSeq
import PyProof.ListCopy
import PyProof.ListRange
import PyProof.WalkInts
import PyProof.Rows.MinMaxN
import PyProof.Conv_int_bool
import PyProof.ConsumeWalk
import PyProof.RangeFor
import PyProof.CompFree
import PyProof.Rows.Top
import PyProof.Rows.Exc
import PyProof.Rows.Globals
import PyProof.Rows.TupMore
import PyProof.Rows.Method
import PyProof.DictTable
import PyProof.CallRoads
import KE.KItem
import PyProof.Rows.TupAssign
import PyProof.ForAny
import PyProof.WalksEnum
import PyProof.EnumMake
import PyProof.ZipIter
import OpenK.KLine
import Wide.BridgeG
import Wide.Well
import PyProof.Rows.CatchOwn
import PyProof.ExcClass3
import PyProof.ExcBaseAll.ValueError
import OpenK.KCall
import PySem.Challenge.RW_uf030009_05
set_option linter.all false
set_option maxHeartbeats 4000000
set_option Elab.async false
set_option genSizeOfSpec false
set_option genSizeOf false
set_option bootstrap.genMatcherCode false
set_option compiler.extract_closed false
namespace Mine
open PySem PySem.W PySem.Calls PyProof.Rows

/-- the top's run over a tree of objects -/
noncomputable def runT (p : Program) (w : World) (n₀ : Nat) (ann : Option Value) (N : Nat) : SharedT → Thread → Option SharedT :=
  Nat.rec (motive := fun _ => SharedT → Thread → Option SharedT) (fun _ _ => none) (fun _ ih s t => match through t with
    | true => some s
    | false => match Fast.tw6613529449190102663 n₀ ann t with
      | false => none
      | true => match Fast.tw10156331382660048174 (Fast.tw11892475500146522536 treeTable) p w s t with
        | some (s', t') => ih s' t'
        | none => none) N
theorem runT_of {p : Program} {w : World} {n₀ : Nat} {ann : Option Value} {n : Nat} : ∀ {s r : SharedT} {t : Thread}, runT p w n₀ ann n s t = some r → topRun treeTable p w n₀ ann n s.abs t = some r.abs := by
  induction n with
  | zero => exact fun h => nomatch h
  | succ n ih =>
    intro s r t h
    change (match through t with
      | true => some s
      | false => match Fast.tw6613529449190102663 n₀ ann t with
        | false => none
        | true => match Fast.tw10156331382660048174 (Fast.tw11892475500146522536 treeTable) p w s t with
          | some (s', t') => runT p w n₀ ann n s' t'
          | none => none) = some r at h
    show (match through t with
      | true => some s.abs
      | false => match stepOk n₀ ann t with
        | false => none
        | true => match step (denote treeTable) p w s.abs t with
          | .go s' t' => topRun treeTable p w n₀ ann n s' t'
          | .halt _ _ => none) = some r.abs
    rw [← Fast.te6613529449190102663, ← Fast.te10156331382660048174, ← Fast.te11892475500146522536] at h
    cases ht : through t with
    | true => rw [ht] at h; exact congrArg (Option.map SharedT.abs) h
    | false =>
      rw [ht] at h
      cases hk : stepOk n₀ ann t with
      | false => rw [hk] at h; nomatch h
      | true =>
        rw [hk] at h
        cases hs : stepT (denote treeTable) p w s t with
        | none => rw [hs] at h; nomatch h
        | some q => rw [hs] at h; rw [stepT_spec hs]; exact ih h
noncomputable def bootT (P : Params) (os : OsState) : SharedT := ⟨List.rec (motive := fun _ => Nat → BT → BT) (fun _ t => t) (fun o _ ih n t => ih (n + 1) (t.ins n o)) (boot_heap P).objs.toList 0 .nil, 11, (boot_heap P).life, Array.mk [], boot_drawn, boot_toks, os⟩
theorem bootT_abs (P : Params) (os : OsState) : (bootT P os).abs = ⟨boot_heap P, Array.mk [], boot_drawn, boot_toks, os⟩ := by kernel_rfl
noncomputable def laid {β : Type} (l : List Obj) : (List Obj → β) → β := List.rec (motive := fun _ => (List Obj → β) → β) (fun k => k []) (fun o _ ih k => Obj.rec (fun a b c d => ih fun r => k (⟨a, b, c, d⟩ :: r)) o) l
theorem laid_eq {β : Type} (l : List Obj) : ∀ k : List Obj → β, laid l k = k l := by
  induction l with
  | nil => exact fun _ => rfl
  | cons o l ih => exact fun k => ih _
/-- what the top's end must show -/
noncomputable def endT (p q : Program) (loose : List Str) (Xt : Shared → Bool) (g0 : Bool) (w : World) (s : Shared) := cond (staticsOk (importedModules p.main.body) (boot_heap w.params) s.heap && namesBound p s.heap && gensDone s && laidKept (boot_heap w.params) s.heap) (some (Fast.tw4187177175401517315 q loose (importedModules p.main.body) Xt g0 s)) none
theorem left_tree {p q : Program} {loose : List Str} {Xt : Shared → Bool} {N : Nat} {g0 : Bool}
    (e : opening p = plainProg p.main.scope.names) (hN : Nat.ble 600 N = true) (f : ∀ s, fenceModules? p s = some s)
    (run : ∀ (w : World) (os : OsState), (runT p w 11 ((boot_heap w.params).nsMap mainGlobals "__annotations__") N (bootT w.params os) (topStub p)).bind (fun S => laid (S.tree.list S.n) fun l => endT p q loose Xt g0 w ⟨⟨Array.mk l, S.life⟩, S.gens, S.drawn, S.toks, S.os⟩) = some (openGood q loose)) :
    LeftO p q loose Xt (fun _ => ()) (fun _ => ()) N g0 := fun w => by
  obtain ⟨⟨h, gs, d, k, os⟩, e, e'⟩ := Option.map_eq_some_iff.mp (boot_open e hN f w)
  obtain ⟨rfl, rfl, rfl, rfl⟩ : h = boot_heap w.params ∧ gs = Array.mk [] ∧ d = boot_drawn ∧ k = boot_toks := by simpa using e'
  unfold openEnds
  rw [e]
  obtain ⟨S, hS, r⟩ := Option.bind_eq_some_iff.mp (run w os)
  rw [laid_eq] at r
  have x := runT_of hS
  rw [bootT_abs] at x
  have z : ((boot_heap w.params).isNs mainGlobals && (Array.mk ([] : List GenState)).size == 0) = true := by kernel_rfl
  show (topFrom treeTable p w N _).map _ = _
  unfold topFrom
  rw [z]
  show ((topRun treeTable p w 11 ((boot_heap w.params).nsMap mainGlobals "__annotations__") N ⟨boot_heap w.params, Array.mk [], boot_drawn, boot_toks, os⟩ (topStub p)).bind _).map _ = _
  rw [x, Option.bind_some]
  unfold endT at r
  rw [← Fast.te4187177175401517315] at r
  change cond (staticsOk (importedModules p.main.body) (boot_heap w.params) S.abs.heap && namesBound p S.abs.heap && gensDone S.abs && laidKept (boot_heap w.params) S.abs.heap) (some (openSeen q loose (importedModules p.main.body) Xt g0 S.abs)) none = _ at r
  cases b : staticsOk (importedModules p.main.body) (boot_heap w.params) S.abs.heap && namesBound p S.abs.heap && gensDone S.abs && laidKept (boot_heap w.params) S.abs.heap with
  | false => rw [b] at r; nomatch r
  | true => rw [b] at r; exact congrArg (fun o => o.map fun x => (x, ())) r
theorem said_quick {l : OpenLaw} (h : Fast.tw9446332074065402090 l = true) : l.wellSaid = true := by rw [Fast.te9446332074065402090]; exact h

set_option maxRecDepth 100000
open PySem

noncomputable def veMro : List Value := [.type "ValueError", .type "Exception", .type "BaseException", .type "object"]
noncomputable def qn : List Str := "__class__" :: quietNames

/-- an object that is an exception class -/
noncomputable def IsExc (o : Obj) (C N : Addr) (bm : List Value) : Prop := ∃ nm q bs hdct sn sub ab col dd k0 k1 k2 k3 k5, o = excClassObj nm q C N bs bm hdct sn sub ab col dd k0 k1 k2 k3 k5 "ValueError.__new__"
/-- an own exception class with those above it -/
noncomputable def XObj (h : Heap) (C : Addr) (bm : List Value) : Prop := ∃ o N mN, h.get? C = some o ∧ IsExc o C N bm ∧ h.Ns N mN ∧ ∀ n ∈ qn, mN n = none
theorem XObj.keeps {h h' : Heap} {C : Addr} {bm : List Value} (x : XObj h C bm) (k : ∀ b o, h.get? b = some o → h'.get? b = some o) : XObj h' C bm := by
  obtain ⟨o, N, mN, h1, h2, h3, h4⟩ := x
  exact ⟨o, N, mN, k _ _ h1, h2, h3.keeps k, h4⟩
/-- an own exception class, right under another own one that is a ValueError -/
structure XCls (h : Heap) (C Z : Addr) : Prop where
  obj : XObj h C (.ref Z :: veMro)
  sup : XObj h Z veMro
theorem XCls.keeps {h h' : Heap} {C Z : Addr} (x : XCls h C Z) (k : ∀ b o, h.get? b = some o → h'.get? b = some o) : XCls h' C Z := ⟨x.obj.keeps k, x.sup.keeps k⟩
theorem XCls.tail {h : Heap} {C Z : Addr} (x : XCls h C Z) : OwnTailQ h veMro (.ref Z :: veMro) := by
  obtain ⟨o, N, mN, h1, ⟨_, _, _, _, _, _, _, _, _, _, _, _, _, _, rfl⟩, h2, h3⟩ := x.sup
  exact .own h1 h2 (fun n hn => h3 n (.tail _ hn)) .base

theorem lk_ve_class : typeLookup (.type "ValueError") "__class__" = pure (some (.builtin "object.__class__")) := by rw [typeLookup_type, builtinLookup_eq_fast]; kernel_rfl

section
variable {prog : Program} {w : World} {A : Around} {E : Value → Shared → Prop} {h : Heap} {g : Array GenState} {d : Drawn} {t : Nat} {os : OsState} {a C Z D : Addr} {o : Obj}

theorem isSub_x {M : Model} {base : Value} {Q : Bool → Shared → Prop} (X : XCls h C Z) (hq : Q ((Value.ref C :: .ref Z :: veMro).contains base) ⟨h, g, d, t, os⟩) : wpAny M A (isSubtype (.ref C) base) Q E ⟨h, g, d, t, os⟩ := by
  obtain ⟨o, N, mN, h1, ⟨_, _, _, _, _, _, _, _, _, _, _, _, _, _, rfl⟩, _, _⟩ := X.obj
  exact wpAny_isSubtype_exc h1 hq

theorem lookup_class_x {M : Model} {Q : Option Value → Shared → Prop} (X : XCls h C Z) (hq : Q (some (.builtin "object.__class__")) ⟨h, g, d, t, os⟩) : wpAny M A (typeLookup (.ref C) "__class__") Q E ⟨h, g, d, t, os⟩ := by
  obtain ⟨_, _, _, h1, ⟨_, _, _, _, _, _, _, _, _, _, _, _, _, _, rfl⟩, h2, h3⟩ := X.obj
  obtain ⟨_, _, _, g1, ⟨_, _, _, _, _, _, _, _, _, _, _, _, _, _, rfl⟩, g2, g3⟩ := X.sup
  have hrest : lookupAlong veMro "__class__" = pure (some (.builtin "object.__class__")) := by
    have hB := lk_ve_class
    rw [typeLookup_eq, F.attrBase_ValueError.mro] at hB
    exact hB
  rw [typeLookup_eq]
  refine wpAny_bind (wpAny_mroOf_exc h1 ?_)
  rw [lookupAlong_cons]
  refine wpAny_bind (wpAny_classOwn_exc h1 h2 ?_)
  rw [h3 _ (.head _)]
  show wpAny M A (lookupAlong (.ref Z :: veMro) "__class__") Q E _
  rw [lookupAlong_cons]
  refine wpAny_bind (wpAny_classOwn_exc g1 g2 ?_)
  rw [g3 _ (.head _)]
  show wpAny M A (lookupAlong veMro "__class__") Q E _
  rw [hrest]
  exact wpAny_pure hq

theorem class_get_x {R : Result → Shared → Prop} (X : XCls h C Z) (hx : h.get? a = some o) (hc : o.cls = .ref C) (hq : R (.ok (.ret (.ref C))) ⟨h, g, d, t, os⟩) :
    codeAny (model prog w) A (.call (.builtin "getset_descriptor.__get__") ⟨[.builtin "object.__class__", .ref a, .ref C], []⟩) R ⟨h, g, d, t, os⟩ := by
  have hT5 : (⟨h, g, d, t, os⟩ : Shared).TypeIs (.builtin "object.__class__") "getset_descriptor" := F.typeOf_object_class
  have hcB : (Value.ref C :: .ref Z :: veMro).contains (.type (".".intercalate ("object.__class__".cutAt '.').dropLast)) = true := by
    rw [F.owner_object_class]; rfl
  refine codeAny_call_builtin F.slot_gs_get.plain F.entry_gs_get (F.slot_gs_get.check _ _ _ _ _ _ _ _ hT5 (F.args_gs_get _ _ _) ?_)
  repeat (any_goals (first | assumption | (with_reducible refine wpAny_loadPart_at hx ?_; rw [hc]) | (with_reducible refine isSub_x X ?_; rw [hcB]) | wp_step))
  refine ⟨Code.quiet_builtin _ (by decide +kernel), codeAny_builtin F.entry_object_class ?_⟩
  repeat (any_goals (first | assumption | (with_reducible refine wpAny_loadPart_at hx ?_; rw [hc]) | wp_step))

theorem class_entry_x {tk : Tok} {Q : Fin → Shared → Prop} (X : XCls h C Z) (hx : h.get? a = some o) (hc : o.cls = .ref C) (hq : Q (.done (.ret (.ref C))) ⟨h, g, d, t, os⟩) :
    wpAny (model prog w) A (Builtin.«object.__getattribute__» ⟨[.ref a, .str "__class__" tk], []⟩) Q E ⟨h, g, d, t, os⟩ := by
  have hT5 : (⟨h, g, d, t, os⟩ : Shared).TypeIs (.builtin "object.__class__") "getset_descriptor" := F.typeOf_object_class
  have f5 := F.typeOf_object_class
  have f6 := F.slot_gs_get.lookup
  have f7 := F.slot_gs_set.lookup
  repeat (any_goals (first | assumption | (with_reducible refine wpAny_loadPart_at hx ?_; rw [hc]) | with_reducible refine lookup_class_x X ?_ | wp_step))
  refine class_get_x X hx hc ?_
  repeat (any_goals (first | assumption | wp_step))

theorem class_call_x {tk : Tok} {R : Result → Shared → Prop} (X : XCls h C Z) (hx : h.get? a = some o) (hc : o.cls = .ref C) (hq : R (.ok (.ret (.ref C))) ⟨h, g, d, t, os⟩) :
    codeAny (model prog w) A (.call (.builtin "BaseException.__getattribute__") ⟨[.ref a, .str "__class__" tk], []⟩) R ⟨h, g, d, t, os⟩ := by
  obtain ⟨_, _, _, h1, ⟨_, _, _, _, _, _, _, _, _, _, _, _, _, _, rfl⟩, h2, h3⟩ := X.obj
  exact codeAny_call_builtin F.attrBase_ValueError.ga.plain F.entry_bexc_ga (wpAny_check_ga_own F.attrBase_ValueError h1 X.tail hx hc (class_entry_x X hx hc hq))

theorem class_by_x {tk : Tok} {Q : Value → Shared → Prop} (X : XCls h C Z) (hx : h.get? a = some o) (hc : o.cls = .ref C) (hq : Q (.ref C) ⟨h, g, d, t, os⟩) :
    wpAny (model prog w) A (getAttrBy (.ref a) (.str "__class__" tk) false) Q E ⟨h, g, d, t, os⟩ := by
  obtain ⟨_, _, _, h1, ⟨_, _, _, _, _, _, _, _, _, _, _, _, _, _, rfl⟩, h2, h3⟩ := X.obj
  have T := X.tail
  have h3' : ∀ n ∈ quietNames, _ := fun n hn => h3 n (.tail _ hn)
  have f3 := F.attrBase_ValueError.ga.bind (.ref a)
  have hx0 : (false && onTheHeap (Value.builtin "BaseException.__getattribute__")) = false := rfl
  have hx2 : (Value.builtin "BaseException.__getattribute__" == Value.builtin "object.__getattribute__") = false := by decide +kernel
  have hx1 : (onTheHeap (Value.ref C) && Value.builtin "BaseException.__getattribute__" == Value.builtin "object.__getattribute__") = false := by rw [hx2]; rfl
  have hm1 : ("__getattribute__" : Str) ∈ quietNames := .tail _ (.head _)
  have hm2 : ("__getattr__" : Str) ∈ quietNames := .tail _ (.tail _ (.head _))
  repeat (any_goals (first | assumption | (with_reducible refine wpAny_loadPart_at hx ?_; rw [hc]) | with_reducible refine wpAny_typeLookup_tailQ hm1 h1 h2 h3' T F.attrBase_ValueError.mro F.attrBase_ValueError.ga.lookup ?_ | with_reducible refine wpAny_typeLookup_tailQ hm2 h1 h2 h3' T F.attrBase_ValueError.mro F.attrBase_ValueError.noGetattr ?_ | wp_step))
  refine class_call_x X hx hc ?_
  repeat (any_goals (first | assumption | wp_step))

theorem class_attr_x {Q : Option Value → Shared → Prop} (X : XCls h C Z) (hx : h.get? a = some o) (hc : o.cls = .ref C) (hq : Q (some (.ref C)) ⟨h, g, d, t + 1, os⟩) : wpAny (model prog w) A (getAttr? (.ref a) "__class__") Q E ⟨h, g, d, t, os⟩ := by
  unfold getAttr? getAttrBy?
  repeat (any_goals (first | assumption | with_reducible apply class_by_x X hx hc | wp_step))

/-- isinstance, where the class is the object's own -/
theorem isi_self {Q : Value → Shared → Prop} (hx : h.get? a = some o) (hc : o.cls = .ref C) (hq : Q (.bool true) ⟨h, g, d, t, os⟩) : wpAny (model prog w) A (call (.builtin "isinstance") [.ref a, .ref C]) Q E ⟨h, g, d, t, os⟩ := by
  refine call_function_meets (S := fun _ R s => s = ⟨h, g, d, t, os⟩ ∧ R (.ok (.ret (.bool true))) s) F.kind_isinstance F.plain_isinstance F.entry_isinstance (F.args_isinstance_2 _ _) (fun _ _ _ _ s hs => ?_) ⟨rfl, hq⟩
  obtain ⟨rfl, hs⟩ := hs
  refine isinstance_outer ?_ (by intro e; cases e)
  repeat (any_goals (first | assumption | (with_reducible refine wpAny_loadPart_at hx ?_; rw [hc]) | wp_step))
/-- isinstance, where the class is another of the same sort -/
theorem isi_other {Q : Value → Shared → Prop} (X : XCls h C Z) (Y : XCls h D Z) (hne : C ≠ D) (hnz : Z ≠ D) (hx : h.get? a = some o) (hc : o.cls = .ref C) (hq : Q (.bool false) ⟨h, g, d, t + 1, os⟩) : wpAny (model prog w) A (call (.builtin "isinstance") [.ref a, .ref D]) Q E ⟨h, g, d, t, os⟩ := by
  refine call_function_meets (S := fun _ R s => s = ⟨h, g, d, t, os⟩ ∧ R (.ok (.ret (.bool false))) ⟨h, g, d, t + 1, os⟩) F.kind_isinstance F.plain_isinstance F.entry_isinstance (F.args_isinstance_2 _ _) (fun _ _ _ _ s hs => ?_) ⟨rfl, hq⟩
  obtain ⟨rfl, hs⟩ := hs
  refine isinstance_outer ?_ (by intro e; cases e)
  obtain ⟨_, _, _, y1, ⟨_, _, _, _, _, _, _, _, _, _, _, _, _, _, rfl⟩, _, _⟩ := Y.obj
  obtain ⟨_, _, _, x1, ⟨_, _, _, _, _, _, _, _, _, _, _, _, _, _, rfl⟩, _, _⟩ := X.obj
  have n1 : (Value.ref C == Value.ref D) = false := beq_eq_false_iff_ne.mpr fun q => hne (Value.ref.inj q)
  have n2 : (Value.ref C :: .ref Z :: veMro).contains (.ref D) = false := by
    have e1 : (Value.ref D == Value.ref C) = false := beq_eq_false_iff_ne.mpr fun q => hne (Value.ref.inj q).symm
    have e2 : (Value.ref D == Value.ref Z) = false := beq_eq_false_iff_ne.mpr fun q => hnz (Value.ref.inj q).symm
    rw [List.contains_cons, List.contains_cons, e1, e2]; rfl
  repeat (any_goals (first | assumption | (with_reducible refine wpAny_loadPart_at hx ?_; rw [hc]) | with_reducible refine wpAny_loadPart_at y1 ?_ | with_reducible refine wpAny_loadPart_at x1 ?_ | (with_reducible refine isSub_x X ?_; rw [n2]) | with_reducible apply class_attr_x X hx hc | wp_step))

theorem isi_ve {Q : Value → Shared → Prop} (X : XCls h C Z) (hx : h.get? a = some o) (hc : o.cls = .ref C) (hq : Q (.bool true) ⟨h, g, d, t, os⟩) : wpAny (model prog w) A (call (.builtin "isinstance") [.ref a, .type "ValueError"]) Q E ⟨h, g, d, t, os⟩ := by
  refine call_function_meets (S := fun _ R s => s = ⟨h, g, d, t, os⟩ ∧ R (.ok (.ret (.bool true))) s) F.kind_isinstance F.plain_isinstance F.entry_isinstance (F.args_isinstance_2 _ _) (fun _ _ _ _ s hs => ?_) ⟨rfl, hq⟩
  obtain ⟨rfl, hs⟩ := hs
  refine isinstance_outer ?_ (by intro e; cases e)
  have n1 : (Value.ref C == Value.type "ValueError") = false := rfl
  have n2 : (Value.ref C :: .ref Z :: veMro).contains (.type "ValueError") = true := rfl
  have hty : typeOf (.type "ValueError") = pure (.type "type") := by kernel_rfl
  repeat (any_goals (first | assumption | (with_reducible refine wpAny_loadPart_at hx ?_; rw [hc]) | (with_reducible refine isSub_x X ?_; rw [n2]) | wp_step))

/-- an except clause takes a class by the one above it -/
theorem matches_x {M : Model} {Q : Bool → Shared → Prop} (X : XCls h C Z) (hx : h.get? a = some o) (hc : o.cls = .ref C) (hq : Q true ⟨h, g, d, t, os⟩) : wpAny M A (excMatches (.ref a) (.ref Z)) Q E ⟨h, g, d, t, os⟩ := by
  obtain ⟨_, _, _, g1, ⟨_, _, _, _, _, _, _, _, _, _, _, _, _, _, rfl⟩, _, _⟩ := X.sup
  have hcB : (Value.ref Z :: veMro).contains (.type "BaseException") = true := by rw [List.contains_cons]; rfl
  have hcC : (Value.ref C :: .ref Z :: veMro).contains (.ref Z) = true := by simp
  have f := tc_notTuple
  unfold excMatches
  repeat (first | (with_reducible refine wpAny_loadPart_at hx ?_; rw [hc]) | with_reducible refine wpAny_loadPart_at g1 ?_ | (with_reducible refine wpAny_isSubtype_exc g1 ?_; rw [hcB]) | (with_reducible refine isSub_x X ?_; rw [hcC]) | wp_step)
  exact hq
end

open PySem

inductive AV where
  | none
  | bool (b : Bool)
  | int (i : Int)
  | str (x : Str)
  | tup (vs : List AV)
  | fl (vs : List AV)
  | ref (n : Nat)
  | rng (a b c : Int)
  | dict (ks : List Str) (vs : List AV)
  | exc (c : Addr)
  deriving Inhabited

noncomputable abbrev AH := List (List AV)

/-- the addresses to be left alone, and whose world it is -/
structure Sx where
  ad : List Addr
  prog : Program
  w : World

noncomputable def rngOk (a b c : Int) : Prop := (-1000000 ≤ a ∧ a ≤ 1000000) ∧ (-1000000 ≤ b ∧ b ≤ 1000000) ∧ (1 ≤ c ∧ c ≤ 1000)
/-- a plain tuple -/
noncomputable def PT (h : Heap) (a : Addr) (items : Array Value) : Prop := ∃ n, h.get? a = some { cls := .type "tuple", data := .seq items n }
theorem PT.at {h h' : Heap} {a : Addr} {items : Array Value} (p : PT h a items) (k : ∀ o, h.get? a = some o → h'.get? a = some o) : PT h' a items := let ⟨n, e⟩ := p; ⟨n, k _ e⟩
theorem PT.get {h : Heap} {a : Addr} {items : Array Value} (x : PT h a items) : ∃ o, h.get? a = some o := let ⟨_, ho⟩ := x; ⟨_, ho⟩
theorem PT.isTuple {h : Heap} {a : Addr} {items : Array Value} (x : PT h a items) : h.IsTuple a items := let ⟨n, ho⟩ := x; ⟨_, ho, rfl, n, rfl⟩
theorem PL.get {h : Heap} {a : Addr} {items : Array Value} (x : h.PlainList a items) : ∃ o, h.get? a = some o := let ⟨_, ho⟩ := x; ⟨_, ho⟩
theorem PlainList.at' {h h' : Heap} {a : Addr} {items : Array Value} (p : h.PlainList a items) (k : ∀ o, h.get? a = some o → h'.get? a = some o) : h'.PlainList a items := let ⟨n, e⟩ := p; ⟨n, k _ e⟩
theorem PL.isList {h : Heap} {a : Addr} {items : Array Value} (p : h.PlainList a items) : h.IsList a items := let ⟨n, e⟩ := p; ⟨_, e, rfl, n, rfl⟩

/-- an object of the class at c -/
noncomputable def XI (h : Heap) (a c : Addr) : Prop := ∃ o, h.get? a = some o ∧ o.cls = .ref c
theorem XI.get {h : Heap} {a c : Addr} (x : XI h a c) : ∃ o, h.get? a = some o := let ⟨o, ho, _⟩ := x; ⟨o, ho⟩
theorem XI.at {h h' : Heap} {a c : Addr} (x : XI h a c) (k : ∀ o, h.get? a = some o → h'.get? a = some o) : XI h' a c := let ⟨o, ho, q⟩ := x; ⟨o, k _ ho, q⟩

mutual
inductive VRel (S : Sx) (ρ : List Addr) (h : Heap) : AV → Value → Prop
  | none : VRel S ρ h .none .none
  | bool (b : Bool) : VRel S ρ h (.bool b) (.bool b)
  | int (i : Int) (t : Tok) : VRel S ρ h (.int i) (.int i t)
  | str (x : Str) (t : Tok) : VRel S ρ h (.str x) (.str x t)
  | tup {a : Addr} {items : Array Value} {vs : List AV} : a ∉ ρ → a ∉ S.ad → PT h a items → VRels S ρ h vs items.toList → VRel S ρ h (.tup vs) (.ref a)
  | fl {a : Addr} {items : Array Value} {vs : List AV} : a ∉ ρ → a ∉ S.ad → h.PlainList a items → VRels S ρ h vs items.toList → VRel S ρ h (.fl vs) (.ref a)
  | ref {i : Nat} {a : Addr} : ρ[i]? = some a → VRel S ρ h (.ref i) (.ref a)
  | rng {a : Addr} {i j k : Int} {t u v : Tok} : rngOk i j k → a ∉ ρ → a ∉ S.ad → IsRange h a i j k t u v → VRel S ρ h (.rng i j k) (.ref a)
  | dict {a : Addr} {ks : List Str} {vs : List AV} {xs : List Value} {f : Str → Option Value} : a ∉ ρ → a ∉ S.ad → h.MapOf (strKind S.prog S.w) a f → (∀ k, f k = (ks.zip xs).lookup k) → VRels S ρ h vs xs → VRel S ρ h (.dict ks vs) (.ref a)
  | exc {a c : Addr} : a ∉ ρ → a ∉ S.ad → XI h a c → VRel S ρ h (.exc c) (.ref a)
inductive VRels (S : Sx) (ρ : List Addr) (h : Heap) : List AV → List Value → Prop
  | nil : VRels S ρ h [] []
  | cons {v : AV} {vs : List AV} {x : Value} {xs : List Value} : VRel S ρ h v x → VRels S ρ h vs xs → VRels S ρ h (v :: vs) (x :: xs)
end

theorem VRels.ind {S : Sx} {ρ : List Addr} {h : Heap} {M : List AV → List Value → Prop} (hn : M [] []) (hc : ∀ v vs x xs, VRel S ρ h v x → VRels S ρ h vs xs → M vs xs → M (v :: vs) (x :: xs)) {vs : List AV} {xs : List Value} (V : VRels S ρ h vs xs) : M vs xs :=
  VRels.rec (motive_1 := fun _ _ _ => True) (motive_2 := fun vs xs _ => M vs xs) trivial (fun _ => trivial) (fun _ _ => trivial) (fun _ _ => trivial) (fun _ _ _ _ _ => trivial) (fun _ _ _ _ _ => trivial) (fun _ => trivial) (fun _ _ _ _ => trivial) (fun _ _ _ _ _ _ => trivial) (fun _ _ _ => trivial) hn (fun hv hr _ ih => hc _ _ _ _ hv hr ih) V
theorem MapOf.get {prog : Program} {w : World} {h : Heap} {a : Addr} {f : Str → Option Value} (x : h.MapOf (strKind prog w) a f) : ∃ o, h.get? a = some o := let ⟨o, _, _, e, _⟩ := x; ⟨o, e⟩
theorem MapOf.at {prog : Program} {w : World} {h h' : Heap} {a : Addr} {f : Str → Option Value} (x : h.MapOf (strKind prog w) a f) (k : ∀ o, h.get? a = some o → h'.get? a = some o) : h'.MapOf (strKind prog w) a f :=
  let ⟨o, es, ep, e, r⟩ := x; ⟨o, es, ep, k _ e, r⟩
/-- h' keeps what h has -/
noncomputable def Kp (h h' : Heap) : Prop := ∀ b o, h.get? b = some o → h'.get? b = some o
theorem Kp.refl (h : Heap) : Kp h h := fun _ _ e => e
theorem Kp.trans {h h' h'' : Heap} (x : Kp h h') (y : Kp h' h'') : Kp h h'' := fun b o e => y b o (x b o e)

/-- new addresses -/
noncomputable def Fresh (h : Heap) (e : List Addr) : Prop := ∀ a ∈ e, h.get? a = none

theorem not_mem_app {h : Heap} {a : Addr} {ρ e : List Addr} (ha : a ∉ ρ) (hg : ∃ o, h.get? a = some o) (hf : Fresh h e) : a ∉ ρ ++ e := fun hm => by
  rcases List.mem_append.mp hm with q | q
  · exact ha q
  · obtain ⟨o, ho⟩ := hg
    rw [hf a q] at ho; cases ho

/-- values stay what they are where the objects off ρ are kept -/
theorem VRel.mono {S : Sx} {ρ e : List Addr} {h h' : Heap} (hk : ∀ a o, a ∉ ρ → h.get? a = some o → h'.get? a = some o) (hf : Fresh h e) {v : AV} {x : Value} (V : VRel S ρ h v x) : VRel S (ρ ++ e) h' v x :=
  VRel.rec (motive_1 := fun v x _ => VRel S (ρ ++ e) h' v x) (motive_2 := fun v x _ => VRels S (ρ ++ e) h' v x)
    .none (fun b => .bool b) (fun i t => .int i t) (fun x t => .str x t)
    (fun ha hs hi _ ih => .tup (not_mem_app ha hi.get hf) hs (hi.at fun o ho => hk _ o ha ho) ih)
    (fun ha hs hi _ ih => .fl (not_mem_app ha (PL.get hi) hf) hs (PlainList.at' hi fun o ho => hk _ o ha ho) ih)
    (fun hi => .ref (by rw [List.getElem?_append_left]; exact hi; exact (List.getElem?_eq_some_iff.mp hi).1))
    (fun hr ha hs hi => .rng hr (not_mem_app ha ⟨_, hi⟩ hf) hs (hk _ _ ha hi))
    (fun ha hs hm he _ ih => .dict (not_mem_app ha (MapOf.get hm) hf) hs (MapOf.at hm fun o ho => hk _ o ha ho) he ih)
    (fun ha hs hx => .exc (not_mem_app ha hx.get hf) hs (hx.at fun o ho => hk _ o ha ho))
    .nil (fun _ _ i1 i2 => .cons i1 i2) V
theorem VRels.mono {S : Sx} {ρ e : List Addr} {h h' : Heap} (hk : ∀ a o, a ∉ ρ → h.get? a = some o → h'.get? a = some o) (hf : Fresh h e) {vs : List AV} {xs : List Value} (V : VRels S ρ h vs xs) : VRels S (ρ ++ e) h' vs xs :=
  VRels.ind (M := fun vs xs => VRels S (ρ ++ e) h' vs xs) .nil (fun _ _ _ _ hv _ i2 => .cons (VRel.mono hk hf hv) i2) V
theorem VRel.kp {S : Sx} {ρ e : List Addr} {h h' : Heap} {v : AV} {x : Value} (V : VRel S ρ h v x) (hk : Kp h h') (hf : Fresh h e) : VRel S (ρ ++ e) h' v x := V.mono (fun a o _ q => hk a o q) hf
theorem VRels.kp {S : Sx} {ρ e : List Addr} {h h' : Heap} {v : List AV} {x : List Value} (V : VRels S ρ h v x) (hk : Kp h h') (hf : Fresh h e) : VRels S (ρ ++ e) h' v x := V.mono (fun a o _ q => hk a o q) hf
theorem Fresh.nil (h : Heap) : Fresh h [] := fun _ hm => nomatch hm
theorem VRel.kp0 {S : Sx} {ρ : List Addr} {h h' : Heap} {v : AV} {x : Value} (V : VRel S ρ h v x) (hk : Kp h h') : VRel S ρ h' v x := by simpa using V.kp hk (Fresh.nil h)
theorem VRels.kp0 {S : Sx} {ρ : List Addr} {h h' : Heap} {v : List AV} {x : List Value} (V : VRels S ρ h v x) (hk : Kp h h') : VRels S ρ h' v x := by simpa using V.kp hk (Fresh.nil h)
theorem VRel.off {S : Sx} {ρ : List Addr} {h h' : Heap} {v : AV} {x : Value} (V : VRel S ρ h v x) (hk : ∀ a o, a ∉ ρ → h.get? a = some o → h'.get? a = some o) : VRel S ρ h' v x := by simpa using V.mono hk (Fresh.nil h)
theorem VRels.off {S : Sx} {ρ : List Addr} {h h' : Heap} {v : List AV} {x : List Value} (V : VRels S ρ h v x) (hk : ∀ a o, a ∉ ρ → h.get? a = some o → h'.get? a = some o) : VRels S ρ h' v x := by simpa using V.mono hk (Fresh.nil h)

section
variable {S : Sx} {ρ : List Addr} {h : Heap} {vs ws : List AV} {xs ys : List Value}
theorem VRels.length (V : VRels S ρ h vs xs) : vs.length = xs.length := VRels.ind (M := fun vs xs => vs.length = xs.length) rfl (fun _ _ _ _ _ _ ih => congrArg (· + 1) ih) V
theorem VRels.app (V : VRels S ρ h vs xs) (w : VRels S ρ h ws ys) : VRels S ρ h (vs ++ ws) (xs ++ ys) := VRels.ind (M := fun vs xs => VRels S ρ h (vs ++ ws) (xs ++ ys)) w (fun _ _ _ _ hv _ ih => .cons hv ih) V
theorem VRels.get {i : Nat} {v : AV} (V : VRels S ρ h vs xs) (e : vs[i]? = some v) : ∃ x, xs[i]? = some x ∧ VRel S ρ h v x :=
  VRels.ind (M := fun vs xs => ∀ i, vs[i]? = some v → ∃ x, xs[i]? = some x ∧ VRel S ρ h v x) (fun _ e => by simp at e) (fun _ _ _ _ hv _ ih i e => match i, e with
    | 0, e => ⟨_, rfl, Option.some.inj e ▸ hv⟩
    | i + 1, e => ih i e) V i e
theorem VRels.getR {i : Nat} {x : Value} (V : VRels S ρ h vs xs) (e : xs[i]? = some x) : ∃ v, vs[i]? = some v ∧ VRel S ρ h v x :=
  VRels.ind (M := fun vs xs => ∀ i, xs[i]? = some x → ∃ v, vs[i]? = some v ∧ VRel S ρ h v x) (fun _ e => by simp at e) (fun _ _ _ _ hv _ ih i e => match i, e with
    | 0, e => ⟨_, rfl, Option.some.inj e ▸ hv⟩
    | i + 1, e => ih i e) V i e
theorem VRels.take (n : Nat) (V : VRels S ρ h vs xs) : VRels S ρ h (vs.take n) (xs.take n) := VRels.ind (M := fun vs xs => ∀ n, VRels S ρ h (vs.take n) (xs.take n)) (fun n => by rw [List.take_nil, List.take_nil]; exact .nil) (fun _ _ _ _ hv _ ih n => match n with
    | 0 => .nil
    | n + 1 => .cons hv (ih n)) V n
theorem VRels.drop (n : Nat) (V : VRels S ρ h vs xs) : VRels S ρ h (vs.drop n) (xs.drop n) := VRels.ind (M := fun vs xs => ∀ n, VRels S ρ h (vs.drop n) (xs.drop n)) (fun n => by rw [List.drop_nil, List.drop_nil]; exact .nil) (fun _ _ _ _ hv hr ih n => match n with
    | 0 => .cons hv hr
    | n + 1 => ih n) V n
theorem VRels.set {v : AV} {x : Value} (hv : VRel S ρ h v x) (n : Nat) (V : VRels S ρ h vs xs) : VRels S ρ h (vs.set n v) (xs.set n x) := VRels.ind (M := fun vs xs => ∀ n, VRels S ρ h (vs.set n v) (xs.set n x)) (fun _ => .nil) (fun _ _ _ _ hw hr ih n => match n with
    | 0 => .cons hv hr
    | n + 1 => .cons hw (ih n)) V n
end

noncomputable def opt {α : Type} (o : Option α) (k : α → Prop) : Prop := match o with
  | some a => k a
  | Option.none => False
theorem opt_of {α : Type} {o : Option α} {k : α → Prop} (h : opt o k) : ∃ a, o = some a ∧ k a := by
  cases o with
  | none => exact False.elim h
  | some a => exact ⟨a, rfl, h⟩
@[simp] theorem opt_some {α : Type} (a : α) (k : α → Prop) : opt (some a) k = k a := rfl

/-- the abstract heap -/
structure HSim (S : Sx) (ρ : List Addr) (H : AH) (h : Heap) : Prop where
  len : ρ.length = H.length
  nodup : ρ.Nodup
  off : ∀ a ∈ ρ, a ∉ S.ad
  obj : ∀ (i : Nat) (vs : List AV), H[i]? = some vs → ∃ a items, ρ[i]? = some a ∧ h.PlainList a items ∧ VRels S ρ h vs items.toList

theorem HSim.get {S : Sx} {ρ : List Addr} {H : AH} {h : Heap} (X : HSim S ρ H h) {i : Nat} {vs : List AV} {a : Addr} (hi : H[i]? = some vs) (ha : ρ[i]? = some a) : ∃ items, h.PlainList a items ∧ VRels S ρ h vs items.toList := by
  obtain ⟨a', items, e, p, v⟩ := X.obj i vs hi
  rw [ha] at e; cases e
  exact ⟨items, p, v⟩
theorem HSim.kp {S : Sx} {ρ : List Addr} {H : AH} {h h' : Heap} (X : HSim S ρ H h) (hk : Kp h h') : HSim S ρ H h' where
  len := X.len
  nodup := X.nodup
  off := X.off
  obj := fun i vs e => by
    obtain ⟨a, items, e1, p, v⟩ := X.obj i vs e
    exact ⟨a, items, e1, PlainList.at' p fun o q => hk _ o q, v.kp0 hk⟩
theorem HSim.mem {S : Sx} {ρ : List Addr} {H : AH} {h : Heap} (X : HSim S ρ H h) {a : Addr} (ha : a ∈ ρ) : ∃ o, h.get? a = some o := by
  obtain ⟨i, hi, rfl⟩ := List.mem_iff_getElem.mp ha
  have hi' : i < H.length := by rw [← X.len]; exact hi
  obtain ⟨a', items, e1, ⟨n, p⟩, _⟩ := X.obj i H[i] (by simp [hi'])
  rw [List.getElem?_eq_getElem hi] at e1
  cases e1
  exact ⟨_, p⟩
theorem HSim.mem' {S : Sx} {ρ : List Addr} {H : AH} {h : Heap} (X : HSim S ρ H h) {i : Nat} {a : Addr} (ha : ρ[i]? = some a) : ∃ items, h.PlainList a items ∧ True := by
  obtain ⟨hi, e⟩ := List.getElem?_eq_some_iff.mp ha
  have hi' : i < H.length := by rw [← X.len]; exact hi
  obtain ⟨items, p, _⟩ := X.get (i := i) (vs := H[i]) (by simp [hi']) ha
  exact ⟨items, p, trivial⟩
/-- a new list -/
theorem HSim.push {S : Sx} {ρ : List Addr} {H : AH} {h h' : Heap} {a : Addr} {items : Array Value} {vs : List AV} (X : HSim S ρ H h) (hk : Kp h h') (hn : h.get? a = none) (hS : a ∉ S.ad) (p : h'.PlainList a items) (v : VRels S ρ h vs items.toList)
    : HSim S (ρ ++ [a]) (H ++ [vs]) h' where
  len := by simp [X.len]
  nodup := by
    rw [List.nodup_append]
    refine ⟨X.nodup, by simp, ?_⟩
    intro b hb c hc e
    simp at hc
    obtain ⟨o, ho⟩ := X.mem hb
    rw [e, hc, hn] at ho; cases ho
  off := fun b hb => by
    rcases List.mem_append.mp hb with q | q
    · exact X.off b q
    · simp at q; subst q; exact hS
  obj := fun i ws e => by
    have fr : Fresh h [a] := fun b hb => by simp at hb; subst hb; exact hn
    by_cases hi : i < H.length
    · rw [List.getElem?_append_left hi] at e
      obtain ⟨b, its, e1, p1, v1⟩ := X.obj i ws e
      exact ⟨b, its, by rw [List.getElem?_append_left (by rw [X.len]; exact hi)]; exact e1, PlainList.at' p1 fun o q => hk _ o q, v1.kp hk fr⟩
    · rw [List.getElem?_append_right (Nat.le_of_not_lt hi)] at e
      have : i - H.length = 0 := by
        cases q : i - H.length with
        | zero => rfl
        | succ k => rw [q] at e; simp at e
      rw [this] at e; simp at e; subst e
      refine ⟨a, items, ?_, p, ?_⟩
      · rw [List.getElem?_append_right (by rw [X.len]; exact Nat.le_of_not_lt hi), X.len, this]; rfl
      · exact v.kp hk fr

open PySem

mutual
/-- a value told anew: the lists of φ keep a number, all others are frozen -/
inductive Ren (φ : List Nat) (H : AH) : AV → AV → Prop
  | none : Ren φ H .none .none
  | bool (b : Bool) : Ren φ H (.bool b) (.bool b)
  | int (i : Int) : Ren φ H (.int i) (.int i)
  | str (x : Str) : Ren φ H (.str x) (.str x)
  | tup {vs ws : List AV} : Rens φ H vs ws → Ren φ H (.tup vs) (.tup ws)
  | fl {vs ws : List AV} : Rens φ H vs ws → Ren φ H (.fl vs) (.fl ws)
  | ref {i j : Nat} : φ[i]? = some j → Ren φ H (.ref j) (.ref i)
  | rng (i j k : Int) : Ren φ H (.rng i j k) (.rng i j k)
  | dict {ks : List Str} {vs ws : List AV} : Rens φ H vs ws → Ren φ H (.dict ks vs) (.dict ks ws)
  | exc (c : Addr) : Ren φ H (.exc c) (.exc c)
  | frz {j : Nat} {xs ys : List AV} : j ∉ φ → H[j]? = some xs → Rens φ H xs ys → Ren φ H (.ref j) (.fl ys)
inductive Rens (φ : List Nat) (H : AH) : List AV → List AV → Prop
  | nil : Rens φ H [] []
  | cons {v w : AV} {vs ws : List AV} : Ren φ H v w → Rens φ H vs ws → Rens φ H (v :: vs) (w :: ws)
end
theorem Rens.ind {φ : List Nat} {H : AH} {M : List AV → List AV → Prop} (hn : M [] []) (hc : ∀ v vs w ws, Ren φ H v w → Rens φ H vs ws → M vs ws → M (v :: vs) (w :: ws)) {vs ws : List AV} (r : Rens φ H vs ws) : M vs ws :=
  Rens.rec (motive_1 := fun _ _ _ => True) (motive_2 := fun vs ws _ => M vs ws) trivial (fun _ => trivial) (fun _ => trivial) (fun _ => trivial) (fun _ _ => trivial) (fun _ _ => trivial) (fun _ => trivial) (fun _ _ _ => trivial) (fun _ _ => trivial) (fun _ => trivial) (fun _ _ _ _ => trivial) hn (fun hv hr _ ih => hc _ _ _ _ hv hr ih) r
theorem Rens.app {φ : List Nat} {H : AH} {a b c d : List AV} (x : Rens φ H a b) (y : Rens φ H c d) : Rens φ H (a ++ c) (b ++ d) := Rens.ind (M := fun a b => Rens φ H (a ++ c) (b ++ d)) y (fun _ _ _ _ r _ ih => .cons r ih) x
theorem Rens.length {φ : List Nat} {H : AH} {a b : List AV} (x : Rens φ H a b) : a.length = b.length := Rens.ind (M := fun a b => a.length = b.length) rfl (fun _ _ _ _ _ _ ih => congrArg (· + 1) ih) x
theorem Rens.ofAll {φ : List Nat} {H : AH} {α : Type} {f g : α → AV} : ∀ {l : List α}, (∀ x ∈ l, Ren φ H (f x) (g x)) → Rens φ H (l.map f) (l.map g)
  | [], _ => .nil
  | x :: r, h => .cons (h x (.head _)) (Rens.ofAll fun y hy => h y (.tail _ hy))
theorem Rens.self {φ : List Nat} {H : AH} : ∀ {l : List AV}, (∀ x ∈ l, Ren φ H x x) → Rens φ H l l
  | [], _ => .nil
  | x :: _, h => .cons (h x (.head _)) (Rens.self fun y hy => h y (.tail _ hy))
theorem Rens.ints {φ : List Nat} {H : AH} (l : List Int) : Rens φ H (l.map AV.int) (l.map AV.int) := Rens.ofAll fun x _ => .int x
theorem Rens.strs {φ : List Nat} {H : AH} (l : List Str) : Rens φ H (l.map AV.str) (l.map AV.str) := Rens.ofAll fun x _ => .str x

/-- the addresses of φ -/
noncomputable def pick (ρ : List Addr) (φ : List Nat) : List Addr := φ.filterMap fun j => ρ[j]?
theorem pick_get {ρ : List Addr} : ∀ {φ : List Nat}, (∀ j ∈ φ, j < ρ.length) → ∀ {i j : Nat}, φ[i]? = some j → (pick ρ φ)[i]? = ρ[j]?
  | [], _, _, _, e => by simp at e
  | k :: r, hl, i, j, e => by
    have hk : k < ρ.length := hl k (.head _)
    have e0 : ρ[k]? = some ρ[k] := by simp [hk]
    have ih := @pick_get ρ r (fun x hx => hl x (.tail _ hx))
    unfold pick at ih ⊢
    rw [List.filterMap_cons, e0]
    cases i with
    | zero => simp at e; subst e; simp [hk]
    | succ i => simp at e; simpa using ih e
theorem pick_length {ρ : List Addr} : ∀ {φ : List Nat}, (∀ j ∈ φ, j < ρ.length) → (pick ρ φ).length = φ.length
  | [], _ => rfl
  | k :: r, hl => by
    have hk : k < ρ.length := hl k (.head _)
    have e0 : ρ[k]? = some ρ[k] := by simp [hk]
    have ih := @pick_length ρ r (fun x hx => hl x (.tail _ hx))
    unfold pick at ih ⊢
    rw [List.filterMap_cons, e0]; simp [ih]
theorem pick_mem {ρ : List Addr} {φ : List Nat} {a : Addr} (h : a ∈ pick ρ φ) : ∃ j ∈ φ, ρ[j]? = some a := by
  unfold pick at h
  obtain ⟨j, hj, e⟩ := List.mem_filterMap.mp h
  exact ⟨j, hj, e⟩
theorem nodup_idx {ρ : List Addr} (hn : ρ.Nodup) {i j : Nat} {a : Addr} (hi : ρ[i]? = some a) (hj : ρ[j]? = some a) : i = j := by
  obtain ⟨hi1, hi2⟩ := List.getElem?_eq_some_iff.mp hi
  obtain ⟨hj1, hj2⟩ := List.getElem?_eq_some_iff.mp hj
  have hp := List.pairwise_iff_getElem.mp hn
  rcases Nat.lt_trichotomy i j with q | q | q
  · exact absurd (hi2.trans hj2.symm) (hp i j hi1 hj1 q)
  · exact q
  · exact absurd (hj2.trans hi2.symm) (hp j i hj1 hi1 q)
theorem pick_nodup {ρ : List Addr} (hn : ρ.Nodup) : ∀ {φ : List Nat}, φ.Nodup → (pick ρ φ).Nodup
  | [], _ => by simp [pick]
  | k :: r, h => by
    have ih := @pick_nodup ρ hn r (List.nodup_cons.mp h).2
    unfold pick at ih ⊢
    rw [List.filterMap_cons]
    cases e : ρ[k]? with
    | none => exact ih
    | some a =>
      refine List.nodup_cons.mpr ⟨fun hm => ?_, ih⟩
      obtain ⟨j, hj, e'⟩ := pick_mem (ρ := ρ) (φ := r) hm
      have := nodup_idx hn e e'
      subst this
      exact (List.nodup_cons.mp h).1 hj

section
variable {S : Sx} {ρ : List Addr} {H : AH} {h : Heap} {φ : List Nat} {S' : Sx}
theorem VRels.cons_inv {v : AV} {vs : List AV} {xs : List Value} (V : VRels S ρ h (v :: vs) xs) : ∃ y ys, xs = y :: ys ∧ VRel S ρ h v y ∧ VRels S ρ h vs ys := by cases V with | cons a r => exact ⟨_, _, rfl, a, r⟩
theorem off_pick {a : Addr} (ha : a ∉ ρ) : a ∉ pick ρ φ := fun hm => by
  obtain ⟨j, _, e⟩ := pick_mem hm
  exact ha (List.mem_of_getElem? e)
theorem VRel.ren (hp : S'.prog = S.prog) (hw : S'.w = S.w) (X : HSim S ρ H h) (hS : ∀ a, a ∉ S.ad → (a ∈ ρ → a ∈ S'.ad → False)) (hS2 : ∀ a, a ∉ ρ → a ∉ S.ad → a ∉ S'.ad) (hl : ∀ j ∈ φ, j < ρ.length) {v w : AV} {x : Value} (R : Ren φ H v w) (V : VRel S ρ h v x) : VRel S' (pick ρ φ) h w x :=
  Ren.rec (motive_1 := fun v w _ => ∀ x : Value, VRel S ρ h v x → VRel S' (pick ρ φ) h w x) (motive_2 := fun v w _ => ∀ x : List Value, VRels S ρ h v x → VRels S' (pick ρ φ) h w x)
    (fun _ V => by cases V; exact .none)
    (fun b _ V => by cases V; exact .bool b)
    (fun i _ V => by cases V; exact .int i _)
    (fun x _ V => by cases V; exact .str x _)
    (fun _ ih _ V => by cases V with | tup ha hs hi hv => exact .tup (off_pick ha) (hS2 _ ha hs) hi (ih _ hv))
    (fun _ ih _ V => by cases V with | fl ha hs hi hv => exact .fl (off_pick ha) (hS2 _ ha hs) hi (ih _ hv))
    (fun e _ V => by cases V with | ref hi => exact .ref (by rw [pick_get hl e]; exact hi))
    (fun i j k _ V => by cases V with | rng hr ha hs hi => exact .rng hr (off_pick ha) (hS2 _ ha hs) hi)
    (fun _ ih _ V => by cases V with | dict ha hs hm he hv => exact .dict (off_pick ha) (hS2 _ ha hs) (by rw [hp, hw]; exact hm) he (ih _ hv))
    (fun c _ V => by cases V with | exc ha hs hx => exact .exc (off_pick ha) (hS2 _ ha hs) hx)
    (fun hj e _ ih _ V => by
      cases V with
      | ref hi =>
        obtain ⟨items, p, vr⟩ := X.get e hi
        exact .fl (fun hm => by obtain ⟨k, hk, e'⟩ := pick_mem hm; exact hj (nodup_idx X.nodup hi e' ▸ hk)) (fun hm => hS _ (X.off _ (List.mem_of_getElem? hi)) (List.mem_of_getElem? hi) hm) p (ih _ vr))
    (fun _ V => by cases V; exact .nil)
    (fun _ _ i1 i2 _ V => by obtain ⟨y, ys, rfl, a, r⟩ := V.cons_inv; exact .cons (i1 _ a) (i2 _ r))
    R x V
theorem VRels.ren (hp : S'.prog = S.prog) (hw : S'.w = S.w) (X : HSim S ρ H h) (hS : ∀ a, a ∉ S.ad → (a ∈ ρ → a ∈ S'.ad → False)) (hS2 : ∀ a, a ∉ ρ → a ∉ S.ad → a ∉ S'.ad) (hl : ∀ j ∈ φ, j < ρ.length) {v w : List AV} {x : List Value} (R : Rens φ H v w) (V : VRels S ρ h v x) : VRels S' (pick ρ φ) h w x :=
  Rens.ind (M := fun v w => ∀ x, VRels S ρ h v x → VRels S' (pick ρ φ) h w x) (fun _ V => by cases V; exact .nil) (fun _ _ _ _ r _ ih x V => by obtain ⟨y, ys, rfl, a, b⟩ := V.cons_inv; exact .cons (VRel.ren hp hw X hS hS2 hl r a) (ih _ b)) R x V
end

/-- the heap told anew -/
structure RenH (φ : List Nat) (H H' : AH) : Prop where
  len : φ.length = H'.length
  nodup : φ.Nodup
  dom : ∀ j ∈ φ, j < H.length
  obj : ∀ (i j : Nat) (xs : List AV), φ[i]? = some j → H[j]? = some xs → ∃ ys, H'[i]? = some ys ∧ Rens φ H xs ys

theorem HSim.ren {S : Sx} {ρ : List Addr} {H H' : AH} {h : Heap} {φ : List Nat} (X : HSim S ρ H h) (R : RenH φ H H') : HSim S (pick ρ φ) H' h := by
  have hl : ∀ j ∈ φ, j < ρ.length := fun j hj => by rw [X.len]; exact R.dom j hj
  refine ⟨by rw [pick_length hl, R.len], pick_nodup X.nodup R.nodup, fun a ha => ?_, fun i ws e => ?_⟩
  · obtain ⟨j, _, e⟩ := pick_mem ha
    exact X.off a (List.mem_of_getElem? e)
  · have hi : i < φ.length := by rw [R.len]; exact (List.getElem?_eq_some_iff.mp e).1
    have e1 : φ[i]? = some φ[i] := by simp [hi]
    have hj : φ[i] < H.length := R.dom _ (List.getElem_mem hi)
    have e2 : H[φ[i]]? = some H[φ[i]] := by simp [hj]
    obtain ⟨ys, e3, r⟩ := R.obj i _ _ e1 e2
    rw [e] at e3; cases e3
    obtain ⟨a, items, ea, p, vr⟩ := X.obj _ _ e2
    exact ⟨a, items, by rw [pick_get hl e1]; exact ea, p, VRels.ren rfl rfl X (fun b hb hb1 hb2 => hb hb2) (fun b _ hb => hb) hl r vr⟩
theorem VRel.ren' {S : Sx} {ρ : List Addr} {H : AH} {h : Heap} {φ : List Nat} (X : HSim S ρ H h) (hd : ∀ j ∈ φ, j < H.length) {v w : AV} {x : Value} (r : Ren φ H v w) (V : VRel S ρ h v x) : VRel S (pick ρ φ) h w x :=
  VRel.ren rfl rfl X (fun b hb _ hb2 => hb hb2) (fun b _ hb => hb) (fun j hj => by rw [X.len]; exact hd j hj) r V
/-- frozen for a while -/
theorem VRels.frz {S : Sx} {ρ : List Addr} {H : AH} {h : Heap} (X : HSim S ρ H h) {v w : List AV} {x : List Value} (r : Rens [] H v w) (V : VRels S ρ h v x) : VRels S [] h w x := by
  have := VRels.ren (S := S) (S' := S) (φ := []) rfl rfl X (fun _ h1 _ h2 => h1 h2) (fun _ _ h1 => h1) (fun _ hj => nomatch hj) r V
  simpa [pick] using this
theorem VRel.frz {S : Sx} {ρ : List Addr} {H : AH} {h : Heap} (X : HSim S ρ H h) {v w : AV} {x : Value} (r : Ren [] H v w) (V : VRel S ρ h v x) : VRel S [] h w x := by
  have := VRel.ren (S := S) (S' := S) (φ := []) rfl rfl X (fun _ h1 _ h2 => h1 h2) (fun _ _ h1 => h1) (fun _ hj => nomatch hj) r V
  simpa [pick] using this

mutual
/-- no list that is frozen -/
inductive NoFl : AV → Prop
  | none : NoFl .none
  | bool (b : Bool) : NoFl (.bool b)
  | int (i : Int) : NoFl (.int i)
  | str (x : Str) : NoFl (.str x)
  | ref (n : Nat) : NoFl (.ref n)
  | rng (i j k : Int) : NoFl (.rng i j k)
  | tup {vs : List AV} : NoFls vs → NoFl (.tup vs)
inductive NoFls : List AV → Prop
  | nil : NoFls []
  | cons {v : AV} {vs : List AV} : NoFl v → NoFls vs → NoFls (v :: vs)
end
theorem NoFls.of {l : List AV} (h : ∀ v ∈ l, NoFl v) : NoFls l := by
  induction l with
  | nil => exact .nil
  | cons v r ih => exact .cons (h v (.head _)) (ih fun w hw => h w (.tail _ hw))
theorem NoFls.ints (l : List Int) : NoFls (l.map AV.int) := .of fun v hv => by obtain ⟨i, _, rfl⟩ := List.mem_map.mp hv; exact .int i
theorem NoFls.strs (l : List Str) : NoFls (l.map AV.str) := .of fun v hv => by obtain ⟨i, _, rfl⟩ := List.mem_map.mp hv; exact .str i

mutual
/-- the numbers of a heap behind another one -/
noncomputable def AV.shift (n : Nat) : AV → AV
  | .ref i => .ref (n + i)
  | .tup vs => .tup (AV.shifts n vs)
  | .fl vs => .fl (AV.shifts n vs)
  | .dict ks vs => .dict ks (AV.shifts n vs)
  | v => v
noncomputable def AV.shifts (n : Nat) : List AV → List AV
  | [] => []
  | v :: vs => AV.shift n v :: AV.shifts n vs
end
theorem sh_none (n : Nat) : AV.shift n .none = .none := rfl
theorem sh_bool (n : Nat) (b : Bool) : AV.shift n (.bool b) = .bool b := rfl
theorem sh_int (n : Nat) (b : Int) : AV.shift n (.int b) = .int b := rfl
theorem sh_str (n : Nat) (b : Str) : AV.shift n (.str b) = .str b := rfl
theorem sh_ref (n i : Nat) : AV.shift n (.ref i) = .ref (n + i) := rfl
theorem sh_tup (n : Nat) (vs : List AV) : AV.shift n (.tup vs) = .tup (AV.shifts n vs) := rfl
theorem sh_fl (n : Nat) (vs : List AV) : AV.shift n (.fl vs) = .fl (AV.shifts n vs) := rfl
theorem shs_nil (n : Nat) : AV.shifts n [] = [] := rfl
theorem shs_cons (n : Nat) (v : AV) (vs : List AV) : AV.shifts n (v :: vs) = AV.shift n v :: AV.shifts n vs := rfl
theorem AV.shifts_eq (n : Nat) (l : List AV) : AV.shifts n l = l.map (AV.shift n) := by
  induction l with
  | nil => rfl
  | cons v r ih => simp [shs_cons, ih]
@[simp] theorem AV.shift_int (n : Nat) (i : Int) : AV.shift n (.int i) = .int i := rfl
@[simp] theorem AV.shift_bool (n : Nat) (i : Bool) : AV.shift n (.bool i) = .bool i := rfl
@[simp] theorem AV.shift_str (n : Nat) (i : Str) : AV.shift n (.str i) = .str i := rfl
@[simp] theorem AV.shift_none (n : Nat) : AV.shift n .none = .none := rfl
@[simp] theorem AV.shift_ref (n i : Nat) : AV.shift n (.ref i) = .ref (n + i) := rfl
@[simp] theorem AV.shift_tup (n : Nat) (vs : List AV) : AV.shift n (.tup vs) = .tup (vs.map (AV.shift n)) := by rw [← AV.shifts_eq]; rfl
@[simp] theorem AV.shift_fl (n : Nat) (vs : List AV) : AV.shift n (.fl vs) = .fl (vs.map (AV.shift n)) := by rw [← AV.shifts_eq]; rfl
@[simp] theorem AV.shift_ints (n : Nat) (l : List Int) : (l.map AV.int).map (AV.shift n) = l.map AV.int := by simp
@[simp] theorem AV.shift_strs (n : Nat) (l : List Str) : (l.map AV.str).map (AV.shift n) = l.map AV.str := by simp

/-- what a call gave back, behind the caller's own lists -/
theorem VRel.behind {S : Sx} {ρ ρc : List Addr} {Sc : Sx} {h : Heap} (hp : Sc.prog = S.prog) (hw : Sc.w = S.w) (hA : ∀ a, a ∉ ρc → a ∉ Sc.ad → a ∉ ρ ∧ a ∉ S.ad) (hT : ∀ a items, a ∈ ρ → ¬ PT h a items) (hR : ∀ a items, a ∈ ρ → h.get? a = some items → items.cls = .type "list") {v : AV} {x : Value} (V : VRel Sc ρc h v x) : VRel S (ρ ++ ρc) h (AV.shift ρ.length v) x :=
  VRel.rec (motive_1 := fun v x _ => VRel S (ρ ++ ρc) h (AV.shift ρ.length v) x) (motive_2 := fun v x _ => VRels S (ρ ++ ρc) h (AV.shifts ρ.length v) x)
    (.none)
    (fun b => .bool b)
    (fun i t => .int i t)
    (fun x t => .str x t)
    (fun ha hs hi hv ih => .tup (fun hm => (List.mem_append.mp hm).elim (fun q => hT _ _ q hi) ha) (hA _ ha hs).2 hi ih)
    (fun ha hs hi hv ih => .fl (fun hm => (List.mem_append.mp hm).elim (hA _ ha hs).1 ha) (hA _ ha hs).2 hi ih)
    (fun hi => .ref (by rw [List.getElem?_append_right (Nat.le_add_right _ _), Nat.add_sub_cancel_left]; exact hi))
    (fun hr ha hs hi => .rng hr (fun hm => (List.mem_append.mp hm).elim (fun q => by have := hR _ _ q hi; simp at this) ha) (hA _ ha hs).2 hi)
    (fun ha hs hm he hv ih => .dict (fun hm => (List.mem_append.mp hm).elim (hA _ ha hs).1 ha) (hA _ ha hs).2 (by rw [← hp, ← hw]; exact hm) he ih)
    (fun ha hs hx => .exc (fun hm => (List.mem_append.mp hm).elim (hA _ ha hs).1 ha) (hA _ ha hs).2 hx)
    .nil (fun _ _ i1 i2 => .cons i1 i2) V
theorem VRels.behind {S : Sx} {ρ ρc : List Addr} {Sc : Sx} {h : Heap} (hp : Sc.prog = S.prog) (hw : Sc.w = S.w) (hA : ∀ a, a ∉ ρc → a ∉ Sc.ad → a ∉ ρ ∧ a ∉ S.ad) (hT : ∀ a items, a ∈ ρ → ¬ PT h a items) (hR : ∀ a items, a ∈ ρ → h.get? a = some items → items.cls = .type "list") {v : List AV} {x : List Value} (V : VRels Sc ρc h v x) : VRels S (ρ ++ ρc) h (AV.shifts ρ.length v) x :=
  VRels.ind (M := fun v x => VRels S (ρ ++ ρc) h (AV.shifts ρ.length v) x) .nil (fun _ _ _ _ v _ i2 => .cons (VRel.behind hp hw hA hT hR v) i2) V
theorem NoFl.tup_inv {vs : List AV} (h : NoFl (.tup vs)) : NoFls vs := by cases h; assumption
theorem NoFl.fl_inv {vs : List AV} (h : NoFl (.fl vs)) : False := by cases h
theorem NoFl.dict_inv {ks : List Str} {vs : List AV} (h : NoFl (.dict ks vs)) : False := by cases h
theorem NoFls.cons_inv {v : AV} {vs : List AV} (h : NoFls (v :: vs)) : NoFl v ∧ NoFls vs := by cases h; constructor <;> assumption
theorem VRel.behindN {S : Sx} {ρ ρc : List Addr} {h : Heap} (hT : ∀ a items, a ∈ ρ → ¬ PT h a items) (hR : ∀ a items, a ∈ ρ → h.get? a = some items → items.cls = .type "list") {v : AV} {x : Value} (V : VRel S ρc h v x) : NoFl v → VRel S (ρ ++ ρc) h (AV.shift ρ.length v) x :=
  VRel.rec (motive_1 := fun v x _ => NoFl v → VRel S (ρ ++ ρc) h (AV.shift ρ.length v) x) (motive_2 := fun v x _ => NoFls v → VRels S (ρ ++ ρc) h (AV.shifts ρ.length v) x)
    (fun _ => .none)
    (fun b _ => .bool b)
    (fun i t _ => .int i t)
    (fun x t _ => .str x t)
    (fun ha hs hi hv ih n => .tup (fun hm => (List.mem_append.mp hm).elim (fun q => hT _ _ q hi) ha) hs hi (ih n.tup_inv))
    (fun _ _ _ _ ih n => n.fl_inv.elim)
    (fun hi _ => .ref (by rw [List.getElem?_append_right (Nat.le_add_right _ _), Nat.add_sub_cancel_left]; exact hi))
    (fun hr ha hs hi _ => .rng hr (fun hm => (List.mem_append.mp hm).elim (fun q => by have := hR _ _ q hi; simp at this) ha) hs hi)
    (fun _ _ _ _ _ ih n => n.dict_inv.elim)
    (fun _ _ _ n => by cases n)
    (fun _ => .nil) (fun v r i1 i2 n => .cons (i1 n.cons_inv.1) (i2 n.cons_inv.2)) V
theorem VRels.behindN {S : Sx} {ρ ρc : List Addr} {h : Heap} (hT : ∀ a items, a ∈ ρ → ¬ PT h a items) (hR : ∀ a items, a ∈ ρ → h.get? a = some items → items.cls = .type "list") {v : List AV} {x : List Value} (V : VRels S ρc h v x) : NoFls v → VRels S (ρ ++ ρc) h (AV.shifts ρ.length v) x :=
  VRels.ind (M := fun v x => NoFls v → VRels S (ρ ++ ρc) h (AV.shifts ρ.length v) x) (fun _ => .nil) (fun _ _ _ _ v _ i2 n => .cons (VRel.behindN hT hR v n.cons_inv.1) (i2 n.cons_inv.2)) V
theorem HSim.noTuple {S : Sx} {ρ : List Addr} {H : AH} {h : Heap} (X : HSim S ρ H h) : ∀ a items, a ∈ ρ → ¬ PT h a items := fun a items hm ht => by
  obtain ⟨i, hi, rfl⟩ := List.mem_iff_getElem.mp hm
  have hi' : i < H.length := by rw [← X.len]; exact hi
  obtain ⟨a', its, e1, ⟨n, p⟩, _⟩ := X.obj i H[i] (by simp [hi'])
  rw [List.getElem?_eq_getElem hi] at e1
  cases e1
  obtain ⟨m, ho⟩ := ht
  rw [p] at ho
  simp at ho
theorem HSim.listCls {S : Sx} {ρ : List Addr} {H : AH} {h : Heap} (X : HSim S ρ H h) : ∀ a o, a ∈ ρ → h.get? a = some o → o.cls = .type "list" := fun a o hm ht => by
  obtain ⟨i, hi, rfl⟩ := List.mem_iff_getElem.mp hm
  have hi' : i < H.length := by rw [← X.len]; exact hi
  obtain ⟨a', its, e1, ⟨n, p⟩, _⟩ := X.obj i H[i] (by simp [hi'])
  rw [List.getElem?_eq_getElem hi] at e1
  cases e1
  rw [p] at ht; cases ht; rfl
/-- two heaps, one behind the other -/
theorem HSim.behind {S : Sx} {ρ : List Addr} {Sc : Sx} {ρc : List Addr} {H Hc : AH} {h h' : Heap} (X : HSim S ρ H h) (hk : Kp h h') (hf : Fresh h ρc) (hdom : ∀ a ∈ S.ad, ∃ o, h.get? a = some o) (hp : Sc.prog = S.prog) (hw : Sc.w = S.w) (Y : HSim Sc ρc Hc h')
    (hV : (∀ a, a ∉ ρc → a ∉ Sc.ad → a ∉ ρ ∧ a ∉ S.ad) ∨ (Sc = S ∧ ∀ xs ∈ Hc, NoFls xs)) : HSim S (ρ ++ ρc) (H ++ Hc.map (AV.shifts H.length)) h' := by
  refine ⟨by simp [X.len, Y.len], ?_, fun a ha => ?_, fun i ws e => ?_⟩
  · rw [List.nodup_append]
    refine ⟨X.nodup, Y.nodup, fun a ha b hb e => ?_⟩
    obtain ⟨o, ho⟩ := X.mem ha
    rw [e, hf b hb] at ho; cases ho
  · rcases List.mem_append.mp ha with q | q
    · exact X.off a q
    · intro hS
      obtain ⟨o, ho⟩ := hdom a hS
      rw [hf a q] at ho; cases ho
  · by_cases hi : i < H.length
    · rw [List.getElem?_append_left hi] at e
      obtain ⟨b, its, e1, p1, v1⟩ := X.obj i ws e
      exact ⟨b, its, by rw [List.getElem?_append_left (by rw [X.len]; exact hi)]; exact e1, PlainList.at' p1 fun o q => hk _ o q, v1.kp hk hf⟩
    · rw [List.getElem?_append_right (Nat.le_of_not_lt hi), List.getElem?_map] at e
      cases e0 : Hc[i - H.length]? with
      | none => rw [e0] at e; cases e
      | some xs =>
        rw [e0] at e; cases e
        obtain ⟨b, its, e1, p1, v1⟩ := Y.obj _ xs e0
        refine ⟨b, its, ?_, p1, ?_⟩
        · rw [List.getElem?_append_right (by rw [X.len]; exact Nat.le_of_not_lt hi), X.len]; exact e1
        · rw [← X.len]
          rcases hV with hV | hV
          · exact VRels.behind hp hw hV (X.kp hk).noTuple (X.kp hk).listCls v1
          · obtain ⟨rfl, hV⟩ := hV
            exact VRels.behindN (X.kp hk).noTuple (X.kp hk).listCls v1 (hV xs (List.mem_of_getElem? e0))

open PySem PyProof.Rows

/-- what an expression leaves -/
noncomputable def EP (S : Sx) (ρ : List Addr) (H : AH) (s : Shared) (Q : AV → AH → Prop) (x : Value) (s' : Shared) : Prop :=
  ∃ h' tk e v G, s' = { s with heap := h', toks := tk } ∧ Kp s.heap h' ∧ Fresh s.heap e ∧ HSim S (ρ ++ e) (H ++ G) h' ∧ VRel S (ρ ++ e) h' v x ∧ Q v (H ++ G)
/-- the protected addresses are there -/
noncomputable def SD (S : Sx) (h : Heap) : Prop := ∀ a ∈ S.ad, ∃ o, h.get? a = some o
theorem SD.kp {S : Sx} {h h' : Heap} (x : SD S h) (k : Kp h h') : SD S h' := fun a ha => let ⟨o, ho⟩ := x a ha; ⟨o, k _ _ ho⟩

section
variable {S : Sx} {ρ : List Addr} {H : AH} {s : Shared} {Q : AV → AH → Prop} {x : Value} {v : AV}
theorem EP.val (X : HSim S ρ H s.heap) (V : VRel S ρ s.heap v x) (q : Q v H) (tk : Nat) : EP S ρ H s Q x { s with toks := tk } :=
  ⟨s.heap, tk, [], v, [], rfl, Kp.refl _, Fresh.nil _, by simpa using X, by simpa using V, by simpa using q⟩
theorem EP.val0 (X : HSim S ρ H s.heap) (V : VRel S ρ s.heap v x) (q : Q v H) : EP S ρ H s Q x s := EP.val X V q s.toks
theorem EP.grow {h' : Heap} {tk : Nat} (X : HSim S ρ H s.heap) (hk : Kp s.heap h') (V : VRel S ρ h' v x) (q : Q v H) : EP S ρ H s Q x { s with heap := h', toks := tk } :=
  ⟨h', tk, [], v, [], rfl, hk, Fresh.nil _, by simpa using X.kp hk, by simpa using V, by simpa using q⟩
theorem EP.newL {h' : Heap} {tk : Nat} {a : Addr} {items : Array Value} {vs : List AV} (X : HSim S ρ H s.heap) (D : SD S s.heap) (hk : Kp s.heap h') (hn : s.heap.get? a = none) (p : h'.PlainList a items) (V : VRels S ρ s.heap vs items.toList)
    (q : Q (.ref H.length) (H ++ [vs])) : EP S ρ H s Q (.ref a) { s with heap := h', toks := tk } := by
  have fr : Fresh s.heap [a] := fun b hb => by simp at hb; subst hb; exact hn
  refine ⟨h', tk, [a], .ref H.length, [vs], rfl, hk, fr, X.push hk hn (fun hm => ?_) p V, .ref ?_, q⟩
  · obtain ⟨o, ho⟩ := D a hm; rw [hn] at ho; cases ho
  · rw [← X.len]; simp
theorem EP.newT {h' : Heap} {tk : Nat} {a : Addr} {items : Array Value} {vs : List AV} (X : HSim S ρ H s.heap) (D : SD S s.heap) (hk : Kp s.heap h') (hn : s.heap.get? a = none) (p : PT h' a items) (V : VRels S ρ s.heap vs items.toList)
    (q : Q (.tup vs) H) : EP S ρ H s Q (.ref a) { s with heap := h', toks := tk } :=
  EP.grow X hk (.tup (fun hm => by obtain ⟨o, ho⟩ := X.mem hm; rw [hn] at ho; cases ho) (fun hm => by obtain ⟨o, ho⟩ := D a hm; rw [hn] at ho; cases ho) p (V.kp0 hk)) q
/-- behind a first step -/
theorem EP.after {h₁ : Heap} {tk₁ : Nat} {e : List Addr} {G : AH} {s₂ : Shared} (hk : Kp s.heap h₁) (hf : Fresh s.heap e)
    (h : EP S (ρ ++ e) (H ++ G) { s with heap := h₁, toks := tk₁ } Q x s₂) : EP S ρ H s Q x s₂ := by
  obtain ⟨h', tk, e', v, G', rfl, k', f', X', V', q'⟩ := h
  refine ⟨h', tk, e ++ e', v, G ++ G', rfl, hk.trans k', ?_, by simpa [List.append_assoc] using X', by simpa [List.append_assoc] using V', by simpa [List.append_assoc] using q'⟩
  intro a ha
  rcases List.mem_append.mp ha with q | q
  · exact hf a q
  · cases q0 : s.heap.get? a with
    | none => rfl
    | some o => have := f' a q; rw [hk a o q0] at this; cases this
theorem push_kp (h : Heap) (o : Obj) : Kp h (h.push o) := fun _ _ e => Heap.get?_push_of_some o e
theorem size_none (h : Heap) : h.get? h.objs.size = none := by
  cases q : h.get? h.objs.size with
  | none => rfl
  | some o => exact absurd (Heap.lt_size q) (Nat.lt_irrefl _)
theorem EP.pushL {items : Array Value} {vs : List AV} (X : HSim S ρ H s.heap) (D : SD S s.heap) (V : VRels S ρ s.heap vs items.toList) (q : Q (.ref H.length) (H ++ [vs])) (tk : Nat) :
    EP S ρ H s Q (.ref s.heap.objs.size) { s with heap := s.heap.push { cls := .type "list", data := .seq items }, toks := tk } :=
  EP.newL X D (push_kp _ _) (size_none _) ⟨0, Heap.get?_push_size _ rfl⟩ V q
theorem EP.pushT {items : Array Value} {vs : List AV} (X : HSim S ρ H s.heap) (D : SD S s.heap) (V : VRels S ρ s.heap vs items.toList) (q : Q (.tup vs) H) (tk : Nat) :
    EP S ρ H s Q (.ref s.heap.objs.size) { s with heap := s.heap.push { cls := .type "tuple", data := .seq items }, toks := tk } :=
  EP.newT X D (push_kp _ _) (size_none _) ⟨0, Heap.get?_push_size _ rfl⟩ V q
end

/-- a list's items -/
noncomputable def AV.items? (H : AH) : AV → Option (List AV)
  | .fl vs => some vs
  | .ref n => H[n]?
  | _ => Option.none
theorem items_real {S : Sx} {ρ : List Addr} {H : AH} {h : Heap} {v : AV} {x : Value} {vs : List AV} (X : HSim S ρ H h) (V : VRel S ρ h v x) (e : v.items? H = some vs) : ∃ a items, x = .ref a ∧ h.PlainList a items ∧ VRels S ρ h vs items.toList := by
  cases V with
  | fl ha hs hi hv => simp [AV.items?] at e; subst e; exact ⟨_, _, rfl, hi, hv⟩
  | ref hi => simp [AV.items?] at e; obtain ⟨items, p, w⟩ := X.get e hi; exact ⟨_, _, rfl, p, w⟩
  | _ => simp [AV.items?] at e

noncomputable def smallN : Nat := 100000

/-- a binary operator -/
theorem VRels.of0 {S : Sx} {ρ : List Addr} {h : Heap} {xs : List Value} (V : VRels S ρ h [] xs) : xs = [] := by cases V; rfl
theorem VRels.of1 {S : Sx} {ρ : List Addr} {h : Heap} {v : AV} {xs : List Value} (V : VRels S ρ h [v] xs) : ∃ y, xs = [y] ∧ VRel S ρ h v y := by
  cases V with | cons a r => cases r; exact ⟨_, rfl, a⟩
theorem VRels.of2 {S : Sx} {ρ : List Addr} {h : Heap} {u v : AV} {xs : List Value} (V : VRels S ρ h [u, v] xs) : ∃ y z, xs = [y, z] ∧ VRel S ρ h u y ∧ VRel S ρ h v z := by
  cases V with | cons a r => obtain ⟨z, rfl, b⟩ := r.of1; exact ⟨_, z, rfl, a, b⟩
theorem VRels.of3 {S : Sx} {ρ : List Addr} {h : Heap} {u v w : AV} {xs : List Value} (V : VRels S ρ h [u, v, w] xs) : ∃ y z q, xs = [y, z, q] ∧ VRel S ρ h u y ∧ VRel S ρ h v z ∧ VRel S ρ h w q := by
  cases V with | cons a r => obtain ⟨z, q, rfl, b⟩ := r.of2; exact ⟨_, z, q, rfl, a, b⟩
theorem VRel.ofInt {S : Sx} {ρ : List Addr} {h : Heap} {i : Int} {x : Value} (V : VRel S ρ h (.int i) x) : ∃ t, x = .int i t := by cases V; exact ⟨_, rfl⟩
theorem VRel.ofStr {S : Sx} {ρ : List Addr} {h : Heap} {i : Str} {x : Value} (V : VRel S ρ h (.str i) x) : ∃ t, x = .str i t := by cases V; exact ⟨_, rfl⟩
theorem VRel.ofBool {S : Sx} {ρ : List Addr} {h : Heap} {i : Bool} {x : Value} (V : VRel S ρ h (.bool i) x) : x = .bool i := by cases V; rfl
/-- two ints -/
noncomputable def onInts (a b : AV) (k : Int → Int → Prop) : Prop := match a with
  | .int i => (match b with
    | .int j => k i j
    | _ => False)
  | _ => False
theorem onInts_of {a b : AV} {k : Int → Int → Prop} (h : onInts a b k) : ∃ i j, a = .int i ∧ b = .int j ∧ k i j := by
  cases a <;> first | (exact False.elim h) | skip
  cases b <;> first | (exact False.elim h) | skip
  exact ⟨_, _, rfl, rfl, h⟩
noncomputable def catOf (a b : AV) (H : AH) (Q : AV → AH → Prop) : Prop := opt (a.items? H) fun xs => opt (b.items? H) fun ys => xs.length + ys.length ≤ smallN ∧ Q (.ref H.length) (H ++ [xs ++ ys])
noncomputable def addOf (a b : AV) (H : AH) (Q : AV → AH → Prop) : Prop := match a with
  | .int i => (match b with
    | .int j => Q (.int (i + j)) H
    | _ => False)
  | .str x => (match b with
    | .str y => x.length + y.length ≤ smallN ∧ Q (.str (x ++ y)) H
    | _ => False)
  | a => catOf a b H Q
theorem addOf_of {a b : AV} {H : AH} {Q : AV → AH → Prop} (h : addOf a b H Q) : (∃ i j, a = .int i ∧ b = .int j ∧ Q (.int (i + j)) H) ∨ (∃ x y, a = .str x ∧ b = .str y ∧ x.length + y.length ≤ smallN ∧ Q (.str (x ++ y)) H) ∨ ∃ xs ys, a.items? H = some xs ∧ b.items? H = some ys ∧ xs.length + ys.length ≤ smallN ∧ Q (.ref H.length) (H ++ [xs ++ ys]) := by
  have cat : catOf a b H Q → ∃ xs ys, a.items? H = some xs ∧ b.items? H = some ys ∧ xs.length + ys.length ≤ smallN ∧ Q (.ref H.length) (H ++ [xs ++ ys]) := fun h => let ⟨xs, e, h⟩ := opt_of h; let ⟨ys, e', h⟩ := opt_of h; ⟨xs, ys, e, e', h⟩
  cases a with
  | int i => cases b <;> first | (exact False.elim h) | exact .inl ⟨_, _, rfl, rfl, h⟩
  | str x => cases b <;> first | (exact False.elim h) | exact .inr (.inl ⟨_, _, rfl, rfl, h⟩)
  | _ => exact .inr (.inr (cat h))
noncomputable def mulOf (a b : AV) (H : AH) (Q : AV → AH → Prop) : Prop := match b with
  | .int j => (match a with
    | .int i => (j.natAbs < 2 ^ 60 ∨ i.natAbs < 2 ^ 60) ∧ Q (.int (i * j)) H
    | a => opt (a.items? H) fun xs => (0 ≤ j ∧ xs.length * j.toNat ≤ smallN ∧ j ≤ smallN) ∧ Q (.ref H.length) (H ++ [(List.replicate j.toNat xs).flatten]))
  | _ => False
theorem mulOf_of {a b : AV} {H : AH} {Q : AV → AH → Prop} (h : mulOf a b H Q) : ∃ j, b = .int j ∧ ((∃ i, a = .int i ∧ (j.natAbs < 2 ^ 60 ∨ i.natAbs < 2 ^ 60) ∧ Q (.int (i * j)) H) ∨ ∃ xs, a.items? H = some xs ∧ (0 ≤ j ∧ xs.length * j.toNat ≤ smallN ∧ j ≤ smallN) ∧ Q (.ref H.length) (H ++ [(List.replicate j.toNat xs).flatten])) := by
  cases b <;> first | (exact False.elim h) | skip
  refine ⟨_, rfl, ?_⟩
  cases a with
  | int i => exact .inl ⟨i, rfl, h⟩
  | _ => exact .inr (opt_of h)
noncomputable def opBin (op : Operator) (a b : AV) (H : AH) (Q : AV → AH → Prop) : Prop :=
  match op with
  | .Add => addOf a b H Q
  | .Sub => onInts a b fun i j => Q (.int (i - j)) H
  | .Mult => mulOf a b H Q
  | .FloorDiv => onInts a b fun i j => (0 < j ∧ j < 1000000000) ∧ Q (.int (i / j)) H
  | .Mod => onInts a b fun i j => 0 < j ∧ Q (.int (i % j)) H
  | .Pow => onInts a b fun i j => (0 ≤ j ∧ j ≤ 1000 ∧ i.natAbs < 1000) ∧ Q (.int (i ^ j.toNat)) H
  | _ => False

theorem fdiv_pos {i j : Int} (h : 0 < j) : i.fdiv j = i / j := Int.fdiv_eq_ediv_of_nonneg i (Int.le_of_lt h)
theorem fmod_pos {i j : Int} (h : 0 < j) : i.fmod j = i % j := Int.fmod_eq_emod_of_nonneg i (Int.le_of_lt h)
theorem foldl_flat (l : List (Array Value)) (acc : Array Value) : (List.foldl (fun x1 x2 => x1 ++ x2) acc l).toList = acc.toList ++ (l.map Array.toList).flatten := by
  induction l generalizing acc with
  | nil => simp
  | cons x r ih => simp [ih]
theorem VRels.rep {S : Sx} {ρ : List Addr} {h : Heap} {vs : List AV} {xs : List Value} (V : VRels S ρ h vs xs) : ∀ n, VRels S ρ h (List.replicate n vs).flatten (List.replicate n xs).flatten
  | 0 => by simpa using VRels.nil
  | n + 1 => by simpa [List.replicate_succ] using V.app (V.rep n)

section
variable {prog : Program} {w : World} {A : Around} {E : Value → Shared → Prop} {s : Shared} {S : Sx} {ρ : List Addr} {H : AH} {Q : AV → AH → Prop} {x y : Value} {a b : AV}
theorem add_lists (X : HSim S ρ H s.heap) (D : SD S s.heap) (Va : VRel S ρ s.heap a x) (Vb : VRel S ρ s.heap b y)
    (h : ∃ xs ys, a.items? H = some xs ∧ b.items? H = some ys ∧ xs.length + ys.length ≤ smallN ∧ Q (.ref H.length) (H ++ [xs ++ ys])) : wpAny (model prog w) A (binaryOp .Add x y) (EP S ρ H s Q) E s := by
  obtain ⟨xs, ys, ea, eb, hl, q⟩ := h
  obtain ⟨ax, ix, rfl, ⟨nx, px⟩, vx⟩ := items_real X Va ea
  obtain ⟨ay, iy, rfl, ⟨ny, py⟩, vy⟩ := items_real X Vb eb
  have e1 := vx.length
  have e2 := vy.length
  refine P.add_list (hsz := ?_) px py (EP.pushL X D (vs := xs ++ ys) (by simpa using vx.app vy) q s.toks)
  have : sizeLine = 2 ^ 24 := rfl
  simp only [Array.length_toList] at e1 e2
  unfold smallN at hl
  omega
theorem mul_list' (X : HSim S ρ H s.heap) (D : SD S s.heap) (Va : VRel S ρ s.heap a x) {j : Int} {u : Tok}
    (h : ∃ xs, a.items? H = some xs ∧ (0 ≤ j ∧ xs.length * j.toNat ≤ smallN ∧ j ≤ smallN) ∧ Q (.ref H.length) (H ++ [(List.replicate j.toNat xs).flatten])) : wpAny (model prog w) A (binaryOp .Mult x (.int j u)) (EP S ρ H s Q) E s := by
  obtain ⟨xs, ea, ⟨h0, hl, hj⟩, q⟩ := h
  obtain ⟨ax, ix, rfl, ⟨nx, px⟩, vx⟩ := items_real X Va ea
  have e1 := vx.length
  simp only [Array.length_toList] at e1
  rw [e1] at hl
  have hsz : ix.size * j.toNat ≤ 2 ^ 24 := by unfold smallN at hl; omega
  have hj' : j < 2 ^ 63 := by unfold smallN at hj; omega
  have hT : s.TypeIs (.ref ax) "list" := ⟨_, px, rfl⟩
  refine wpAny_binaryOp_repeat_ref (T := "list") (U := "int") (by decide) hT (fun s' => typeIs_int s' j u) noFill_list_mul F.fills_int_mul F.slot_int_rmul repeat_list F.slot_int_index.lookup
    (call_meets F.slot_int_rmul (typeIs_int s j u) F.entry_int_rmul (F.args_int_rmul_2 _ _) (int___rmul___int_list j u ax ix nx)
      ⟨px, rfl, hT, call_meets F.slot_list_mul hT F.entry_list_mul (F.args_list_mul_2 _ _)
        (AutoListH.list___mul___list_int_3 ax ix nx j u (by simp [Builtin.List.listFitsIndex]; omega) (by omega) (by simp [Builtin.List.listTooLong, sizeLine]; omega))
        ⟨px, EP.pushL X D (vs := (List.replicate j.toNat xs).flatten) ?_ q s.toks⟩⟩)
  rw [foldl_flat]
  by_cases hem : ix.isEmpty = true
  · have e0 : xs = [] := by
      have : ix.size = 0 := by simpa [Array.isEmpty] using hem
      exact List.length_eq_zero_iff.mp (by omega)
    subst e0
    simp [hem]; exact .nil
  · simp only [hem, Bool.false_eq_true, if_false]
    simpa using vx.rep j.toNat
theorem opBin_ok (op : Operator) (X : HSim S ρ H s.heap) (D : SD S s.heap) (Va : VRel S ρ s.heap a x) (Vb : VRel S ρ s.heap b y) (h : opBin op a b H Q) : wpAny (model prog w) A (binaryOp op x y) (EP S ρ H s Q) E s := by
  cases op with
  | Add =>
    rcases addOf_of h with ⟨i, j, rfl, rfl, q⟩ | ⟨i, j, rfl, rfl, q0, q⟩ | q
    · obtain ⟨t1, rfl⟩ := Va.ofInt
      obtain ⟨t2, rfl⟩ := Vb.ofInt
      exact P.add_int (EP.val X (.int _ _) q _)
    · obtain ⟨t1, rfl⟩ := Va.ofStr
      obtain ⟨t2, rfl⟩ := Vb.ofStr
      refine PyProof.Rows.add_str (fun t' tk => EP.val X (.str _ _) q _) ?_
      have : sizeLine = 2 ^ 24 := rfl
      unfold smallN at *
      omega
    · exact add_lists X D Va Vb q
  | Sub =>
    obtain ⟨i, j, rfl, rfl, q⟩ := onInts_of h
    obtain ⟨t1, rfl⟩ := Va.ofInt
    obtain ⟨t2, rfl⟩ := Vb.ofInt
    exact P.sub_int (EP.val X (.int _ _) q _)
  | Mult =>
    obtain ⟨j, rfl, ⟨i, rfl, q0, q⟩ | q⟩ := mulOf_of h
    · obtain ⟨t1, rfl⟩ := Va.ofInt
      obtain ⟨t2, rfl⟩ := Vb.ofInt
      refine P.mul_int (EP.val X (.int _ _) q _) ?_
      rcases q0 with q | q
      · exact .of_right (Nat.le_trans (intBits_le q) (by decide))
      · exact .of_left (Nat.le_trans (intBits_le q) (by decide))
    · obtain ⟨t2, rfl⟩ := Vb.ofInt
      exact mul_list' X D Va q
  | FloorDiv =>
    obtain ⟨i, j, rfl, rfl, hj, q⟩ := onInts_of h
    obtain ⟨t1, rfl⟩ := Va.ofInt
    obtain ⟨t2, rfl⟩ := Vb.ofInt
    refine floordiv_int (by omega) ?_ (Or.inl (PyProof.noPylong_small (by omega)))
    rw [fdiv_pos hj.1]; exact EP.val X (.int _ _) q _
  | Mod =>
    obtain ⟨i, j, rfl, rfl, hj, q⟩ := onInts_of h
    obtain ⟨t1, rfl⟩ := Va.ofInt
    obtain ⟨t2, rfl⟩ := Vb.ofInt
    refine mod_int' (by omega) ?_
    rw [fmod_pos hj]; exact EP.val X (.int _ _) q _
  | Pow =>
    obtain ⟨i, j, rfl, rfl, ⟨h0, h1, h2⟩, q⟩ := onInts_of h
    obtain ⟨t1, rfl⟩ := Va.ofInt
    obtain ⟨t2, rfl⟩ := Vb.ofInt
    exact pow_int_small h0 (by omega) (Nat.lt_trans h2 (by decide)) (EP.val X (.int _ _) q _)
  | _ => exact False.elim h
end

open PySem PyProof.Rows PySem.SeqAt

mutual
/-- a value read as data -/
inductive Rd (H : AH) : Nat → AV → PyData → Prop
  | none {k : Nat} : Rd H k .none .none
  | bool {k : Nat} (b : Bool) : Rd H k (.bool b) (.bool b)
  | int {k : Nat} (i : Int) : Rd H k (.int i) (.int i)
  | str {k : Nat} (x : Str) : PyData.strOk x = true → Rd H k (.str x) (.str x)
  | tup {k : Nat} {vs : List AV} {ds : List PyData} : Rds H k vs ds → Rd H (k + 1) (.tup vs) (.tuple ds)
  | fl {k : Nat} {vs : List AV} {ds : List PyData} : Rds H k vs ds → Rd H (k + 1) (.fl vs) (.list ds)
  | ref {k n : Nat} {vs : List AV} {ds : List PyData} : H[n]? = some vs → Rds H k vs ds → Rd H (k + 1) (.ref n) (.list ds)
inductive Rds (H : AH) : Nat → List AV → List PyData → Prop
  | nil {k : Nat} : Rds H k [] []
  | cons {k : Nat} {v : AV} {d : PyData} {vs : List AV} {ds : List PyData} : Rd H k v d → Rds H k vs ds → Rds H k (v :: vs) (d :: ds)
end
theorem Rds.ofAll {H : AH} {k : Nat} {α : Type} {f : α → AV} {g : α → PyData} : ∀ {l : List α}, (∀ x ∈ l, Rd H k (f x) (g x)) → Rds H k (l.map f) (l.map g)
  | [], _ => .nil
  | x :: r, h => .cons (h x (.head _)) (Rds.ofAll fun y hy => h y (.tail _ hy))
theorem Rds.ints {H : AH} {k : Nat} (l : List Int) : Rds H k (l.map AV.int) (l.map PyData.int) := Rds.ofAll fun x _ => .int x
theorem Rds.ind {H : AH} {M : Nat → List AV → List PyData → Prop} (hn : ∀ k, M k [] []) (hc : ∀ k v d vs ds, Rd H k v d → Rds H k vs ds → M k vs ds → M k (v :: vs) (d :: ds)) {k : Nat} {vs : List AV} {ds : List PyData} (r : Rds H k vs ds) : M k vs ds :=
  Rds.rec (motive_1 := fun _ _ _ _ => True) (motive_2 := fun k vs ds _ => M k vs ds) trivial (fun _ => trivial) (fun _ => trivial) (fun _ _ => trivial) (fun _ _ => trivial) (fun _ _ => trivial) (fun _ _ _ => trivial) (hn _) (fun r rs _ ih => hc _ _ _ _ _ r rs ih) r
theorem Rds.app {H : AH} {k : Nat} {a b : List AV} {c d : List PyData} (x : Rds H k a c) (y : Rds H k b d) : Rds H k (a ++ b) (c ++ d) :=
  Rds.ind (M := fun k' a c => k' = k → Rds H k' (a ++ b) (c ++ d)) (fun k' e => e ▸ y) (fun k' _ _ _ _ r _ ih e => .cons r (ih e)) x rfl
theorem Rds.length {H : AH} {k : Nat} {a : List AV} {c : List PyData} (x : Rds H k a c) : a.length = c.length := Rds.ind (M := fun _ a c => a.length = c.length) (fun _ => rfl) (fun _ _ _ _ _ _ _ ih => congrArg (· + 1) ih) x
theorem okAll_cons {k : Nat} {d : PyData} {ds : List PyData} (h1 : d.canLay0 = true ∧ d.depth ≤ k) (h2 : PyData.canLayAll0 ds = true ∧ PyData.depthAll ds ≤ k) : PyData.canLayAll0 (d :: ds) = true ∧ PyData.depthAll (d :: ds) ≤ k := by
  simp [PyData.canLayAll0, PyData.depthAll, h1.1, h2.1]
  omega
theorem Rd.ok {H : AH} {k : Nat} {v : AV} {d : PyData} (r : Rd H k v d) : d.canLay0 = true ∧ d.depth ≤ k :=
  Rd.rec (motive_1 := fun k _ d _ => d.canLay0 = true ∧ d.depth ≤ k) (motive_2 := fun k _ d _ => PyData.canLayAll0 d = true ∧ PyData.depthAll d ≤ k)
    (by simp [PyData.canLay0, PyData.depth]) (fun _ => by simp [PyData.canLay0, PyData.depth]) (fun _ => by simp [PyData.canLay0, PyData.depth]) (fun _ h => by simp [PyData.canLay0, PyData.depth, h])
    (fun _ q => by simp [PyData.canLay0, PyData.depth, q.1, q.2]) (fun _ q => by simp [PyData.canLay0, PyData.depth, q.1, q.2]) (fun _ _ q => by simp [PyData.canLay0, PyData.depth, q.1, q.2])
    (by simp [PyData.canLayAll0, PyData.depthAll]) (fun _ _ h1 h2 => okAll_cons h1 h2) r
theorem Rds.ok {H : AH} {k : Nat} {v : List AV} {d : List PyData} (r : Rds H k v d) : PyData.canLayAll0 d = true ∧ PyData.depthAll d ≤ k :=
  Rds.ind (M := fun k _ d => PyData.canLayAll0 d = true ∧ PyData.depthAll d ≤ k) (fun _ => by simp [PyData.canLayAll0, PyData.depthAll]) (fun _ _ _ _ _ r _ ih => okAll_cons r.ok ih) r
theorem Rd.reads {S : Sx} {ρ : List Addr} {H : AH} {h : Heap} (X : HSim S ρ H h) {k : Nat} {v : AV} {d : PyData} {x : Value} (r : Rd H k v d) (V : VRel S ρ h v x) : ∃ as, Reads h x d as :=
  Rd.rec (motive_1 := fun _ v d _ => ∀ x, VRel S ρ h v x → ∃ as, Reads h x d as) (motive_2 := fun _ v d _ => ∀ x, VRels S ρ h v x → ∃ as, ReadsAll h x d as)
    (fun _ V => by cases V; exact ⟨_, .none⟩) (fun _ _ V => by cases V; exact ⟨_, .bool _⟩) (fun _ _ V => by cases V; exact ⟨_, .int _ _⟩) (fun _ _ _ V => by cases V; exact ⟨_, .str _ _⟩)
    (fun _ ih _ V => by cases V with | tup _ _ hi hv => obtain ⟨as, q⟩ := ih _ hv; obtain ⟨n, e⟩ := hi; exact ⟨_, .tuple e rfl rfl q⟩)
    (fun _ ih _ V => by cases V with | fl _ _ hi hv => obtain ⟨as, q⟩ := ih _ hv; obtain ⟨n, e⟩ := hi; exact ⟨_, .list e rfl rfl q⟩)
    (fun e _ ih _ V => by cases V with | ref hi => obtain ⟨items, ⟨n, p⟩, w⟩ := X.get e hi; obtain ⟨as, q⟩ := ih _ w; exact ⟨_, .list p rfl rfl q⟩)
    (fun _ V => by cases V; exact ⟨_, .nil⟩)
    (fun _ _ i1 i2 _ V => by obtain ⟨y, ys, rfl, a, b⟩ := V.cons_inv; obtain ⟨as, q⟩ := i1 _ a; obtain ⟨bs, q'⟩ := i2 _ b; exact ⟨_, .cons q q'⟩)
    r x V
theorem Rds.reads {S : Sx} {ρ : List Addr} {H : AH} {h : Heap} (X : HSim S ρ H h) {k : Nat} {v : List AV} {d : List PyData} {x : List Value} (r : Rds H k v d) (V : VRels S ρ h v x) : ∃ as, ReadsAll h x d as :=
  Rds.ind (M := fun _ v d => ∀ x, VRels S ρ h v x → ∃ as, ReadsAll h x d as) (fun _ _ V => by cases V; exact ⟨_, .nil⟩) (fun _ _ _ _ _ r _ ih _ V => by obtain ⟨y, ys, rfl, a, b⟩ := V.cons_inv; obtain ⟨as, q⟩ := r.reads X a; obtain ⟨bs, q'⟩ := ih _ b; exact ⟨_, .cons q q'⟩) r x V

noncomputable def isNone : AV → Bool
  | .none => true
  | _ => false
noncomputable def isBool (c : Bool) : AV → Bool
  | .bool b => b == c
  | _ => false
/-- a sequence's items -/
noncomputable def AV.seq? (H : AH) : AV → Option (List AV)
  | .tup vs => some vs
  | v => v.items? H

noncomputable def isOf (a b : AV) (k : Bool → Prop) : Prop := match b with
  | .none => k (isNone a)
  | .bool c => k (isBool c a)
  | _ => False
theorem isOf_of {a b : AV} {k : Bool → Prop} (h : isOf a b k) : (b = .none ∧ k (isNone a)) ∨ ∃ c, b = .bool c ∧ k (isBool c a) := by
  cases b <;> first | (exact False.elim h) | exact .inl ⟨rfl, h⟩ | exact .inr ⟨_, rfl, h⟩
noncomputable def eqOf (a b : AV) (H : AH) (k : Bool → Prop) : Prop := ∃ da db, Rd H 9 a da ∧ Rd H 9 b db ∧ k (da.eqv db)
noncomputable def eqOf' (a b : AV) (H : AH) (k : Bool → Prop) : Prop := match a with
  | .int i => (match b with
    | .int j => k (decide (i = j))
    | b => eqOf (.int i) b H k)
  | a => eqOf a b H k
theorem eqOf_of {a b : AV} {H : AH} {k : Bool → Prop} (h : eqOf' a b H k) : eqOf a b H k := by
  cases a with
  | int i =>
    cases b with
    | int j => exact ⟨_, _, .int i, .int j, by have h : k (decide (i = j)) := h; rwa [show (PyData.int i).eqv (PyData.int j) = decide (i = j) from by simp [PyData.eqv]; rfl]⟩
    | _ => exact h
  | _ => exact h
noncomputable def opCmp (op : CmpOp) (a b : AV) (H : AH) (Q : AV → AH → Prop) : Prop :=
  match op with
  | .Lt => onInts a b fun i j => Q (.bool (decide (i < j))) H
  | .LtE => onInts a b fun i j => Q (.bool (decide (i ≤ j))) H
  | .Gt => onInts a b fun i j => Q (.bool (decide (j < i))) H
  | .GtE => onInts a b fun i j => Q (.bool (decide (j ≤ i))) H
  | .Eq => eqOf' a b H fun c => Q (.bool c) H
  | .NotEq => eqOf' a b H fun c => Q (.bool (!c)) H
  | .Is => isOf a b fun c => Q (.bool c) H
  | .IsNot => isOf a b fun c => Q (.bool (!c)) H
  | .In => False
  | .NotIn => False
open Classical in
/-- is a value of the heap equal to da -/
noncomputable def eqIn (h : Heap) (da : PyData) (y : Value) : Bool := decide (∃ d as, Reads h y d as ∧ d.canLay0 = true ∧ PyData.eqv d da = true)
open Classical in
theorem eqIn_of {h : Heap} {da d : PyData} {y : Value} {as : List Addr} (r : Reads h y d as) (hc : d.canLay0 = true) : eqIn h da y = PyData.eqv d da := by
  unfold eqIn
  cases e : PyData.eqv d da with
  | true => exact decide_eq_true ⟨d, as, r, hc, e⟩
  | false =>
    refine decide_eq_false ?_
    rintro ⟨d', as', r', hc', e'⟩
    have := Reads.unique d d' y as as' hc r r'
    subst this
    rw [e] at e'; cases e'
theorem ReadsAll.ind {h : Heap} {M : List Value → List PyData → Prop} (hn : M [] []) (hc : ∀ v vs d ds as, Reads h v d as → M vs ds → M (v :: vs) (d :: ds)) {vs : List Value} {ds : List PyData} {as : List Addr} (r : ReadsAll h vs ds as) : M vs ds := by
  induction vs generalizing ds as with
  | nil => cases r; exact hn
  | cons v vs ih => cases r with | cons a b => exact hc _ _ _ _ _ a (ih b)
theorem readsAll_get {h : Heap} {ys : List Value} {ds : List PyData} {as : List Addr} (r : ReadsAll h ys ds as) {y : Value} (hm : y ∈ ys) : ∃ d bs, d ∈ ds ∧ Reads h y d bs :=
  ReadsAll.ind (M := fun ys ds => y ∈ ys → ∃ d bs, d ∈ ds ∧ Reads h y d bs) (fun hm => nomatch hm) (fun _ _ _ _ _ r ih hm => by
    rcases List.mem_cons.mp hm with rfl | hm
    · exact ⟨_, _, .head _, r⟩
    · obtain ⟨d, bs, hd, q⟩ := ih hm
      exact ⟨d, bs, .tail _ hd, q⟩) r hm
theorem canLay_mem : ∀ {ds : List PyData} {d : PyData}, PyData.canLayAll0 ds = true → d ∈ ds → d.canLay0 = true
  | _ :: _, _, h, .head _ => by simp [PyData.canLayAll0] at h; exact h.1
  | _ :: _, _, h, .tail _ hm => by simp [PyData.canLayAll0] at h; exact canLay_mem h.2 hm
theorem depth_mem : ∀ {ds : List PyData} {d : PyData} {k : Nat}, PyData.depthAll ds ≤ k → d ∈ ds → d.depth ≤ k
  | _ :: _, _, _, h, .head _ => by simp [PyData.depthAll] at h; omega
  | _ :: _, _, _, h, .tail _ hm => by simp [PyData.depthAll] at h; exact depth_mem (by omega) hm

section
variable {prog : Program} {w : World} {A : Around} {E : Value → Shared → Prop} {s : Shared} {S : Sx} {ρ : List Addr} {H : AH} {Q : AV → AH → Prop} {x y : Value} {a b : AV}
theorem seq_real {v : AV} {vs : List AV} (X : HSim S ρ H s.heap) (V : VRel S ρ s.heap v x) (e : v.seq? H = some vs) : ∃ l items, x = .ref l ∧ (s.heap.PlainList l items ∨ PT s.heap l items) ∧ VRels S ρ s.heap vs items.toList := by
  cases V with
  | tup ha hs hi hv => simp [AV.seq?] at e; subst e; exact ⟨_, _, rfl, .inr hi, hv⟩
  | fl ha hs hi hv => simp [AV.seq?, AV.items?] at e; subst e; exact ⟨_, _, rfl, .inl hi, hv⟩
  | ref hi => simp [AV.seq?, AV.items?] at e; obtain ⟨items, p, w⟩ := X.get e hi; exact ⟨_, _, rfl, .inl p, w⟩
  | _ => simp [AV.seq?, AV.items?] at e
theorem is_none (V : VRel S ρ s.heap a x) : plainIs x .none = true ∧ (x == .none) = isNone a := by
  cases V <;> exact ⟨rfl, rfl⟩
theorem is_bool (V : VRel S ρ s.heap a x) (c : Bool) : plainIs x (.bool c) = true ∧ (x == .bool c) = isBool c a := by
  cases V <;> refine ⟨rfl, ?_⟩ <;> first | rfl | skip
  rename_i b
  cases b <;> cases c <;> rfl
theorem opCmp_ok (op : CmpOp) (hu : A.units + 100 < cLine) (X : HSim S ρ H s.heap) (Va : VRel S ρ s.heap a x) (Vb : VRel S ρ s.heap b y) (h : opCmp op a b H Q) : wpAny (model prog w) A (compareOp op x y) (EP S ρ H s Q) E s := by
  cases op with
  | Lt =>
    obtain ⟨i, j, rfl, rfl, q⟩ := onInts_of h
    obtain ⟨t1, rfl⟩ := Va.ofInt
    obtain ⟨t2, rfl⟩ := Vb.ofInt
    exact P.lt_int (EP.val0 X (.bool _) q)
  | LtE =>
    obtain ⟨i, j, rfl, rfl, q⟩ := onInts_of h
    obtain ⟨t1, rfl⟩ := Va.ofInt
    obtain ⟨t2, rfl⟩ := Vb.ofInt
    exact P.le_int (EP.val0 X (.bool _) q)
  | Gt =>
    obtain ⟨i, j, rfl, rfl, q⟩ := onInts_of h
    obtain ⟨t1, rfl⟩ := Va.ofInt
    obtain ⟨t2, rfl⟩ := Vb.ofInt
    exact P.gt_int (EP.val0 X (.bool _) q)
  | GtE =>
    obtain ⟨i, j, rfl, rfl, q⟩ := onInts_of h
    obtain ⟨t1, rfl⟩ := Va.ofInt
    obtain ⟨t2, rfl⟩ := Vb.ofInt
    exact P.ge_int (EP.val0 X (.bool _) q)
  | Eq =>
    obtain ⟨da, db, ra, rb, q⟩ := eqOf_of (show eqOf' a b H (fun c => Q (.bool c) H) from h)
    obtain ⟨as, qa⟩ := ra.reads X Va
    obtain ⟨bs, qb⟩ := rb.reads X Vb
    refine compareEq_reads qa qb ra.ok.1 rb.ok.1 ?_ (EP.val0 X (.bool _) q)
    have := ra.ok.2; omega
  | NotEq =>
    obtain ⟨da, db, ra, rb, q⟩ := eqOf_of (show eqOf' a b H (fun c => Q (.bool (!c)) H) from h)
    obtain ⟨as, qa⟩ := ra.reads X Va
    obtain ⟨bs, qb⟩ := rb.reads X Vb
    refine compareNe_reads qa qb ra.ok.1 rb.ok.1 ?_ (EP.val0 X (.bool _) q)
    have := ra.ok.2; omega
  | Is =>
    rcases isOf_of (show isOf a b (fun c => Q (.bool c) H) from h) with ⟨rfl, q⟩ | ⟨c, rfl, q⟩
    · cases Vb; have z := is_none Va; exact wpAny_is_plain z.1 (by rw [z.2]; exact EP.val0 X (.bool _) q)
    · cases Vb; have z := is_bool Va c; exact wpAny_is_plain z.1 (by rw [z.2]; exact EP.val0 X (.bool _) q)
  | IsNot =>
    rcases isOf_of (show isOf a b (fun c => Q (.bool (!c)) H) from h) with ⟨rfl, q⟩ | ⟨c, rfl, q⟩
    · cases Vb; have z := is_none Va; exact wpAny_isNot_plain z.1 (by rw [z.2]; exact EP.val0 X (.bool _) q)
    · cases Vb; have z := is_bool Va c; exact wpAny_isNot_plain z.1 (by rw [z.2]; exact EP.val0 X (.bool _) q)
  | In => exact False.elim h
  | NotIn => exact False.elim h
end

noncomputable def idxAt (k : Int) (vs : List AV) : Option AV := if vs.length ≤ smallN then (seqIndex? k vs.length).bind fun j => vs[j]? else Option.none
theorem idxAt_of {k : Int} {vs : List AV} {v : AV} (h : idxAt k vs = some v) : ∃ j, vs.length ≤ smallN ∧ seqIndex? k vs.length = some j ∧ vs[j]? = some v := by
  unfold idxAt at h
  split at h
  · rename_i hl
    obtain ⟨j, e, e'⟩ := Option.bind_eq_some_iff.mp h
    exact ⟨j, hl, e, e'⟩
  · cases h
theorem idxAt_some {k : Int} {vs : List AV} {v : AV} {j : Nat} (hl : vs.length ≤ smallN) (e : seqIndex? k vs.length = some j) (e' : vs[j]? = some v) : idxAt k vs = some v := by
  unfold idxAt
  rw [if_pos hl, e]
  exact e'
/-- an item -/
noncomputable def opIdx (o i : AV) (H : AH) (Q : AV → AH → Prop) : Prop :=
  match i with
  | .int k => opt (o.seq? H) fun vs => opt (idxAt k vs) fun v => Q v H
  | .str x => ∃ ks vs v, o = .dict ks vs ∧ (ks.zip vs).lookup x = some v ∧ Q v H
  | _ => False
noncomputable def optInt : AV → Option (Option Int)
  | .none => some Option.none
  | .int i => some (some i)
  | _ => Option.none
/-- the places of a slice -/
noncomputable def slPick {α : Type} (xs : List α) (lo hi st : Option Int) : List α := let (a, b, c) := sliceBounds lo hi st xs.length; (sliceRange a b c).filterMap (xs[·]?)
noncomputable def slcL (o lo hi st : AV) (H : AH) (Q : AV → AH → Prop) : Prop :=
  ∃ vs l u t, o.items? H = some vs ∧ vs.length ≤ smallN ∧ optInt lo = some l ∧ optInt hi = some u ∧ optInt st = some t ∧ t ≠ some 0 ∧ Q (.ref H.length) (H ++ [slPick vs l u t])
/-- the rest of a tuple -/
noncomputable def slcT (vs : List AV) (lo hi st : AV) (H : AH) (Q : AV → AH → Prop) : Prop := match lo, hi, st with
  | .int a, .none, .none => (1 ≤ a ∧ a ≤ vs.length ∧ vs.length ≤ smallN) ∧ Q (.tup (vs.drop a.toNat)) H
  | _, _, _ => False
theorem slcT_of {vs : List AV} {lo hi st : AV} {H : AH} {Q : AV → AH → Prop} (h : slcT vs lo hi st H Q) : ∃ a, lo = .int a ∧ hi = .none ∧ st = .none ∧ (1 ≤ a ∧ a ≤ vs.length ∧ vs.length ≤ smallN) ∧ Q (.tup (vs.drop a.toNat)) H := by
  cases lo <;> first | (exact False.elim h) | skip
  cases hi <;> first | (exact False.elim h) | skip
  cases st <;> first | (exact False.elim h) | skip
  exact ⟨_, rfl, rfl, rfl, h⟩
noncomputable def opSlc (o lo hi st : AV) (H : AH) (Q : AV → AH → Prop) : Prop := match o with
  | .tup vs => slcT vs lo hi st H Q
  | o => slcL o lo hi st H Q
theorem opSlc_of {o lo hi st : AV} {H : AH} {Q : AV → AH → Prop} (h : opSlc o lo hi st H Q) : (∃ vs, o = .tup vs ∧ slcT vs lo hi st H Q) ∨ slcL o lo hi st H Q := by
  cases o <;> first | exact .inl ⟨_, rfl, h⟩ | exact .inr h
theorem opSlc_l {o lo hi st : AV} {H : AH} {Q : AV → AH → Prop} {vs : List AV} (e : o.items? H = some vs) (h : slcL o lo hi st H Q) : opSlc o lo hi st H Q := by
  cases o <;> first | exact h | cases e

theorem VRels.none_iff {S : Sx} {ρ : List Addr} {h : Heap} {vs : List AV} {xs : List Value} (V : VRels S ρ h vs xs) (i : Nat) : vs[i]? = Option.none ↔ xs[i]? = Option.none := by
  simp [V.length]
theorem VRels.picks {S : Sx} {ρ : List Addr} {h : Heap} {vs : List AV} {xs : List Value} (V : VRels S ρ h vs xs) : ∀ l : List Nat, VRels S ρ h (l.filterMap (vs[·]?)) (l.filterMap (xs[·]?))
  | [] => .nil
  | i :: l => by
    have ih := V.picks l
    rw [List.filterMap_cons, List.filterMap_cons]
    cases e : vs[i]? with
    | none => rw [(V.none_iff i).mp e]; exact ih
    | some v =>
      obtain ⟨x, ex, hv⟩ := V.get e
      rw [ex]
      exact .cons hv ih
theorem VRels.slPick {S : Sx} {ρ : List Addr} {h : Heap} {vs : List AV} {items : Array Value} (V : VRels S ρ h vs items.toList) (lo hi st : Option Int) : VRels S ρ h (slPick vs lo hi st) (slicePick items lo hi st).toList := by
  have e := V.length
  simp only [Array.length_toList] at e
  unfold Mine.slPick slicePick
  rw [e]
  simpa using V.picks (sliceRange (sliceBounds lo hi st items.size).1 (sliceBounds lo hi st items.size).2.1 (sliceBounds lo hi st items.size).2.2)
theorem optInt_part {S : Sx} {ρ : List Addr} {h : Heap} {v : AV} {x : Value} {k : Option Int} (V : VRel S ρ h v x) (e : optInt v = some k) : IsPart x k := by
  cases V <;> simp [optInt] at e <;> subst e
  · exact .none
  · exact .int _ _

section
variable {prog : Program} {w : World} {A : Around} {E : Value → Shared → Prop} {s : Shared} {S : Sx} {ρ : List Addr} {H : AH} {Q : AV → AH → Prop} {x y : Value} {o i : AV}
theorem VRels.lookup {h : Heap} {x : Str} {ks : List Str} {vs : List AV} {xs : List Value} {v : AV} (V : VRels S ρ h vs xs) (e : (ks.zip vs).lookup x = some v) : ∃ z, (ks.zip xs).lookup x = some z ∧ VRel S ρ h v z := by
  induction ks generalizing vs xs with
  | nil => simp at e
  | cons k ks ih =>
    cases vs with
    | nil => simp at e
    | cons u vs =>
      obtain ⟨z, zs, rfl, hv, hr⟩ := V.cons_inv
      simp only [List.zip_cons_cons, List.lookup_cons] at e ⊢
      split at e
      · cases e; exact ⟨z, rfl, hv⟩
      · exact ih hr e
theorem getItem_ok (hp : S.prog = prog) (hw : S.w = w) (X : HSim S ρ H s.heap) (Vo : VRel S ρ s.heap o x) (Vi : VRel S ρ s.heap i y) (h : opIdx o i H Q) : (s.TypeIs x "list" ∨ s.TypeIs x "tuple" ∨ s.TypeIs x "dict") ∧ wpAny (model prog w) A (getItem x y) (EP S ρ H s Q) E s := by
  unfold opIdx at h
  split at h
  · obtain ⟨vs, e, h⟩ := opt_of h
    obtain ⟨v, ev0, q⟩ := opt_of h
    obtain ⟨j, hsm, ej, ev⟩ := idxAt_of ev0
    clear ev0 h
    cases Vi
    rename_i k t
    obtain ⟨l, items, rfl, hl, vv⟩ := seq_real X Vo e
    have e1 := vv.length
    simp only [Array.length_toList] at e1
    rw [e1] at ej
    obtain ⟨z, ez, hz⟩ := vv.get ev
    have ez' : items[j]? = some z := by simpa using ez
    have hb : -(2 ^ 63) ≤ k ∧ k < 2 ^ 63 ∧ (0 ≤ k → j = k.toNat ∧ k < items.size) ∧ (k < 0 → j = (k + items.size).toNat ∧ -(items.size : Int) ≤ k) := by
      unfold smallN at hsm
      rw [e1] at hsm
      unfold seqIndex? at ej
      by_cases hk : k < 0
      · simp [hk] at ej
        omega
      · simp [hk] at ej
        omega
    rcases hl with hl | ⟨n, hl⟩
    · refine ⟨.inl (PL.isList hl).typeIs, ?_⟩
      by_cases h0 : 0 ≤ k
      · exact wpAny_getItem_list (PL.isList hl) h0 hb.2.1 (by rw [← (hb.2.2.1 h0).1]; exact ez') (EP.val0 X hz q)
      · exact wpAny_getItem_list_neg (PL.isList hl) (by omega) (hb.2.2.2 (by omega)).2 hb.1 (by rw [← (hb.2.2.2 (by omega)).1]; exact ez') (EP.val0 X hz q)
    · refine ⟨.inr (.inl ⟨_, hl, rfl⟩), ?_⟩
      exact P.getItem_tuple hl hb.1 hb.2.1 ej ez' (EP.val0 X hz q)
  · obtain ⟨ks, vs, v, rfl, e, q⟩ := h
    cases Vi
    cases Vo with
    | dict ha hs hm he hv =>
    obtain ⟨z, ez, Vz⟩ := hv.lookup e
    rw [hp, hw] at hm
    exact ⟨.inr (.inr hm.typeIs), wpAny_getItem_of (strKind_is prog w _ _) hm ((he _).trans ez) (EP.val X Vz q _)⟩
  · exact h.elim
end

open PySem PyProof.Rows PySem.SeqAt

set_option genInjectivity false in
/-- the built-in functions that are used -/
inductive Pr where
  | len | all | sorted | min | max | int | list | tuple | range | str
  deriving DecidableEq
noncomputable def Pr.val : Pr → Value
  | .len => .builtin "len"
  | .all => .builtin "all"
  | .sorted => .builtin "sorted"
  | .min => .builtin "min"
  | .max => .builtin "max"
  | .int => .type "int"
  | .list => .type "list"
  | .tuple => .type "tuple"
  | .range => .type "range"
  | .str => .type "str"
set_option genInjectivity false in
/-- the types that isinstance asks for -/
inductive Ty where
  | int | bool | str | list | tuple
  deriving DecidableEq
noncomputable def Ty.name : Ty → String
  | .int => "int"
  | .bool => "bool"
  | .str => "str"
  | .list => "list"
  | .tuple => "tuple"
noncomputable def isInst (t : Ty) : AV → Bool
  | .int _ => t == .int
  | .bool _ => t == .int || t == .bool
  | .str _ => t == .str
  | .tup _ => t == .tuple
  | .fl _ => t == .list
  | .ref _ => t == .list
  | _ => false
noncomputable def lenOf (H : AH) : AV → Option Nat
  | .str x => some x.length
  | v => (v.seq? H).map List.length
/-- the ints of a range -/
noncomputable def rngList (a b c : Int) : List Int := (List.range (Builtin.Range.rangeSize a b c).toNat).map fun (i : Nat) => a + (i : Int) * c

noncomputable def on1 (vs : List AV) (k : AV → Prop) : Prop := match vs with
  | [v] => k v
  | _ => False
theorem on1_of {vs : List AV} {k : AV → Prop} (h : on1 vs k) : ∃ v, vs = [v] ∧ k v := by
  rcases vs with _ | ⟨v, _ | ⟨u, r⟩⟩
  · exact False.elim h
  · exact ⟨v, rfl, h⟩
  · exact False.elim h
noncomputable def onBool (v : AV) (k : Bool → Prop) : Prop := match v with
  | .bool c => k c
  | _ => False
theorem onBool_of {v : AV} {k : Bool → Prop} (h : onBool v k) : ∃ c, v = .bool c ∧ k c := by
  cases v <;> first | (exact False.elim h) | exact ⟨_, rfl, h⟩
noncomputable def onInt (v : AV) (k : Int → Prop) : Prop := match v with
  | .int c => k c
  | _ => False
theorem onInt_of {v : AV} {k : Int → Prop} (h : onInt v k) : ∃ c, v = .int c ∧ k c := by
  cases v <;> first | (exact False.elim h) | exact ⟨_, rfl, h⟩
noncomputable def lstOf (v : AV) (H : AH) (Q : AV → AH → Prop) : Prop := match v with
  | .rng a b c => rngOk a b c ∧ Q (.ref H.length) (H ++ [(rngList a b c).map AV.int])
  | v => opt (v.seq? H) fun xs => xs.length ≤ smallN ∧ Q (.ref H.length) (H ++ [xs])
theorem lstOf_of {v : AV} {H : AH} {Q : AV → AH → Prop} (h : lstOf v H Q) : (∃ a b c, v = .rng a b c ∧ rngOk a b c ∧ Q (.ref H.length) (H ++ [(rngList a b c).map AV.int])) ∨ ∃ xs, v.seq? H = some xs ∧ xs.length ≤ smallN ∧ Q (.ref H.length) (H ++ [xs]) := by
  cases v <;> first | exact .inl ⟨_, _, _, rfl, h⟩ | exact .inr (opt_of h)
noncomputable def lowOf (low : Bool) (vs : List AV) (H : AH) (Q : AV → AH → Prop) : Prop := match vs with
  | [u, v] => onInts u v fun a b => Q (.int (if (if low = true then b < a else b > a) then b else a)) H
  | _ => False
noncomputable def rngOf (vs : List AV) (k : Int → Int → Int → Prop) : Prop := match vs with
  | [v] => onInt v fun b => k 0 b 1
  | [u, v] => onInts u v fun a b => k a b 1
  | [u, v, w] => onInts u v fun a b => onInt w fun c => k a b c
  | _ => False
noncomputable def opPrim (b : Pr) (vs : List AV) (H : AH) (Q : AV → AH → Prop) : Prop :=
  match b with
  | .len => on1 vs fun v => opt (lenOf H v) fun n => n ≤ smallN ∧ Q (.int n) H
  | .int => on1 vs fun v => onBool v fun c => Q (.int (if c then 1 else 0)) H
  | .list => on1 vs fun v => lstOf v H Q
  | .tuple => on1 vs fun v => opt (v.items? H) fun xs => xs.length ≤ smallN ∧ Q (.tup xs) H
  | .sorted => on1 vs fun v => ∃ ns : List Int, v.items? H = some (ns.map AV.int) ∧ ns.length < 64 ∧ ∀ ns' : List Int, ns'.Perm ns → ns'.Pairwise (· ≤ ·) → Q (.ref H.length) (H ++ [ns'.map AV.int])
  | .all => on1 vs fun v => ∃ bs : List Bool, v.items? H = some (bs.map AV.bool) ∧ Q (.bool (bs.all id)) H
  | .min => lowOf true vs H Q
  | .max => lowOf false vs H Q
  | .range => rngOf vs fun a b c => rngOk a b c ∧ Q (.rng a b c) H
  | .str => False

theorem rng_e {a b c : Int} (h : rngOk a b c) : c > 0 ∧ Builtin.Range.rangeSize a b c ≥ 0 ∧ Builtin.Range.rangeSize a b c ≤ 2000001 := by
  obtain ⟨⟨a1, a2⟩, ⟨b1, b2⟩, c1, c2⟩ := h
  have hc : c > 0 := by omega
  refine ⟨hc, ?_⟩
  unfold Builtin.Range.rangeSize
  rw [if_pos hc]
  split
  · rename_i hab
    have h0 : 0 ≤ b - a - 1 := by omega
    have h1 : (b - a - 1) / c ≤ b - a - 1 := Int.ediv_le_self _ h0
    have h2 : 0 ≤ (b - a - 1) / c := Int.ediv_nonneg h0 (by omega)
    omega
  · exact ⟨Int.le_refl 0, by decide⟩
theorem rng_small {a b c : Int} (h : rngOk a b c) : Builtin.Range.small a b c = true := by
  obtain ⟨hc, e1, e2⟩ := rng_e h
  obtain ⟨⟨a1, a2⟩, ⟨b1, b2⟩, c1, c2⟩ := h
  unfold Builtin.Range.small
  simp only [Builtin.Range.rangeFitsLong, Bool.and_eq_true, Bool.or_eq_true, decide_eq_true_eq, beq_iff_eq, hc, if_true]
  omega
theorem rng_size {a b c : Int} (h : rngOk a b c) : Builtin.Range.rangeSize a b c = ((Builtin.Range.rangeSize a b c).toNat : Int) ∧ (Builtin.Range.rangeSize a b c).toNat ≤ 2000001 := by
  obtain ⟨hc, e1, e2⟩ := rng_e h
  exact ⟨(Int.toNat_of_nonneg e1).symm, Int.toNat_le.mpr e2⟩
theorem VRels.ofInts {S : Sx} {ρ : List Addr} {h : Heap} : ∀ {xs : List Value} {ns : List Int}, IntsAre xs ns → VRels S ρ h (ns.map AV.int) xs
  | _, _, .nil => .nil
  | _, _, .cons _ _ r => .cons (.int _ _) (VRels.ofInts r)
theorem VRels.ints {S : Sx} {ρ : List Addr} {h : Heap} {ns : List Int} {xs : List Value} (V : VRels S ρ h (ns.map AV.int) xs) : IntsAre xs ns := by
  induction ns generalizing xs with
  | nil => cases V.of0; exact .nil
  | cons n ns ih =>
    obtain ⟨z, zs, rfl, hv, hr⟩ := V.cons_inv
    obtain ⟨t, rfl⟩ := hv.ofInt
    exact .cons _ t (ih hr)
theorem VRels.ofIdx {S : Sx} {ρ : List Addr} {h : Heap} (g : Nat → AV) : ∀ {xs : List Value} (k : Nat), (∀ j x, xs[j]? = some x → VRel S ρ h (g (k + j)) x) → VRels S ρ h ((List.range' k xs.length).map g) xs
  | [], _, _ => by simpa using VRels.nil
  | x :: xs, k, hx => by
    simp only [List.length_cons, List.range'_succ, List.map_cons]
    refine .cons (by simpa using hx 0 x rfl) (VRels.ofIdx g (k + 1) fun j y hy => ?_)
    have := hx (j + 1) y (by simpa using hy)
    rwa [show k + 1 + j = k + (j + 1) by omega]

section
variable {prog : Program} {w : World} {A : Around} {E : Value → Shared → Prop} {s : Shared} {S : Sx} {ρ : List Addr} {H : AH} {Q : AV → AH → Prop} {x y : Value} {v : AV}
theorem len_ok (X : HSim S ρ H s.heap) (V : VRel S ρ s.heap v x) (h : opPrim .len [v] H Q) : wpAny (model prog w) A (call (.builtin "len") [x]) (EP S ρ H s Q) E s := by
  obtain ⟨n, e, hn, q⟩ := opt_of h
  unfold smallN at hn
  have seqc : ∀ vs, v.seq? H = some vs → vs.length = n → wpAny (model prog w) A (call (.builtin "len") [x]) (EP S ρ H s Q) E s := fun vs e1 e2 => by
    obtain ⟨l, items, rfl, hl, vv⟩ := seq_real X V e1
    have e3 := vv.length
    simp only [Array.length_toList] at e3
    have e4 : (items.size : Int) = n := by omega
    rcases hl with hl | ⟨m, hl⟩
    · refine Calls.call_len_list (PL.isList hl) (by omega) ?_
      rw [e4]; exact EP.val X (.int _ _) q _
    · refine P.len_tuple hl (by omega) ?_
      rw [e4]; exact EP.val X (.int _ _) q _
  cases V with
  | str z t => simp [lenOf] at e; subst e; exact P.len_str (by omega) (EP.val X (.int _ _) q _)
  | tup ha hs hi hv => simp [lenOf, AV.seq?] at e; exact seqc _ rfl e
  | fl ha hs hi hv => simp [lenOf, AV.seq?, AV.items?] at e; exact seqc _ rfl e
  | ref hi =>
    simp [lenOf, AV.seq?, AV.items?] at e
    obtain ⟨a, e1, e2⟩ := e
    exact seqc a e1 e2
  | _ => simp [lenOf, AV.seq?, AV.items?] at e
noncomputable def AV.offX : AV → Bool
  | .rng _ _ _ => false
  | .exc _ => false
  | _ => true
theorem isinst_ok (t : Ty) (X : HSim S ρ H s.heap) (V : VRel S ρ s.heap v x) (h : Q (.bool (isInst t v)) H) (hok : v.offX = true) : wpAny (model prog w) A (call (.builtin "isinstance") [x, .type t.name]) (EP S ρ H s Q) E s := by
  have yes : isInst t v = true → ∀ tk, EP S ρ H s Q (.bool true) { s with toks := tk } := fun e tk => EP.val X (.bool _) (e ▸ h) tk
  have no : isInst t v = false → ∀ tk, EP S ρ H s Q (.bool false) { s with toks := tk } := fun e tk => EP.val X (.bool _) (e ▸ h) tk
  cases V with
  | none => cases t <;> first | exact IsiPair.NoneType_int (no rfl _) | exact IsiPair.NoneType_bool (no rfl _) | exact IsiPair.NoneType_str (no rfl _) | exact IsiPair.NoneType_list (no rfl _) | exact IsiPair.NoneType_tuple (no rfl _)
  | bool b => cases t <;> first | exact IsiPair.bool_int (yes rfl s.toks) | exact IsiPair.bool_bool (yes rfl s.toks) | exact IsiPair.bool_str (no rfl _) | exact IsiPair.bool_list (no rfl _) | exact IsiPair.bool_tuple (no rfl _)
  | int i u => cases t <;> first | exact IsiPair.int_int (yes rfl s.toks) | exact IsiPair.int_bool (no rfl _) | exact IsiPair.int_str (no rfl _) | exact IsiPair.int_list (no rfl _) | exact IsiPair.int_tuple (no rfl _)
  | str i u => cases t <;> first | exact IsiPair.str_int (no rfl _) | exact IsiPair.str_bool (no rfl _) | exact IsiPair.str_str (yes rfl s.toks) | exact IsiPair.str_list (no rfl _) | exact IsiPair.str_tuple (no rfl _)
  | tup ha hs hi hv =>
    obtain ⟨n, hi⟩ := hi
    cases t <;> first | exact IsiPair.tuple_int hi rfl (no rfl _) | exact IsiPair.tuple_bool hi rfl (no rfl _) | exact IsiPair.tuple_str hi rfl (no rfl _) | exact IsiPair.tuple_list hi rfl (no rfl _) | exact IsiPair.tuple_tuple hi rfl (yes rfl s.toks)
  | fl ha hs hi hv =>
    obtain ⟨n, hi⟩ := hi
    cases t <;> first | exact IsiPair.list_int hi rfl (no rfl _) | exact IsiPair.list_bool hi rfl (no rfl _) | exact IsiPair.list_str hi rfl (no rfl _) | exact IsiPair.list_list hi rfl (yes rfl s.toks) | exact IsiPair.list_tuple hi rfl (no rfl _)
  | ref hi =>
    obtain ⟨items, p, _⟩ := X.mem' hi
    obtain ⟨n, hi⟩ := p
    cases t <;> first | exact IsiPair.list_int hi rfl (no rfl _) | exact IsiPair.list_bool hi rfl (no rfl _) | exact IsiPair.list_str hi rfl (no rfl _) | exact IsiPair.list_list hi rfl (yes rfl s.toks) | exact IsiPair.list_tuple hi rfl (no rfl _)
  | rng hr ha hs hi => cases hok
  | exc ha hs hi => cases hok
  | dict ha hs hm he hv =>
    obtain ⟨o, es, ep, e, hx, hd, _⟩ := hm
    have hc : o.cls = .type "dict" := hx.1
    cases t <;> first | exact IsiPair.dict_int e hc (no rfl _) | exact IsiPair.dict_bool e hc (no rfl _) | exact IsiPair.dict_str e hc (no rfl _) | exact IsiPair.dict_list e hc (no rfl _) | exact IsiPair.dict_tuple e hc (no rfl _)
theorem all_bools {bs : List Bool} {xs : List Value} {h : Heap} (V : VRels S ρ h (bs.map AV.bool) xs) (i : Nat) (x : Value) (e : xs[i]? = some x) : ∃ b, bs[i]? = some b ∧ x = .bool b := by
  obtain ⟨v, ev, hv⟩ := V.getR e
  rw [List.getElem?_map] at ev
  obtain ⟨b, eb, rfl⟩ := Option.map_eq_some_iff.mp ev
  exact ⟨b, eb, hv.ofBool⟩
theorem range_all (bs : List Bool) : (List.range bs.length).all (fun i => bs.getD i true) = bs.all id := by
  rw [Bool.eq_iff_iff, List.all_eq_true, List.all_eq_true]
  constructor
  · intro h b hb
    obtain ⟨i, hi, rfl⟩ := List.mem_iff_getElem.mp hb
    have := h i (List.mem_range.mpr hi)
    simpa [hi] using this
  · intro h i hi
    have hi' := List.mem_range.mp hi
    have := h bs[i] (List.getElem_mem hi')
    simpa [hi'] using this
theorem opPrim_ok (b : Pr) {vs : List AV} {xs : List Value} (hh : A.handled = none) (X : HSim S ρ H s.heap) (D : SD S s.heap) (V0 : VRels S ρ s.heap vs xs) (h0 : opPrim b vs H Q) : wpAny (model prog w) A (call b.val xs) (EP S ρ H s Q) E s := by
  cases b with
  | len =>
    obtain ⟨v, ev, h⟩ := on1_of h0
    clear h0
    subst ev
    obtain ⟨y, ey, V⟩ := V0.of1
    clear V0
    subst ey
    exact len_ok X V h
  | int =>
    obtain ⟨v, ev, h⟩ := on1_of h0
    clear h0
    subst ev
    obtain ⟨y, ey, V⟩ := V0.of1
    clear V0
    subst ey
    obtain ⟨c, rfl, q⟩ := onBool_of h
    cases V.ofBool
    exact call_int_bool (EP.val X (.int _ _) q _)
  | list =>
    obtain ⟨v, ev, h⟩ := on1_of h0
    clear h0
    subst ev
    obtain ⟨y, ey, V⟩ := V0.of1
    clear V0
    subst ey
    replace h := lstOf_of h
    rcases h with ⟨ra, rb, rc, rfl, h⟩ | h
    · cases V with | rng _ ha hsS hi =>
      obtain ⟨hr, q⟩ := h
      have hs := rng_size hr
      refine call_list_range hh hi (rng_small hr) hs.1 (by omega) fun h' tk acc c' hk hn hI => ?_
      refine EP.newL X D hk (size_none _) ⟨c', hn⟩ ?_ q
      have := VRels.ofIdx (S := S) (ρ := ρ) (h := s.heap) (fun (i : Nat) => AV.int (_ + (i : Int) * _)) (xs := acc.toList) 0 (fun j x hx => by
        obtain ⟨t, rfl⟩ := hI.2 j x (by simpa using hx)
        rw [Nat.zero_add]
        exact .int _ t)
      rw [Array.length_toList, hI.1, ← List.range_eq_range'] at this
      unfold rngList
      rw [List.map_map]
      exact this
    · obtain ⟨ys, e, hs, q⟩ := h
      obtain ⟨l, items, rfl, hl, vv⟩ := seq_real X V e
      have e1 := vv.length
      simp only [Array.length_toList] at e1
      have hsz : items.size ≤ sizeLine := by unfold smallN at hs; have : sizeLine = 2 ^ 24 := rfl; omega
      rcases hl with ⟨n, hl⟩ | ⟨n, hl⟩
      · exact call_list_seq (hsz := hsz) l (.inl rfl) hl rfl rfl fun h' c' hk hn => EP.newL (tk := s.toks) X D hk (size_none _) ⟨c', hn⟩ vv q
      · exact call_list_seq (hsz := hsz) l (.inr rfl) hl rfl rfl fun h' c' hk hn => EP.newL (tk := s.toks) X D hk (size_none _) ⟨c', hn⟩ vv q
  | tuple =>
    obtain ⟨v, ev, h⟩ := on1_of h0
    clear h0
    subst ev
    obtain ⟨y, ey, V⟩ := V0.of1
    clear V0
    subst ey
    obtain ⟨ys, e, hs, q⟩ := opt_of h
    obtain ⟨l, items, rfl, hl, vv⟩ := items_real X V e
    have e1 := vv.length
    simp only [Array.length_toList] at e1
    have hsz : items.size ≤ sizeLine := by unfold smallN at hs; have : sizeLine = 2 ^ 24 := rfl; omega
    refine call_tuple_list (hsz := hsz) (PL.isList hl) fun h' hk => ?_
    refine EP.newT (tk := s.toks) X D (Kp.trans hk (push_kp _ _)) ?_ ⟨0, Heap.get?_push_size _ rfl⟩ vv q
    cases q0 : s.heap.get? h'.objs.size with
    | none => rfl
    | some o => exact absurd (Heap.lt_size (hk _ _ q0)) (Nat.lt_irrefl _)
  | sorted =>
    obtain ⟨v, ev, h⟩ := on1_of h0
    clear h0
    subst ev
    obtain ⟨y, ey, V⟩ := V0.of1
    clear V0
    subst ey
    obtain ⟨ns, e, hs, q⟩ := h
    obtain ⟨l, items, rfl, hl, vv⟩ := items_real X V e
    have hI := vv.ints
    refine sorted_ints (by simpa using PL.isList hl) hI (by rw [hI.length]; exact hs) fun out ns' a1 a2 a3 => ?_
    obtain ⟨ep, he⟩ := sortedAll_at s.heap items.toList out
    refine EP.newL (tk := s.toks) X D (fun _ _ => sortedAll_old) ?_ ⟨ep, he⟩ (VRels.ofInts a1) (q ns' a2 a3)
    cases q0 : s.heap.get? (s.heap.objs.size + 1) with
    | none => rfl
    | some o => exact absurd (Heap.lt_size q0) (Nat.not_lt.mpr (Nat.le_succ _))
  | all =>
    obtain ⟨v, ev, h⟩ := on1_of h0
    clear h0
    subst ev
    obtain ⟨y, ey, V⟩ := V0.of1
    clear V0
    subst ey
    obtain ⟨bs, e, q⟩ := h
    obtain ⟨l, items, rfl, hl, vv⟩ := items_real X V e
    have e1 := vv.length
    simp only [Array.length_toList, List.length_map] at e1
    refine call_all_walk (wpAny_pyIter_list (PL.isList hl) ?_)
    have hlt : l < s.heap.objs.size := by obtain ⟨n, hl⟩ := hl; exact Heap.lt_size hl
    refine ⟨_, _, _, _, _, _, fun i => bs.getD i true, rfl, Walks.list (A := A.in1) hh s.heap.objs.size l (Nat.ne_of_lt hlt) items, ⟨⟨_, Heap.get?_push_size _ rfl, rfl, rfl⟩, (PL.isList hl).at fun o e => Heap.get?_push_of_some _ e⟩, ?_, fun h' tk hk => ?_⟩
    · intro i v s₁ Q₁ E₁ hP hq
      obtain ⟨b, eb, rfl⟩ := all_bools vv i v (by simpa using hP)
      have e2 : bs.getD i true = b := by simp [List.getD, eb]
      have hq' : Q₁ b s₁ := e2 ▸ hq
      exact wpAny_truthy_bool hq'
    · rw [← e1, range_all]
      refine EP.grow X (fun b o e => hk b o (fun hm => ?_) (Heap.get?_push_of_some _ e)) (.bool _) q
      simp at hm; subst hm
      exact absurd (Heap.lt_size e) (Nat.lt_irrefl _)
  | min =>
    rcases vs with _ | ⟨v, _ | ⟨u, _ | ⟨u2, r⟩⟩⟩
    · exact False.elim h0
    · exact False.elim h0
    · obtain ⟨i, j, rfl, rfl, h⟩ := onInts_of h0
      clear h0
      obtain ⟨y, z, rfl, V, W⟩ := V0.of2
      obtain ⟨t1, rfl⟩ := V.ofInt
      obtain ⟨t2, rfl⟩ := W.ofInt
      refine min_two_ints hh fun h' tk hk => ?_
      split
      · rename_i hc; rw [if_pos (by simpa using hc)] at h; exact EP.grow X hk (.int _ _) h
      · rename_i hc; rw [if_neg (by simpa using hc)] at h; exact EP.grow X hk (.int _ _) h
    · exact False.elim h0
  | max =>
    rcases vs with _ | ⟨v, _ | ⟨u, _ | ⟨u2, r⟩⟩⟩
    · exact False.elim h0
    · exact False.elim h0
    · obtain ⟨i, j, rfl, rfl, h⟩ := onInts_of h0
      clear h0
      obtain ⟨y, z, rfl, V, W⟩ := V0.of2
      obtain ⟨t1, rfl⟩ := V.ofInt
      obtain ⟨t2, rfl⟩ := W.ofInt
      refine max_two_ints hh fun h' tk hk => ?_
      split
      · rename_i hc; rw [if_pos (by simpa using hc)] at h; exact EP.grow X hk (.int _ _) h
      · rename_i hc; rw [if_neg (by simpa using hc)] at h; exact EP.grow X hk (.int _ _) h
    · exact False.elim h0
  | range =>
    have n1 : s.heap.objs.size ∉ ρ := fun hm => by obtain ⟨o, ho⟩ := X.mem hm; rw [size_none] at ho; cases ho
    have n2 : s.heap.objs.size ∉ S.ad := fun hm => by obtain ⟨o, ho⟩ := D _ hm; rw [size_none] at ho; cases ho
    rcases vs with _ | ⟨v, _ | ⟨u, _ | ⟨u2, _ | ⟨u3, r⟩⟩⟩⟩
    · exact False.elim h0
    · obtain ⟨y, rfl, V⟩ := V0.of1
      obtain ⟨j, rfl, h⟩ := onInt_of h0
      clear h0 V0
      obtain ⟨t1, rfl⟩ := V.ofInt
      exact call_range_1 (EP.grow X (push_kp _ _) (.rng h.1 n1 n2 (Heap.get?_push_size _ rfl)) h.2)
    · obtain ⟨i, j, rfl, rfl, h⟩ := onInts_of h0
      clear h0
      obtain ⟨y, z, rfl, V, W⟩ := V0.of2
      obtain ⟨t1, rfl⟩ := V.ofInt
      obtain ⟨t2, rfl⟩ := W.ofInt
      exact call_range_2 (EP.grow X (push_kp _ _) (.rng h.1 n1 n2 (Heap.get?_push_size _ rfl)) h.2)
    · obtain ⟨i, j, rfl, rfl, h1⟩ := onInts_of h0
      clear h0
      obtain ⟨k, rfl, h⟩ := onInt_of h1
      clear h1
      obtain ⟨y, z, y3, rfl, V, W, U⟩ := V0.of3
      obtain ⟨t1, rfl⟩ := V.ofInt
      obtain ⟨t2, rfl⟩ := W.ofInt
      obtain ⟨t3, rfl⟩ := U.ofInt
      have hc := h.1.2.2
      exact call_range_3 (by omega) (EP.grow X (push_kp _ _) (.rng h.1 n1 n2 (Heap.get?_push_size _ rfl)) h.2) (Or.inl (PyProof.noPylong_small (by omega)))
    · exact False.elim h0
  | str => exact False.elim h0
end

open PySem PyProof.Rows PySem.SeqAt

set_option genInjectivity false in
/-- pure methods -/
inductive Mt where
  | count | index
  deriving DecidableEq
set_option genInjectivity false in
/-- methods that change a list -/
inductive Mu where
  | append | insert | clear | extend | reverse | pop
  deriving DecidableEq
set_option genInjectivity false in
/-- what a for with several targets goes over -/
inductive It where
  | enumerate | zip | rows
  deriving DecidableEq

set_option genInjectivity false in
inductive CE where
  | const (v : AV)
  | var (i : Nat)
  | bin (op : Operator) (l r : CE)
  | neg (e : CE)
  | not (e : CE)
  | and (l r : CE)
  | or (l r : CE)
  | cmp (op : CmpOp) (l r : CE)
  | chain (op1 op2 : CmpOp) (l m r : CE)
  | idx (o i : CE)
  | slc (o lo hi st : CE)
  | tup (es : List CE)
  | lst (es : List CE)
  | dct (ks : List Str) (es : List CE)
  | call (f : Nat) (es : List CE)
  | prim (b : Pr) (es : List CE)
  | isin (t : Ty) (e : CE)
  | isown (c : Str) (e : CE)
  | meth (m : Mt) (o : CE) (es : List CE)
  | comp (elt : CE) (cs : List CE) (cap : List Nat) (nv : Nat) (it : CE)

set_option genInjectivity false in
inductive CS where
  | assign (x : Nat) (e : CE)
  | assignT (xs : List Nat) (e : CE)
  | setIdx (o i v : CE)
  | mut (m : Mu) (o : CE) (es : List CE)
  | popTo (x : Nat) (o : CE) (es : List CE)
  | expr (e : CE)
  | ite (c : CE) (a b : List CS)
  | for1 (x : Nat) (it : CE) (body : List CS)
  | forT (xs : List Nat) (k : It) (es : List CE) (body : List CS)
  | while (c : CE) (body : List CS)
  | ret (e : CE)
  | pass
  | raise (c : Str)
  | try (body : List CS) (c : Str) (x : Nat) (h : List CS)

/-- the names of the module -/
structure NT where
  fns : List Str
  consts : List (Str × AV)

noncomputable def prNames : List (Str × Pr) := [("len", .len), ("all", .all), ("sorted", .sorted), ("min", .min), ("max", .max), ("int", .int), ("list", .list), ("tuple", .tuple), ("range", .range), ("str", .str)]
noncomputable def tyNames : List (Str × Ty) := [("int", .int), ("bool", .bool), ("str", .str), ("list", .list), ("tuple", .tuple)]
/-- the built-in names that are used, and what they hold -/
noncomputable def biOf (x : Str) : Option Value :=
  (([("isinstance", Value.builtin "isinstance"), ("enumerate", Value.type "enumerate"), ("zip", Value.type "zip"), ("bool", Value.type "bool")] : List (Str × Value)) ++ prNames.map fun p => (p.1, p.2.val)).lookup x
noncomputable def mtNames : List (Str × Mt) := [("count", .count), ("index", .index)]
noncomputable def muNames : List (Str × Mu) := [("append", .append), ("insert", .insert)]

noncomputable def constOf : Const → Option AV
  | .none => some .none
  | .bool b => some (.bool b)
  | .int i => some (.int i)
  | .str x => some (.str x)
  | _ => Option.none
noncomputable def isLoc : Option NameKind → Bool
  | some .local => true
  | some .cell => true
  | _ => false
noncomputable def idxOf (x : Str) : List Str → Option Nat
  | [] => Option.none
  | y :: r => if y = x then some 0 else (idxOf x r).map (· + 1)
theorem idxOf_get {x : Str} : ∀ {l : List Str} {i : Nat}, idxOf x l = some i → l[i]? = some x
  | y :: r, i, e => by
    unfold idxOf at e
    split at e
    · rename_i h; cases e; simp [h]
    · cases q : idxOf x r with
      | none => rw [q] at e; cases e
      | some j => rw [q] at e; cases e; simpa using idxOf_get q
  | [], _, e => by cases e
noncomputable def slotOf (kd : Str → Option NameKind) (names : List Str) (x : Str) : Option Nat := if isLoc (kd x) && x != ("__debug__" : Str) then idxOf x names else Option.none
noncomputable def isGlob (kd : Str → Option NameKind) (x : Str) : Bool := kd x == some .globalImplicit && x != ("__debug__" : Str)
noncomputable def nameOf (e : PySem.Expr) : Option Str := match e with
  | .Name x _ => some x
  | _ => Option.none
noncomputable def allSome {α : Type} : List (Option α) → Option (List α)
  | [] => some []
  | Option.none :: _ => Option.none
  | some a :: r => (allSome r).map (a :: ·)
/-- the kinds of a comprehension's names -/
noncomputable def compKd (scope : Scope) (kd : Str → Option NameKind) (x : Str) : Option NameKind := match scope.names.lookup x with
  | some .free => if kd x = some .cell then some .cell else some .free
  | k => k
noncomputable def freeNames (scope : Scope) : List Str := (scope.names.filter fun p => p.2 == .free).map (·.1)
/-- a comprehension's block is of the plain sort -/
noncomputable def compOk (scope : Scope) (kd : Str → Option NameKind) (xs : List Str) : Bool :=
  scope.kind == .function && scope.names.all (fun p => p.2 != .cell) && scope.names.all (fun p => p.2 != .local || scope.names.lookup p.1 == some .local) && xs.all (fun x => scope.names.lookup x == some .local) && (freeNames scope).all (fun x => kd x == some .cell) && (scope.names.map (·.1)).all fun x => !(freeNames scope).contains x || scope.names.lookup x == some .free
noncomputable def strKey : Option PySem.Expr → Option Str
  | some (.Constant (.str x) _ _) => some x
  | _ => Option.none
noncomputable def tgtNames : PySem.Expr → Option (Nat × List Str)
  | .Name x _ => some (0, [x])
  | _ => Option.none

noncomputable def boolNest (op : BoolOp) : List CE → Option CE
  | [] => Option.none
  | [a] => some a
  | a :: r => (boolNest op r).map (match op with | .And => CE.and a | .Or => CE.or a)

noncomputable def compName (nt : NT) (kd : Str → Option NameKind) (names : List Str) (x : Str) : Option CE := match slotOf kd names x with
  | some i => some (.var i)
  | Option.none => if isGlob kd x then (nt.consts.lookup x).map .const else Option.none
noncomputable def compUn (op : UnaryOp) (c : Option CE) : Option CE := match op with
  | .USub => c.map .neg
  | .Not => c.map .not
  | _ => Option.none
noncomputable def compCmp (r : PySem.Expr → Option CE) (l : PySem.Expr) (ops : List CmpOp) (rs : List PySem.Expr) : Option CE := match ops, rs with
  | [op], [e] => do
    let a ← r l
    let b ← r e
    some (.cmp op a b)
  | [op1, op2], [m, e] => do
    let a ← r l
    let b ← r m
    let c ← r e
    some (.chain op1 op2 a b c)
  | _, _ => Option.none
noncomputable def compOpt (r : PySem.Expr → Option CE) : Option PySem.Expr → Option CE
  | some e => r e
  | Option.none => some (.const .none)
noncomputable def isSlice : PySem.Expr → Option (Option PySem.Expr × Option PySem.Expr × Option PySem.Expr)
  | .Slice lo hi st _ => some (lo, hi, st)
  | _ => Option.none
noncomputable def compSub (r : PySem.Expr → Option CE) (o i : PySem.Expr) : Option CE := match isSlice i with
  | some (lo, hi, st) => do
    let a ← r o
    let b ← compOpt r lo
    let c ← compOpt r hi
    let d ← compOpt r st
    some (.slc a b c d)
  | Option.none => do
    let a ← r o
    let b ← r i
    some (.idx a b)
noncomputable def compDct (r : PySem.Expr → Option CE) (ks : List (Option PySem.Expr)) (es : List PySem.Expr) : Option CE := do
  let l ← allSome (ks.map strKey)
  let q ← allSome (es.map r)
  if l.length = q.length ∧ l.Nodup ∧ l.length < 1 then some (.dct l q) else Option.none
noncomputable def isiArgs (kd : Str → Option NameKind) (args : List PySem.Expr) : Option (PySem.Expr × Str) := match args with
  | [e, t] => match nameOf t with
    | some t => if isGlob kd t then some (e, t) else Option.none
    | Option.none => Option.none
  | _ => Option.none
noncomputable def isiEnd (nt : NT) (t : Str) (a : CE) : Option CE := match tyNames.lookup t with
  | some ty => some (.isin ty a)
  | Option.none => if nt.fns.contains t then Option.none else some (.isown t a)
noncomputable def compIsi (nt : NT) (r : PySem.Expr → Option CE) (kd : Str → Option NameKind) (args : List PySem.Expr) : Option CE := (isiArgs kd args).bind fun q => (r q.1).bind fun a => isiEnd nt q.2 a
noncomputable def compFn (nt : NT) (r : PySem.Expr → Option CE) (x : Str) (args : List PySem.Expr) : Option CE := do
  let l ← allSome (args.map r)
  if l.isEmpty then Option.none else
  match idxOf x nt.fns with
  | some f => some (.call f l)
  | Option.none => (prNames.lookup x).map fun b => .prim b l
noncomputable def compMeth (r : PySem.Expr → Option CE) (o : PySem.Expr) (m : Str) (ap : Pos) (args : List PySem.Expr) (p : Pos) : Option CE := do
  let a ← r o
  let l ← allSome (args.map r)
  if ap.endLine == p.line && l.length == 1 then (mtNames.lookup m).map fun b => .meth b a l else Option.none
noncomputable def attrOf : PySem.Expr → Option (PySem.Expr × Str × Pos)
  | .Attribute o m ap => some (o, m, ap)
  | _ => Option.none
noncomputable def compCall (nt : NT) (r : PySem.Expr → Option CE) (kd : Str → Option NameKind) (f : PySem.Expr) (args : List PySem.Expr) (p : Pos) : Option CE := match nameOf f with
  | some x => if isGlob kd x then (if x = ("isinstance" : Str) then compIsi nt r kd args else compFn nt r x args) else Option.none
  | Option.none => match attrOf f with
    | some q => compMeth r q.1 q.2.1 q.2.2 args p
    | Option.none => Option.none
noncomputable def genOf (gens : List Comprehension) : Option (PySem.Expr × (Nat × List Str) × PySem.Expr × List PySem.Expr) := match gens with
  | [g] => match tgtNames g.target with
    | some q => if g.is_async = 0 ∧ q.2.Nodup then some (g.target, q, g.iter, g.ifs) else Option.none
    | Option.none => Option.none
  | _ => Option.none
noncomputable def compLC (r : (Str → Option NameKind) → List Str → PySem.Expr → Option CE) (kd : Str → Option NameKind) (names : List Str) (elt : PySem.Expr) (gens : List Comprehension) (scope : Scope) : Option CE := do
  let g ← genOf gens
  let i ← r kd names g.2.2.1
  let cap ← allSome ((freeNames scope).map fun x => idxOf x names)
  let c ← r (compKd scope kd) (freeNames scope ++ g.2.1.2) elt
  let l ← allSome (g.2.2.2.map (r (compKd scope kd) (freeNames scope ++ g.2.1.2)))
  if compOk scope kd g.2.1.2 && l.length ≤ 1 then some (.comp c l cap g.2.1.1 i) else Option.none
noncomputable def compE1 (nt : NT) (r : (Str → Option NameKind) → List Str → PySem.Expr → Option CE) (kd : Str → Option NameKind) (names : List Str) (e : PySem.Expr) : Option CE := match e with
  | .Constant c _ _ => (constOf c).map .const
  | .Name x _ => compName nt kd names x
  | .BinOp l op rr _ => do
    let a ← r kd names l
    let b ← r kd names rr
    some (.bin op a b)
  | .UnaryOp op x _ => compUn op (r kd names x)
  | .BoolOp op es _ => (allSome (es.map (r kd names))).bind (boolNest op)
  | .Compare l ops rs _ => compCmp (r kd names) l ops rs
  | .Subscript o i _ => compSub (r kd names) o i
  | .Tuple es _ _ => (allSome (es.map (r kd names))).map .tup
  | .List es _ => (allSome (es.map (r kd names))).map .lst
  | .Dict ks es _ => compDct (r kd names) ks es
  | .Call f args kws p => if kws.isEmpty then compCall nt (r kd names) kd f args p else Option.none
  | .ListComp elt gens scope _ => compLC r kd names elt gens scope
  | _ => Option.none
noncomputable def compE (nt : NT) : Nat → (Str → Option NameKind) → List Str → PySem.Expr → Option CE
  | 0, _, _, _ => Option.none
  | n + 1, kd, names, e => compE1 nt (compE nt n) kd names e
theorem nameOf_name (x : Str) (p : Pos) : nameOf (.Name x p) = some x := rfl
noncomputable def callOf (e : PySem.Expr) : Option (PySem.Expr × List PySem.Expr × Bool × Pos) := match e with
  | .Call f args kws p => some (f, args, kws.isEmpty, p)
  | _ => Option.none
theorem callOf_some {e : PySem.Expr} {q : PySem.Expr × List PySem.Expr × Bool × Pos} (h : callOf e = some q) (hb : q.2.2.1 = true) : e = .Call q.1 q.2.1 [] q.2.2.2 := by
  cases e <;> cases h
  rename_i kws _
  cases kws with
  | nil => rfl
  | cons a r => cases hb
noncomputable def tupOf (e : PySem.Expr) : Option (List PySem.Expr × Nat × Pos) := match e with
  | .Tuple es k p => some (es, k, p)
  | _ => Option.none
theorem tupOf_some {e : PySem.Expr} {q : List PySem.Expr × Nat × Pos} (h : tupOf e = some q) : e = .Tuple q.1 q.2.1 q.2.2 := by
  cases e <;> cases h
  rfl
theorem nameOf_some {e : PySem.Expr} {x : Str} (h : nameOf e = some x) : ∃ p, e = .Name x p := by
  cases e <;> cases h
  exact ⟨_, rfl⟩
theorem attrOf_some {e : PySem.Expr} {q : PySem.Expr × Str × Pos} (h : attrOf e = some q) : e = .Attribute q.1 q.2.1 q.2.2 := by
  cases e <;> cases h
  rfl
theorem isSlice_some {e : PySem.Expr} {q : Option PySem.Expr × Option PySem.Expr × Option PySem.Expr} (h : isSlice e = some q) : ∃ p, e = .Slice q.1 q.2.1 q.2.2 p := by
  cases e <;> cases h
  exact ⟨_, rfl⟩
theorem genOf_some {gens : List Comprehension} {g : PySem.Expr × (Nat × List Str) × PySem.Expr × List PySem.Expr} (h : genOf gens = some g) : gens = [⟨g.1, g.2.2.1, g.2.2.2, 0⟩] ∧ tgtNames g.1 = some g.2.1 ∧ g.2.1.2.Nodup := by
  rcases gens with _ | ⟨⟨tg, it, ifs, as⟩, _ | ⟨q', r⟩⟩
  · cases h
  · unfold genOf at h
    cases e : tgtNames tg with
    | none => simp [e] at h
    | some x =>
      simp only [e] at h
      split at h
      · rename_i ha
        obtain ⟨ha, hn⟩ := ha
        subst ha
        cases h
        exact ⟨rfl, e, hn⟩
      · cases h
  · cases h
theorem isiArgs_some {kd : Str → Option NameKind} {args : List PySem.Expr} {q : PySem.Expr × Str} (h : isiArgs kd args = some q) : ∃ p, args = [q.1, .Name q.2 p] ∧ isGlob kd q.2 = true := by
  rcases args with _ | ⟨a, _ | ⟨b, _ | ⟨c, r⟩⟩⟩
  · cases h
  · cases h
  · unfold isiArgs at h
    cases e : nameOf b with
    | none => simp [e] at h
    | some x =>
      simp only [e] at h
      split at h
      · rename_i ha
        cases h
        obtain ⟨p, hp⟩ := nameOf_some e
        exact ⟨p, by rw [hp], ha⟩
      · cases h
  · cases h

open PySem PyProof.Rows PySem.SeqAt

/-- a program's context -/
structure PC where
  prog : Program
  w : World
  mg : Str → Option Value
  mb : Str → Option Value
  nt : NT
  /-- the module's defs, in the order of their names -/
  defs : List DefRec
  /-- of the exception classes: is an object of that class one of the name -/
  own : Str → Addr → Option Bool
  /-- the class right above them -/
  sup : Addr

/-- how deep, and whether no exception is being handled -/
structure Lv where
  k : Nat
  q : Bool
noncomputable def Aok (l : Lv) (A : Around) : Prop := (l.q = true → A.handled = none) ∧ A.depth + l.k < recursionLimit ∧ A.units + 10 * l.k + 200 < cLine

/-- what isinstance is to find -/
noncomputable def OwnIs (P : PC) (h : Heap) (t : Str) (c : Addr) (b : Bool) : Prop :=
  XCls h c P.sup ∧ ((P.mg t = none ∧ P.mb t = some (.type "ValueError") ∧ b = true) ∨ (P.mg t = some (.ref c) ∧ b = true) ∨ ∃ D, P.mg t = some (.ref D) ∧ XCls h D P.sup ∧ c ≠ D ∧ P.sup ≠ D ∧ b = false)
/-- what the module's top has left -/
structure GOk (P : PC) (h : Heap) : Prop where
  g : h.Ns mainGlobals P.mg
  b : h.Ns builtinsNs P.mb
  nolimit : h.NoLimit
  bi : ∀ x v, biOf x = some v → P.mg x = none ∧ P.mb x = some v
  cst : ∀ x v, P.nt.consts.lookup x = some v → ∃ rv, P.mg x = some rv ∧ ∀ S ρ h, VRel S ρ h v rv
  ow : ∀ (t : Str) (c : Addr) (b : Bool), P.own t c = some b → OwnIs P h t c b
  fn : ∀ (f : Nat) (x : Str), P.nt.fns[f]? = some x → ∃ a o, P.mg x = some (.ref a) ∧ h.get? a = some o ∧ ∃ fd, o.data = .func fd
  df : ∀ (f : Nat) (x : Str) (d : DefRec), P.nt.fns[f]? = some x → P.defs[f]? = some d → ∃ a o pm code doc, P.mg x = some (.ref a) ∧ h.get? a = some o ∧ o.data = .func (Calls.docDef d.name d.params d.body d.scope pm code doc) ∧ h.CodeRec code d.name
theorem GOk.kp {P : PC} {h h' : Heap} (x : GOk P h) (k : Kp h h') : GOk P h' where
  g := x.g.keeps k
  b := x.b.keeps k
  nolimit := x.nolimit.keeps k
  bi := x.bi
  cst := x.cst
  fn := fun f y e => let ⟨a, o, h1, h2, h3⟩ := x.fn f y e; ⟨a, o, h1, k _ _ h2, h3⟩
  ow := fun t c b e => let ⟨x1, x2⟩ := x.ow t c b e; ⟨x1.keeps k, x2.imp id fun q => q.imp id fun ⟨D, y1, y2, y3⟩ => ⟨D, y1, y2.keeps k, y3⟩⟩
  df := fun f y d e e' => let ⟨a, o, pm, code, doc, h1, h2, h3, h4⟩ := x.df f y d e e'; ⟨a, o, pm, code, doc, h1, k _ _ h2, h3, h4.keeps k⟩

/-- an exception that leaves a call -/
noncomputable def ExcC (_P : PC) (_A : Around) (_s : Shared) (_X : Str → Prop) (_e : Value) (_s' : Shared) : Prop := False

/-- a call of a def of the module -/
noncomputable def CallJ (P : PC) (l : Lv) (f : Nat) (vs : List AV) (Q : AV → AH → Prop) (X : Str → Prop) : Prop :=
  ∀ (A : Around) (s : Shared) (S : Sx) (xs : List Value) (x : Str) (a : Addr), Aok l A → GOk P s.heap → P.nt.fns[f]? = some x → P.mg x = some (.ref a) → S.prog = P.prog → S.w = P.w → SD S s.heap → VRels S [] s.heap vs xs →
    codeAny (model P.prog P.w) A (.call (.ref a) ⟨xs, []⟩) (fun r s' => match r with
      | .ok fl => ∃ rv h' tk ρ v Hc, fl = .ret rv ∧ s' = { s with heap := h', toks := tk } ∧ Kp s.heap h' ∧ Fresh s.heap ρ ∧ HSim S ρ Hc h' ∧ VRel S ρ h' v rv ∧ Q v Hc
      | .error e => ExcC P A s X e s') s

theorem CallJ.mono {P : PC} {l : Lv} {f : Nat} {vs : List AV} {Q Q' : AV → AH → Prop} {X X' : Str → Prop} (h : CallJ P l f vs Q X) (hq : ∀ v H, Q v H → Q' v H) : CallJ P l f vs Q' X' :=
  fun A s S xs x a h1 h2 h3 h4 h5 h6 h7 h8 => codeAny_mono (h A s S xs x a h1 h2 h3 h4 h5 h6 h7 h8) fun r s' hr => by
    cases r with
    | ok fl => obtain ⟨rv, h', tk, ρ, v, Hc, e1, e2, k, fr, X, V, q⟩ := hr; exact ⟨rv, h', tk, ρ, v, Hc, e1, e2, k, fr, X, V, hq _ _ q⟩
    | error e => exact hr.elim

/-- a call as an expression sees it -/
noncomputable def CallP (P : PC) (l : Lv) (f : Nat) (vs : List AV) (H : AH) (Q : AV → AH → Prop) (X : Str → Prop) : Prop :=
  ∃ vs', Rens [] H vs vs' ∧ CallJ P l f vs' (fun v Hc => (vs' = vs ∨ (NoFl v ∧ ∀ xs ∈ Hc, NoFls xs)) ∧ Q (v.shift H.length) (H ++ Hc.map (AV.shifts H.length))) X

/-- a comprehension's turns -/
noncomputable def compItems (test : AV → (Bool → Prop) → Prop) (el : AV → (AV → Prop) → Prop) : List AV → (List AV → Prop) → Prop
  | [], K => K []
  | x :: r, K => test x fun b => if b then el x fun v => compItems test el r fun vs => K (v :: vs) else compItems test el r K

/-- a list -/
noncomputable def AV.isL : AV → Bool
  | .fl _ => true
  | .ref _ => true
  | _ => false
noncomputable def onL (v : AV) (K : Prop) : Prop := match v with
  | .fl _ => K
  | .ref _ => K
  | _ => False
theorem onL_of {v : AV} {K : Prop} (h : onL v K) : v.isL = true ∧ K := by cases v <;> first | (exact False.elim h) | exact ⟨rfl, h⟩
noncomputable def offRng (v : AV) (K : Prop) : Prop := match v with
  | .rng _ _ _ => False
  | .exc _ => False
  | _ => K
theorem offRng_of {v : AV} {K : Prop} (h : offRng v K) : v.offX = true ∧ K := by cases v <;> first | (exact False.elim h) | exact ⟨rfl, h⟩
/-- of an exception, whether it is of the class of that name -/
noncomputable def onExc (P : PC) (t : Str) (v : AV) (K : Bool → Prop) : Prop := match v with
  | .exc c => opt (P.own t c) K
  | _ => False
theorem onExc_of {P : PC} {t : Str} {v : AV} {K : Bool → Prop} (h : onExc P t v K) : ∃ c b, v = .exc c ∧ P.own t c = some b ∧ K b := by
  cases v <;> first | (exact False.elim h) | skip
  obtain ⟨b, e, q⟩ := opt_of h
  exact ⟨_, b, rfl, e, q⟩
/-- what a for goes over -/
noncomputable def iterOf (H : AH) : AV → Option (List AV)
  | .rng a b c => some ((rngList a b c).map AV.int)
  | v => v.seq? H
/-- the targets' values -/
noncomputable def bindItem (nv : Nat) (v : AV) : Option (List (Option AV)) :=
  if nv = 0 then some [some v] else match v with
  | .tup vs => if vs.length = nv then some (vs.map some) else Option.none
  | _ => Option.none
noncomputable def listCount (H : AH) (o v : AV) (Q : AV → AH → Prop) : Prop := ∃ vs ds d, o.items? H = some vs ∧ Rds H 9 vs ds ∧ Rd H 9 v d ∧ vs.length ≤ smallN ∧ Q (.int ((ds.countP fun e => e.eqv d : Nat) : Int)) H
noncomputable def listIndex (H : AH) (o v : AV) (Q : AV → AH → Prop) : Prop := ∃ vs ds d j, o.items? H = some vs ∧ Rds H 9 vs ds ∧ Rd H 9 v d ∧ vs.length ≤ smallN ∧ ds.findIdx? (fun e => e.eqv d) = some j ∧ Q (.int (j : Int)) H
noncomputable def opMeth (m : Mt) (o : AV) (vs : List AV) (H : AH) (Q : AV → AH → Prop) : Prop :=
  match m with
  | .count => on1 vs fun v => listCount H o v Q
  | .index => on1 vs fun v => listIndex H o v Q

/-- what a comprehension sees of its block's names -/
inductive CapRel (H : AH) (loc : List (Option AV)) : List Nat → List (Option AV) → Prop
  | nil : CapRel H loc [] []
  | cons {i : Nat} {v v' : AV} {r : List Nat} {base : List (Option AV)} : loc[i]?.join = some v → Ren [] H v v' → CapRel H loc r base → CapRel H loc (i :: r) (some v' :: base)
  | skip {i : Nat} {r : List Nat} {base : List (Option AV)} : CapRel H loc r base → CapRel H loc (i :: r) (Option.none :: base)

mutual
noncomputable def wpE (P : PC) (l : Lv) (X : Str → Prop) : CE → List (Option AV) → AH → (AV → AH → Prop) → Prop
  | .const v, _, H, Q => Q v H
  | .var i, loc, H, Q => opt (loc[i]?.join) fun v => Q v H
  | .bin op a b, loc, H, Q => wpE P l X a loc H fun v H₁ => wpE P l X b loc H₁ fun u H₂ => opBin op v u H₂ Q
  | .neg a, loc, H, Q => wpE P l X a loc H fun v H₁ => onInt v fun i => Q (.int (-i)) H₁
  | .not a, loc, H, Q => wpE P l X a loc H fun v H₁ => onBool v fun b => Q (.bool (!b)) H₁
  | .and a b, loc, H, Q => wpE P l X a loc H fun v H₁ => onBool v fun c => if c = true then wpE P l X b loc H₁ Q else Q (.bool false) H₁
  | .or a b, loc, H, Q => wpE P l X a loc H fun v H₁ => onBool v fun c => if c = true then Q (.bool true) H₁ else wpE P l X b loc H₁ Q
  | .cmp op a b, loc, H, Q => wpE P l X a loc H fun v H₁ => wpE P l X b loc H₁ fun u H₂ => opCmp op v u H₂ Q
  | .chain op1 op2 a b c, loc, H, Q => wpE P l X a loc H fun v H₁ => wpE P l X b loc H₁ fun u H₂ => opCmp op1 v u H₂ fun r H₃ => onBool r fun t =>
      if t = true then wpE P l X c loc H₃ fun z H₄ => opCmp op2 u z H₄ Q else Q (.bool false) H₃
  | .idx o i, loc, H, Q => wpE P l X o loc H fun v H₁ => wpE P l X i loc H₁ fun u H₂ => opIdx v u H₂ Q
  | .slc o a b c, loc, H, Q => wpE P l X o loc H fun v H₁ => wpE P l X a loc H₁ fun x H₂ => wpE P l X b loc H₂ fun y H₃ => wpE P l X c loc H₃ fun z H₄ => opSlc v x y z H₄ Q
  | .tup es, loc, H, Q => wpEs P l X es loc H fun vs H₁ => vs.length ≤ smallN ∧ Q (.tup vs) H₁
  | .lst es, loc, H, Q => wpEs P l X es loc H fun vs H₁ => vs.length ≤ smallN ∧ Q (.ref H₁.length) (H₁ ++ [vs])
  | .dct ks es, loc, H, Q => wpEs P l X es loc H fun vs H₁ => Q (.dict ks vs) H₁
  | .call f es, loc, H, Q => 0 < l.k ∧ wpEs P l X es loc H fun vs H₁ => CallP P l f vs H₁ Q X
  | .prim b es, loc, H, Q => l.q = true ∧ wpEs P l X es loc H fun vs H₁ => opPrim b vs H₁ Q
  | .isin t e, loc, H, Q => wpE P l X e loc H fun v H₁ => offRng v (Q (.bool (isInst t v)) H₁)
  | .isown t e, loc, H, Q => wpE P l X e loc H fun v H₁ => onExc P t v fun b => Q (.bool b) H₁
  | .meth m o es, loc, H, Q => wpE P l X o loc H fun v H₁ => onL v <| wpEs P l X es loc H₁ fun vs H₂ => opMeth m v vs H₂ Q
  | .comp elt cs cap nv it, loc, H, Q => l.q = true ∧ wpE P l X it loc H fun v H₁ => ∃ its items base, iterOf H₁ v = some its ∧ its.length ≤ smallN ∧ Rens [] H₁ its items ∧ CapRel H₁ loc cap base ∧
      compItems (fun x K => opt (bindItem nv x) fun bx => wpTests P l X cs (base ++ bx) K)
        (fun x K => opt (bindItem nv x) fun bx => wpE P l X elt (base ++ bx) [] fun r Hc => ∃ r', Ren [] Hc r r' ∧ ((items = its ∧ base = cap.map fun i => loc[i]?.join) ∨ NoFl r') ∧ K r') items
        fun vs => Q (.ref H₁.length) (H₁ ++ [vs])
noncomputable def wpEs (P : PC) (l : Lv) (X : Str → Prop) : List CE → List (Option AV) → AH → (List AV → AH → Prop) → Prop
  | [], _, H, Q => Q [] H
  | e :: r, loc, H, Q => wpE P l X e loc H fun v H₁ => wpEs P l X r loc H₁ fun vs H₂ => Q (v :: vs) H₂
noncomputable def wpTests (P : PC) (l : Lv) (X : Str → Prop) : List CE → List (Option AV) → (Bool → Prop) → Prop
  | [], _, K => K true
  | c :: _, loc, K => wpE P l X c loc [] fun v _ => onBool v K
end
section
variable {P : PC} {l : Lv} {X : Str → Prop} {loc : List (Option AV)} {H : AH} {Q : AV → AH → Prop}
theorem w_const (v : AV) : wpE P l X (.const v) loc H Q = (Q v H) := rfl
theorem w_var (i : Nat) : wpE P l X (.var i) loc H Q = (opt (loc[i]?.join) fun v => Q v H) := rfl
theorem w_bin (op : Operator) (a b : CE) : wpE P l X (.bin op a b) loc H Q = (wpE P l X a loc H fun v H₁ => wpE P l X b loc H₁ fun u H₂ => opBin op v u H₂ Q) := rfl
theorem w_neg (a : CE) : wpE P l X (.neg a) loc H Q = (wpE P l X a loc H fun v H₁ => onInt v fun i => Q (.int (-i)) H₁) := rfl
theorem w_not (a : CE) : wpE P l X (.not a) loc H Q = (wpE P l X a loc H fun v H₁ => onBool v fun b => Q (.bool (!b)) H₁) := rfl
theorem w_and (a b : CE) : wpE P l X (.and a b) loc H Q = (wpE P l X a loc H fun v H₁ => onBool v fun c => if c = true then wpE P l X b loc H₁ Q else Q (.bool false) H₁) := rfl
theorem w_or (a b : CE) : wpE P l X (.or a b) loc H Q = (wpE P l X a loc H fun v H₁ => onBool v fun c => if c = true then Q (.bool true) H₁ else wpE P l X b loc H₁ Q) := rfl
theorem w_cmp (op : CmpOp) (a b : CE) : wpE P l X (.cmp op a b) loc H Q = (wpE P l X a loc H fun v H₁ => wpE P l X b loc H₁ fun u H₂ => opCmp op v u H₂ Q) := rfl
theorem w_chain (op1 op2 : CmpOp) (a b c : CE) : wpE P l X (.chain op1 op2 a b c) loc H Q = (wpE P l X a loc H fun v H₁ => wpE P l X b loc H₁ fun u H₂ => opCmp op1 v u H₂ fun r H₃ => onBool r fun t =>
      if t = true then wpE P l X c loc H₃ fun z H₄ => opCmp op2 u z H₄ Q else Q (.bool false) H₃) := rfl
theorem w_idx (o i : CE) : wpE P l X (.idx o i) loc H Q = (wpE P l X o loc H fun v H₁ => wpE P l X i loc H₁ fun u H₂ => opIdx v u H₂ Q) := rfl
theorem w_slc (o a b c : CE) : wpE P l X (.slc o a b c) loc H Q = (wpE P l X o loc H fun v H₁ => wpE P l X a loc H₁ fun x H₂ => wpE P l X b loc H₂ fun y H₃ => wpE P l X c loc H₃ fun z H₄ => opSlc v x y z H₄ Q) := rfl
theorem w_tup (es : List CE) : wpE P l X (.tup es) loc H Q = (wpEs P l X es loc H fun vs H₁ => vs.length ≤ smallN ∧ Q (.tup vs) H₁) := rfl
theorem w_lst (es : List CE) : wpE P l X (.lst es) loc H Q = (wpEs P l X es loc H fun vs H₁ => vs.length ≤ smallN ∧ Q (.ref H₁.length) (H₁ ++ [vs])) := rfl
theorem w_dct (ks : List Str) (es : List CE) : wpE P l X (.dct ks es) loc H Q = (wpEs P l X es loc H fun vs H₁ => Q (.dict ks vs) H₁) := rfl
theorem w_call (f : Nat) (es : List CE) : wpE P l X (.call f es) loc H Q = (0 < l.k ∧ wpEs P l X es loc H fun vs H₁ => CallP P l f vs H₁ Q X) := rfl
theorem w_prim (b : Pr) (es : List CE) : wpE P l X (.prim b es) loc H Q = (l.q = true ∧ wpEs P l X es loc H fun vs H₁ => opPrim b vs H₁ Q) := rfl
theorem w_isin (t : Ty) (e : CE) : wpE P l X (.isin t e) loc H Q = (wpE P l X e loc H fun v H₁ => offRng v (Q (.bool (isInst t v)) H₁)) := rfl
theorem w_isown (t : Str) (e : CE) : wpE P l X (.isown t e) loc H Q = (wpE P l X e loc H fun v H₁ => onExc P t v fun b => Q (.bool b) H₁) := rfl
theorem w_meth (m : Mt) (o : CE) (es : List CE) : wpE P l X (.meth m o es) loc H Q = (wpE P l X o loc H fun v H₁ => onL v <| wpEs P l X es loc H₁ fun vs H₂ => opMeth m v vs H₂ Q) := rfl
theorem w_comp (elt : CE) (cs : List CE) (cap : List Nat) (nv : Nat) (it : CE) : wpE P l X (.comp elt cs cap nv it) loc H Q = (l.q = true ∧ wpE P l X it loc H fun v H₁ => ∃ its items base, iterOf H₁ v = some its ∧ its.length ≤ smallN ∧ Rens [] H₁ its items ∧ CapRel H₁ loc cap base ∧
      compItems (fun x K => opt (bindItem nv x) fun bx => wpTests P l X cs (base ++ bx) K)
        (fun x K => opt (bindItem nv x) fun bx => wpE P l X elt (base ++ bx) [] fun r Hc => ∃ r', Ren [] Hc r r' ∧ ((items = its ∧ base = cap.map fun i => loc[i]?.join) ∨ NoFl r') ∧ K r') items
        fun vs => Q (.ref H₁.length) (H₁ ++ [vs])) := rfl
theorem w_nil {Q : List AV → AH → Prop} : wpEs P l X [] loc H Q = Q [] H := rfl
theorem w_cons {Q : List AV → AH → Prop} (e : CE) (r : List CE) : wpEs P l X (e :: r) loc H Q = (wpE P l X e loc H fun v H₁ => wpEs P l X r loc H₁ fun vs H₂ => Q (v :: vs) H₂) := rfl
theorem w_t0 {K : Bool → Prop} : wpTests P l X [] loc K = K true := rfl
theorem w_t1 {K : Bool → Prop} (c : CE) (r : List CE) : wpTests P l X (c :: r) loc K = (wpE P l X c loc [] fun v _ => onBool v K) := rfl
end

open PySem PyProof.Rows PySem.SeqAt

noncomputable def EnvOk (env : Env) : Prop := env.scope.kind = .function ∧ env.globals = mainGlobals ∧ env.builtins = builtinsNs ∧ ∀ x, env.kindOf x = some .cell → ∃ c, env.cells.lookup x = some c
/-- a name's value -/
noncomputable def NameAt (env : Env) (h : Heap) (x : Str) (v : Value) : Prop :=
  (env.kindOf x = some .local ∧ ∃ m, h.Ns env.locals m ∧ m x = some v) ∨ (env.kindOf x = some .cell ∧ ∃ c, env.cells.lookup x = some c ∧ h.IsCell c (some v))
theorem NameAt.kp {env : Env} {h h' : Heap} {x : Str} {v : Value} (n : NameAt env h x v) (k : Kp h h') : NameAt env h' x v :=
  n.elim (fun ⟨a, m, b, c⟩ => .inl ⟨a, m, b.keeps k, c⟩) fun ⟨a, c, b, d⟩ => .inr ⟨a, c, b, d.keeps k⟩

structure Cx (P : PC) (l : Lv) (A : Around) (env : Env) (names : List Str) (S : Sx) (ρ : List Addr) (loc : List (Option AV)) (H : AH) (s : Shared) : Prop where
  aok : Aok l A
  gok : GOk P s.heap
  pp : S.prog = P.prog
  pw : S.w = P.w
  sd : SD S s.heap
  sim : HSim S ρ H s.heap
  loc : ∀ (i : Nat) (x : Str) (v : AV), names[i]? = some x → loc[i]?.join = some v → ∃ rv, NameAt env s.heap x rv ∧ VRel S ρ s.heap v rv
theorem Cx.kp {P : PC} {l : Lv} {A : Around} {env : Env} {names : List Str} {S : Sx} {ρ e : List Addr} {loc : List (Option AV)} {H G : AH} {s : Shared} {h' : Heap} {tk : Nat} (C : Cx P l A env names S ρ loc H s)
    (k : Kp s.heap h') (f : Fresh s.heap e) (X : HSim S (ρ ++ e) (H ++ G) h') : Cx P l A env names S (ρ ++ e) loc (H ++ G) { s with heap := h', toks := tk } where
  aok := C.aok
  gok := C.gok.kp k
  pp := C.pp
  pw := C.pw
  sd := C.sd.kp k
  sim := X
  loc := fun i x v en e => let ⟨rv, h2, h3⟩ := C.loc i x v en e; ⟨rv, h2.kp k, h3.kp k f⟩

/-- E takes what a call raises -/
noncomputable def ExOk (P : PC) (A : Around) (X : Str → Prop) (E : Value → Shared → Prop) (s : Shared) : Prop :=
  ∀ h tk e s', Kp s.heap h → ExcC P A { s with heap := h, toks := tk } X e s' → E e s'
theorem ExOk.kp {P : PC} {A : Around} {X : Str → Prop} {E : Value → Shared → Prop} {s : Shared} {h' : Heap} {tk : Nat} (x : ExOk P A X E s) (k : Kp s.heap h') : ExOk P A X E { s with heap := h', toks := tk } :=
  fun h tk' e s' k' q => x h tk' e s' (k.trans k') q

noncomputable def EvOk (P : PC) (l : Lv) (env : Env) (names : List Str) (e : PySem.Expr) (c : CE) : Prop :=
  ∀ (A : Around) (S : Sx) (ρ : List Addr) (loc : List (Option AV)) (H : AH) (s : Shared) (Q : AV → AH → Prop) (X : Str → Prop) (E : Value → Shared → Prop),
    Cx P l A env names S ρ loc H s → ExOk P A X E s → wpE P l X c loc H Q → wpAny (model P.prog P.w) A (eval e env) (EP S ρ H s Q) E s

/-- several values -/
noncomputable def EPs (S : Sx) (ρ : List Addr) (H : AH) (s : Shared) (Q : List AV → AH → Prop) (xs : List Value) (s' : Shared) : Prop :=
  ∃ h' tk e vs G, s' = { s with heap := h', toks := tk } ∧ Kp s.heap h' ∧ Fresh s.heap e ∧ HSim S (ρ ++ e) (H ++ G) h' ∧ VRels S (ρ ++ e) h' vs xs ∧ Q vs (H ++ G)

section
variable {P : PC} {l : Lv} {A : Around} {env : Env} {names : List Str} {S : Sx} {ρ : List Addr} {loc : List (Option AV)} {H : AH} {s : Shared} {X : Str → Prop} {E : Value → Shared → Prop}

theorem fresh_trans {h h₁ : Heap} {e e' : List Addr} (k : Kp h h₁) (f : Fresh h e) (f' : Fresh h₁ e') : Fresh h (e ++ e') := fun a ha => by
  rcases List.mem_append.mp ha with q | q
  · exact f a q
  · cases q0 : h.get? a with
    | none => rfl
    | some o => have := f' a q; rw [k a o q0] at this; cases this

theorem not_starred {nt : NT} {n : Nat} {kd : Str → Option NameKind} {e : PySem.Expr} {c : CE} (h : compE nt n kd names e = some c) (rest : List PySem.Expr) : starEach (e :: rest) env = (false, eval e env) :: starEach rest env := by
  cases n with
  | zero => cases h
  | succ n => cases e <;> first | rfl | cases h
theorem not_marks {nt : NT} {n : Nat} {kd : Str → Option NameKind} {e : PySem.Expr} {c : CE} (h : compE nt n kd names e = some c) (op : CmpOp) : behindInMarks op e = false := by
  cases n with
  | zero => cases h
  | succ n => cases e <;> first | rfl | cases h

theorem allSome_cons {α β : Type} {f : α → Option β} {x : α} {r : List α} {l : List β} (h : allSome ((x :: r).map f) = some l) : ∃ a t, f x = some a ∧ allSome (r.map f) = some t ∧ l = a :: t := by
  rw [List.map_cons] at h
  cases e : f x with
  | none => rw [e] at h; cases h
  | some a =>
    rw [e] at h
    simp only [allSome] at h
    cases e' : allSome (r.map f) with
    | none => rw [e'] at h; cases h
    | some t => rw [e'] at h; cases h; exact ⟨a, t, rfl, rfl, rfl⟩

theorem args_ok {nt : NT} {n : Nat} {kd : Str → Option NameKind} {pos : Pos} (ih : ∀ (e : PySem.Expr) (c : CE), compE nt n kd names e = some c → EvOk P l env names e c) :
    ∀ (es : List PySem.Expr) (cs : List CE), allSome (es.map (compE nt n kd names)) = some cs → ∀ {ρ : List Addr} {H : AH} {s : Shared} {Q : List AV → AH → Prop}, Cx P l A env names S ρ loc H s → ExOk P A X E s → wpEs P l X cs loc H Q →
      wpAny (model P.prog P.w) A (spliced (backTo pos (starEach es env))) (EPs S ρ H s Q) E s
  | [], _, hc, ρ, H, s, Q, C, hE, h => by
    cases hc
    exact args_nil ⟨s.heap, s.toks, [], [], [], rfl, Kp.refl _, Fresh.nil _, by simpa using C.sim, .nil, by simpa [w_nil, w_cons] using h⟩
  | e :: r, cs, hc, ρ, H, s, Q, C, hE, h => by
    obtain ⟨a, t, e1, e2, rfl⟩ := allSome_cons hc
    refine args_cons (wpAny_mono (ih e a e1 A S ρ loc H s _ X E C hE h) (fun x s₁ hx => ?_) fun _ _ y => y) (not_starred e1 r)
    obtain ⟨h1, tk1, n1, v1, G1, rfl, k1, f1, X1, V1, q1⟩ := hx
    refine wpAny_mono (args_ok ih r t e2 (C.kp k1 f1 X1) (hE.kp k1) q1) (fun xs s₂ hx => ?_) fun _ _ y => y
    obtain ⟨h2, tk2, n2, vs, G2, rfl, k2, f2, X2, V2, q2⟩ := hx
    exact ⟨h2, tk2, n1 ++ n2, v1 :: vs, G1 ++ G2, rfl, k1.trans k2, fresh_trans k1 f1 f2, by simpa [List.append_assoc] using X2, by simpa [List.append_assoc] using VRels.cons (V1.kp k2 f2) V2, by simpa [List.append_assoc] using q2⟩

theorem name_ok (ho : EnvOk env) {x : Str} {p : Pos} {i : Nat} (e : slotOf env.kindOf names x = some i) : EvOk P l env names (.Name x p) (.var i) := by
  intro A S ρ loc H s Q X E C hE h
  unfold slotOf at e
  split at e
  · rename_i hc
    simp at hc
    simp only [w_const, w_var, w_bin, w_neg, w_not, w_and, w_or, w_cmp, w_chain, w_idx, w_slc, w_tup, w_lst, w_dct, w_call, w_prim, w_isin, w_isown, w_meth, w_comp] at h
    obtain ⟨v, ev, q⟩ := opt_of h
    obtain ⟨rv, h2, h3⟩ := C.loc i x v (idxOf_get e) ev
    have hd : (x == ("__debug__" : Str)) = false := by simpa using hc.2
    rcases h2 with ⟨hk, m, hn, hm⟩ | ⟨hk, c, hc', hm⟩
    · exact wpAny_Name (wpAny_loadName_local ho.1 hk hn hm (EP.val0 C.sim h3 q)) hd
    · exact wpAny_Name (wpAny_loadName_cell ho.1 hk hc' hm (EP.val0 C.sim h3 q)) hd
  · cases e
theorem glob_ok (ho : EnvOk env) {x : Str} {p : Pos} {v : AV} (e : isGlob env.kindOf x = true) (ec : P.nt.consts.lookup x = some v) : EvOk P l env names (.Name x p) (.const v) := by
  intro A S ρ loc H s Q X E C hE h
  unfold isGlob at e
  simp at e
  obtain ⟨rv, e1, V⟩ := C.gok.cst x v ec
  have hd : (x == ("__debug__" : Str)) = false := by simpa using e.2
  exact Calls.Name_function_global ho.1 e.1 (Calls.loadGlobal_global (by rw [ho.2.1]; exact C.gok.g) e1 (EP.val0 C.sim (V _ _ _) h)) hd
/-- a built-in's name -/
theorem bi_ok (ho : EnvOk env) {x : Str} {p : Pos} {v : Value} {Q : Value → Shared → Prop} (C : GOk P s.heap) (e : isGlob env.kindOf x = true) (eb : biOf x = some v) (h : Q v s) : wpAny (model P.prog P.w) A (eval (.Name x p) env) Q E s := by
  unfold isGlob at e
  simp at e
  have hd : (x == ("__debug__" : Str)) = false := by simpa using e.2
  have q := C.bi x v eb
  exact Calls.Name_function_global ho.1 e.1 (Calls.loadGlobal_builtin (by rw [ho.2.1]; exact C.g) q.1 (by rw [ho.2.2.1]; exact C.b) q.2 h) hd
end

open PySem PyProof.Rows PySem.SeqAt
section
variable {P : PC} {l : Lv} {A : Around} {env : Env} {names : List Str} {S : Sx} {ρ : List Addr} {loc : List (Option AV)} {H : AH} {s : Shared} {X : Str → Prop} {E : Value → Shared → Prop} {Q : AV → AH → Prop}

theorem const_ok {c : Const} {v : AV} {k : Nat} {p : Pos} (e : constOf c = some v) : EvOk P l env names (.Constant c k p) (.const v) := by
  intro A S ρ loc H s Q X E C hE h
  rw [eval_Constant]
  simp only [w_const, w_var, w_bin, w_neg, w_not, w_and, w_or, w_cmp, w_chain, w_idx, w_slc, w_tup, w_lst, w_dct, w_call, w_prim, w_isin, w_isown, w_meth, w_comp] at h
  cases c <;> simp [constOf] at e <;> subst e
  · exact wpAny_pure (EP.val0 C.sim .none h)
  · exact wpAny_pure (EP.val0 C.sim (.bool _) h)
  · exact wpAny_mkInt (EP.val C.sim (.int _ _) h _)
  · exact wpAny_mkText (EP.val C.sim (.str _ _) h _)

/-- two expressions, one behind the other -/
theorem two_ok {a b : PySem.Expr} {c d : CE} {R : AV → AV → AH → Prop} {t : Value → Value → Sem Value} (ia : EvOk P l env names a c) (ib : EvOk P l env names b d) (C : Cx P l A env names S ρ loc H s) (hE : ExOk P A X E s)
    (h : wpE P l X c loc H fun v H₁ => wpE P l X d loc H₁ fun u H₂ => R v u H₂)
    (fin : ∀ {ρ' : List Addr} {H' : AH} {s' : Shared} {v u : AV} {x y : Value}, Cx P l A env names S ρ' loc H' s' → VRel S ρ' s'.heap v x → VRel S ρ' s'.heap u y → R v u H' → wpAny (model P.prog P.w) A (t x y) (EP S ρ' H' s' Q) E s') :
    wpAny (model P.prog P.w) A (eval a env) (fun x s₁ => wpAny (model P.prog P.w) A (eval b env) (fun y s₂ => wpAny (model P.prog P.w) A (t x y) (EP S ρ H s Q) E s₂) E s₁) E s := by
  refine wpAny_mono (ia A S ρ loc H s _ X E C hE h) (fun x s₁ hx => ?_) fun _ _ y => y
  obtain ⟨h1, tk1, n1, v1, G1, rfl, k1, f1, X1, V1, q1⟩ := hx
  refine wpAny_mono (ib A S _ loc _ _ _ X E (C.kp k1 f1 X1) (hE.kp k1) q1) (fun y s₂ hy => ?_) fun _ _ y => y
  obtain ⟨h2, tk2, n2, v2, G2, rfl, k2, f2, X2, V2, q2⟩ := hy
  refine wpAny_mono (fin ((C.kp (tk := tk1) k1 f1 X1).kp (tk := tk2) k2 f2 X2) (V1.kp k2 f2) V2 q2) (fun z s₃ hz => EP.after k1 f1 (EP.after k2 f2 hz)) fun _ _ y => y

theorem bin_ok {a b : PySem.Expr} {op : Operator} {p : Pos} {c d : CE} (ia : EvOk P l env names a c) (ib : EvOk P l env names b d) : EvOk P l env names (.BinOp a op b p) (.bin op c d) := by
  intro A S ρ loc H s Q X E C hE h
  simp only [w_const, w_var, w_bin, w_neg, w_not, w_and, w_or, w_cmp, w_chain, w_idx, w_slc, w_tup, w_lst, w_dct, w_call, w_prim, w_isin, w_isown, w_meth, w_comp] at h
  exact wpAny_BinOp (two_ok (t := fun x y => binaryOp op x y) ia ib C hE h fun C' Va Vb q => opBin_ok op C'.sim C'.sd Va Vb q)
theorem units_ok {A : Around} (h : Aok l A) : A.units + 100 < cLine := by have := h.2.2; omega
theorem cmp_ok {a b : PySem.Expr} {op : CmpOp} {p : Pos} {c d : CE} (ia : EvOk P l env names a c) (ib : EvOk P l env names b d) (hm : behindInMarks op b = false) : EvOk P l env names (.Compare a [op] [b] p) (.cmp op c d) := by
  intro A S ρ loc H s Q X E C hE h
  simp only [w_const, w_var, w_bin, w_neg, w_not, w_and, w_or, w_cmp, w_chain, w_idx, w_slc, w_tup, w_lst, w_dct, w_call, w_prim, w_isin, w_isown, w_meth, w_comp] at h
  exact wpAny_Compare1 (two_ok (t := fun x y => compareOp op x y) ia ib C hE h fun C' Va Vb q => opCmp_ok op (units_ok C'.aok) C'.sim Va Vb q) hm
theorem neg_ok {a : PySem.Expr} {p : Pos} {c : CE} (ia : EvOk P l env names a c) : EvOk P l env names (.UnaryOp .USub a p) (.neg c) := by
  intro A S ρ loc H s Q X E C hE h
  simp only [w_const, w_var, w_bin, w_neg, w_not, w_and, w_or, w_cmp, w_chain, w_idx, w_slc, w_tup, w_lst, w_dct, w_call, w_prim, w_isin, w_isown, w_meth, w_comp] at h
  show wpAny _ A (do let v ← eval a env; standAt p; holding [v] (unaryOp .USub v)) _ _ s
  refine wpAny_bind (wpAny_mono (ia A S ρ loc H s _ X E C hE h) (fun x s₁ hx => ?_) fun _ _ y => y)
  obtain ⟨h1, tk1, n1, v1, G1, rfl, k1, f1, X1, V1, qz⟩ := hx
  obtain ⟨i, rfl, q⟩ := onInt_of qz
  cases V1
  refine wpAny_bind (wpAny_standAt (wpAny_holding (PySem.P.neg_int (EP.after (G := G1) (tk₁ := tk1) k1 f1 ?_))))
  exact EP.val X1 (.int _ _) q _
theorem unaryNot {M : Model} {A : Around} {b : Bool} {s : Shared} {Q : Value → Shared → Prop} (h : Q (.bool (!b)) s) : wpAny M A (unaryOp .Not (.bool b)) Q E s := by
  show wpAny M A (do return .bool (!(← truthy (.bool b)))) Q E s
  exact wpAny_bind (wpAny_truthy_bool (wpAny_pure h))
theorem not_ok {a : PySem.Expr} {p : Pos} {c : CE} (ia : EvOk P l env names a c) : EvOk P l env names (.UnaryOp .Not a p) (.not c) := by
  intro A S ρ loc H s Q X E C hE h
  simp only [w_const, w_var, w_bin, w_neg, w_not, w_and, w_or, w_cmp, w_chain, w_idx, w_slc, w_tup, w_lst, w_dct, w_call, w_prim, w_isin, w_isown, w_meth, w_comp] at h
  show wpAny _ A (do let v ← eval a env; standAt p; holding [v] (unaryOp .Not v)) _ _ s
  refine wpAny_bind (wpAny_mono (ia A S ρ loc H s _ X E C hE h) (fun x s₁ hx => ?_) fun _ _ y => y)
  obtain ⟨h1, tk1, n1, v1, G1, rfl, k1, f1, X1, V1, qz⟩ := hx
  obtain ⟨i, rfl, q⟩ := onBool_of qz
  cases V1
  refine wpAny_bind (wpAny_standAt (wpAny_holding (unaryNot (EP.after k1 f1 (EP.val0 X1 (.bool _) q)))))

theorem subscripted_eq (slice : PySem.Expr) (o i : Value) : ∃ ops, subscripted slice false o i = operate ops (getItem o i) := by
  cases slice <;> first | exact ⟨_, rfl⟩ | skip
  rename_i lo hi st p
  cases st <;> exact ⟨_, rfl⟩
theorem idx_ok {a b : PySem.Expr} {p : Pos} {c d : CE} (ia : EvOk P l env names a c) (ib : EvOk P l env names b d) : EvOk P l env names (.Subscript a b p) (.idx c d) := by
  intro A S ρ loc H s Q X E C hE h
  simp only [w_const, w_var, w_bin, w_neg, w_not, w_and, w_or, w_cmp, w_chain, w_idx, w_slc, w_tup, w_lst, w_dct, w_call, w_prim, w_isin, w_isown, w_meth, w_comp] at h
  refine Subscript_ (two_ok (t := fun x y => subscriptTail a b x y) ia ib C hE h @fun _ _ _ _ _ x y C' Va Vb q => ?_)
  obtain ⟨hT, hg⟩ := getItem_ok (prog := P.prog) (w := P.w) (A := A) (E := E) C'.pp C'.pw C'.sim Va Vb q
  obtain ⟨ops, e⟩ := subscripted_eq b x y
  rcases hT with hT | hT | hT
  · exact tail_any hT slot_list_getitem.lookup hg e
  · exact tail_any hT slot_tuple_getitem.lookup hg e
  · exact tail_any hT slot_dict_getitem.lookup hg e

/-- an expression that may be left out -/
theorem optE_ok {nt : NT} {n : Nat} {kd : Str → Option NameKind} {lo : Option PySem.Expr} {c : CE} (ih : ∀ (e : PySem.Expr) (c : CE), compE nt n kd names e = some c → EvOk P l env names e c)
    (e : (match lo with | some e => compE nt n kd names e | Option.none => some (.const .none)) = some c) (C : Cx P l A env names S ρ loc H s) (hE : ExOk P A X E s) (h : wpE P l X c loc H Q) :
    wpAny (model P.prog P.w) A (valueOrNone (evalOpt lo env)) (EP S ρ H s Q) E s := by
  cases lo with
  | none =>
    cases e
    simp only [w_const, w_var, w_bin, w_neg, w_not, w_and, w_or, w_cmp, w_chain, w_idx, w_slc, w_tup, w_lst, w_dct, w_call, w_prim, w_isin, w_isown, w_meth, w_comp] at h
    exact wpAny_pure (EP.val0 C.sim .none h)
  | some a => exact ih a c e A S ρ loc H s Q X E C hE h
theorem slc_ok {nt : NT} {n : Nat} {kd : Str → Option NameKind} {o : PySem.Expr} {lo hi st : Option PySem.Expr} {p p' : Pos} {c c1 c2 c3 : CE} (ih : ∀ (e : PySem.Expr) (c : CE), compE nt n kd names e = some c → EvOk P l env names e c)
    (e0 : compE nt n kd names o = some c) (e1 : compOpt (compE nt n kd names) lo = some c1)
    (e2 : compOpt (compE nt n kd names) hi = some c2) (e3 : compOpt (compE nt n kd names) st = some c3) :
    EvOk P l env names (.Subscript o (.Slice lo hi st p) p') (.slc c c1 c2 c3) := by
  intro A S ρ loc H s Q X E C hE h
  simp only [w_const, w_var, w_bin, w_neg, w_not, w_and, w_or, w_cmp, w_chain, w_idx, w_slc, w_tup, w_lst, w_dct, w_call, w_prim, w_isin, w_isown, w_meth, w_comp] at h
  refine Subscript_ (wpAny_mono (ih o c e0 A S ρ loc H s _ X E C hE h) (fun x s₁ hx => ?_) fun _ _ y => y)
  obtain ⟨h1, tk1, n1, v1, G1, rfl, k1, f1, X1, V1, q1⟩ := hx
  have C1 := C.kp (tk := tk1) k1 f1 X1
  have E1 := hE.kp (tk := tk1) k1
  show wpAny _ A (do let l ← valueOrNone (evalOpt lo env); let u ← holding [l] (valueOrNone (evalOpt hi env)); let s ← holding [l, u] (valueOrNone (evalOpt st env)); newFields "slice" [l, u, s]) _ _ _
  refine wpAny_bind (wpAny_mono (optE_ok ih e1 C1 E1 q1) (fun vl s₂ hy => ?_) fun _ _ y => y)
  obtain ⟨h2, tk2, n2, v2, G2, rfl, k2, f2, X2, V2, q2⟩ := hy
  have C2 := C1.kp (tk := tk2) k2 f2 X2
  have E2 := E1.kp (tk := tk2) k2
  refine wpAny_bind (wpAny_holding (wpAny_mono (optE_ok ih e2 C2 E2 q2) (fun vu s₃ hy => ?_) fun _ _ y => y))
  obtain ⟨h3, tk3, n3, v3, G3, rfl, k3, f3, X3, V3, q3⟩ := hy
  have C3 := C2.kp (tk := tk3) k3 f3 X3
  have E3 := E2.kp (tk := tk3) k3
  refine wpAny_bind (wpAny_holding (wpAny_mono (optE_ok ih e3 C3 E3 q3) (fun vs s₄ hy => ?_) fun _ _ y => y))
  obtain ⟨h4, tk4, n4, v4, G4, rfl, k4, f4, X4, V4, q4⟩ := hy
  refine wpAny_newObj_type ?_
  have W1 := ((V1.kp k2 f2).kp k3 f3).kp k4 f4
  have W2 := (V2.kp k3 f3).kp k4 f4
  have W3 := V3.kp k4 f4
  have D4 := (C3.kp (tk := tk4) k4 f4 X4).sd
  have fresh : h4.get? (h4.push { cls := .type "slice", data := .fields #[vl, vu, vs] }).objs.size = none := by
    cases q0 : h4.get? (h4.push { cls := .type "slice", data := .fields #[vl, vu, vs] }).objs.size with
    | none => rfl
    | some o => exact absurd (Heap.lt_size q0) (by simp)
  rcases opSlc_of q4 with ⟨ws, rfl, qt⟩ | ⟨ws, lo', hi', st', ei, hsm, el, eu, es, h0, q⟩
  · obtain ⟨a, rfl, rfl, rfl, ⟨a1, a2, a3⟩, q⟩ := slcT_of qt
    cases W1 with
    | tup ha hs hpt hv =>
      rename_i la items
      cases W2
      cases W3
      cases V4
      have e1' := hv.length
      simp only [Array.length_toList] at e1'
      have hsz : items.size ≤ sizeLine := by unfold smallN at a3; have : sizeLine = 2 ^ 24 := rfl; omega
      obtain ⟨m, hpt⟩ := hpt
      rename_i tt
      have ht : IsTup (h4.push { cls := .type "slice", data := .fields #[.int a tt, .none, .none] }) la items := ⟨_, Heap.get?_push_of_some _ hpt, rfl, _, rfl⟩
      obtain ⟨ops, eo⟩ := subscripted_eq (.Slice lo hi st p) (.ref la) (.ref h4.objs.size)
      obtain ⟨j, rfl⟩ := Int.eq_ofNat_of_zero_le (Int.le_trans (by decide) a1)
      refine tail_any ht.typeIs slot_tuple_getitem.lookup (getItem_tuple_from ht (Heap.IsSliceOf.new ..) (by omega) (by omega) ?_ hsz) eo
      refine EP.after (G := G1) (tk₁ := tk1) k1 f1 (EP.after (G := G2) (tk₁ := tk2) k2 f2 (EP.after (G := G3) (tk₁ := tk3) k3 f3 (EP.after (G := G4) (tk₁ := tk4) k4 f4 ?_)))
      exact EP.newT X4 D4 ((push_kp _ _).trans (push_kp _ _)) fresh ⟨0, Heap.get?_push_size _ rfl⟩ (by simpa using hv.drop j) q
  obtain ⟨la, items, rfl, hl, vv⟩ := items_real X4 W1 ei
  have hl' : Heap.PlainList (h4.push { cls := .type "slice", data := .fields #[vl, vu, vs] }) la items := PlainList.at' hl fun o e => Heap.get?_push_of_some _ e
  obtain ⟨ops, eo⟩ := subscripted_eq (.Slice lo hi st p) (.ref la) (.ref h4.objs.size)
  have e1' := vv.length
  simp only [Array.length_toList] at e1'
  have hsz : items.size ≤ sizeLine := by unfold smallN at hsm; have : sizeLine = 2 ^ 24 := rfl; omega
  refine tail_any (PL.isList hl').typeIs slot_list_getitem.lookup (wpAny_getItem_list_slice (hsz := hsz) (PL.isList hl') (Heap.IsSliceOf.new ..) (optInt_part W2 el) (optInt_part W3 eu) (optInt_part V4 es) h0 ?_) eo
  refine EP.after (G := G1) (tk₁ := tk1) k1 f1 (EP.after (G := G2) (tk₁ := tk2) k2 f2 (EP.after (G := G3) (tk₁ := tk3) k3 f3 (EP.after (G := G4) (tk₁ := tk4) k4 f4 ?_)))
  exact EP.newL X4 D4 ((push_kp _ _).trans (push_kp _ _)) fresh ⟨0, Heap.get?_push_size _ rfl⟩ (vv.slPick lo' hi' st') q

theorem tup_ok {nt : NT} {n : Nat} {kd : Str → Option NameKind} {es : List PySem.Expr} {k : Nat} {p : Pos} {cs : List CE} (ih : ∀ (e : PySem.Expr) (c : CE), compE nt n kd names e = some c → EvOk P l env names e c)
    (e : allSome (es.map (compE nt n kd names)) = some cs) : EvOk P l env names (.Tuple es k p) (.tup cs) := by
  intro A S ρ loc H s Q X E C hE h
  simp only [w_const, w_var, w_bin, w_neg, w_not, w_and, w_or, w_cmp, w_chain, w_idx, w_slc, w_tup, w_lst, w_dct, w_call, w_prim, w_isin, w_isown, w_meth, w_comp] at h
  refine Tuple_ (wpAny_mono (args_ok ih es cs e C hE h) (fun xs s₁ hx => ?_) fun _ _ y => y)
  obtain ⟨h1, tk1, n1, vs, G1, rfl, k1, f1, X1, V1, hsm, q1⟩ := hx
  have e1 := V1.length
  refine wpAny_newObj_type (EP.after k1 f1 (EP.pushT (items := xs.toArray) X1 (C.kp (tk := tk1) k1 f1 X1).sd (by simpa using V1) q1 tk1)) ?_
  show xs.toArray.size ≤ sizeLine
  unfold smallN at hsm; have : sizeLine = 2 ^ 24 := rfl; simp only [List.size_toArray]; omega
theorem lst_ok {nt : NT} {n : Nat} {kd : Str → Option NameKind} {es : List PySem.Expr} {p : Pos} {cs : List CE} (ih : ∀ (e : PySem.Expr) (c : CE), compE nt n kd names e = some c → EvOk P l env names e c)
    (e : allSome (es.map (compE nt n kd names)) = some cs) : EvOk P l env names (.List es p) (.lst cs) := by
  intro A S ρ loc H s Q X E C hE h
  simp only [w_const, w_var, w_bin, w_neg, w_not, w_and, w_or, w_cmp, w_chain, w_idx, w_slc, w_tup, w_lst, w_dct, w_call, w_prim, w_isin, w_isown, w_meth, w_comp] at h
  refine List_ (wpAny_mono (args_ok ih es cs e C hE h) (fun xs s₁ hx => ?_) fun _ _ y => y)
  obtain ⟨h1, tk1, n1, vs, G1, rfl, k1, f1, X1, V1, hsm, q1⟩ := hx
  have e1 := V1.length
  refine wpAny_newObj_type (EP.after k1 f1 (EP.pushL (items := xs.toArray) X1 (C.kp (tk := tk1) k1 f1 X1).sd (by simpa using V1) q1 tk1)) ?_
  show xs.toArray.size ≤ sizeLine
  unfold smallN at hsm; have : sizeLine = 2 ^ 24 := rfl; simp only [List.size_toArray]; omega

/-- a truth value -/
noncomputable def BP (S : Sx) (ρ : List Addr) (H : AH) (s : Shared) (K : Bool → AH → Prop) (b : Bool) (s' : Shared) : Prop :=
  ∃ h' tk e G, s' = { s with heap := h', toks := tk } ∧ Kp s.heap h' ∧ Fresh s.heap e ∧ HSim S (ρ ++ e) (H ++ G) h' ∧ K b (H ++ G)
theorem BP.after {h₁ : Heap} {tk₁ : Nat} {e : List Addr} {G : AH} {s₂ : Shared} {K : Bool → AH → Prop} {b : Bool} (hk : Kp s.heap h₁) (hf : Fresh s.heap e)
    (h : BP S (ρ ++ e) (H ++ G) { s with heap := h₁, toks := tk₁ } K b s₂) : BP S ρ H s K b s₂ := by
  obtain ⟨h', tk, e', G', rfl, k', f', X', q'⟩ := h
  exact ⟨h', tk, e ++ e', G ++ G', rfl, hk.trans k', fresh_trans hk hf f', by simpa [List.append_assoc] using X', by simpa [List.append_assoc] using q'⟩
noncomputable def isB (K : Bool → AH → Prop) (v : AV) (H : AH) : Prop := onBool v fun b => K b H
theorem EP.toB {K : Bool → AH → Prop} {x : Value} {s' : Shared} (h : EP S ρ H s (isB K) x s') : ∃ b, x = .bool b ∧ BP S ρ H s K b s' := by
  obtain ⟨h1, tk1, n1, v1, G1, rfl, k1, f1, X1, V1, qz⟩ := h
  obtain ⟨b, rfl, q⟩ := onBool_of qz
  cases V1
  exact ⟨b, rfl, h1, tk1, n1, G1, rfl, k1, f1, X1, q⟩
noncomputable def TrOk (P : PC) (l : Lv) (env : Env) (names : List Str) (e : PySem.Expr) (c : CE) : Prop :=
  ∀ (A : Around) (S : Sx) (ρ : List Addr) (loc : List (Option AV)) (H : AH) (s : Shared) (K : Bool → AH → Prop) (X : Str → Prop) (E : Value → Shared → Prop),
    Cx P l A env names S ρ loc H s → ExOk P A X E s → wpE P l X c loc H (isB K) → wpAny (model P.prog P.w) A (isTrue e env (eval e env)) (BP S ρ H s K) E s
/-- most tests are a value and its truth -/
theorem tr_plain {e : PySem.Expr} {c : CE} (he : EvOk P l env names e c) (hi : isTrue e env (eval e env) = (do let v ← eval e env; standAt e.pos; holding [v] (truthy v))) : TrOk P l env names e c := by
  intro A S ρ loc H s K X E C hE h
  rw [hi]
  refine wpAny_bind (wpAny_mono (he A S ρ loc H s _ X E C hE h) (fun x s₁ hx => ?_) fun _ _ y => y)
  obtain ⟨b, rfl, q⟩ := hx.toB
  exact wpAny_bind (wpAny_standAt (wpAny_holding (wpAny_truthy_bool q)))
theorem tr_not {a : PySem.Expr} {p : Pos} {c : CE} (ia : TrOk P l env names a c) : TrOk P l env names (.UnaryOp .Not a p) (.not c) := by
  intro A S ρ loc H s K X E C hE h
  simp only [w_const, w_var, w_bin, w_neg, w_not, w_and, w_or, w_cmp, w_chain, w_idx, w_slc, w_tup, w_lst, w_dct, w_call, w_prim, w_isin, w_isown, w_meth, w_comp, isB] at h
  show wpAny _ A (do return !(← isTrue a env (eval a env))) _ _ s
  refine wpAny_bind (wpAny_mono (ia A S ρ loc H s (fun b H' => K (!b) H') X E C hE ?_) (fun b s₁ hb => wpAny_pure hb) fun _ _ y => y)
  exact h
theorem tr_cmp {a b : PySem.Expr} {op : CmpOp} {p : Pos} {c d : CE} (ia : EvOk P l env names a c) (ib : EvOk P l env names b d) (hm : behindInMarks op b = false) : TrOk P l env names (.Compare a [op] [b] p) (.cmp op c d) := by
  intro A S ρ loc H s K X E C hE h
  simp only [w_const, w_var, w_bin, w_neg, w_not, w_and, w_or, w_cmp, w_chain, w_idx, w_slc, w_tup, w_lst, w_dct, w_call, w_prim, w_isin, w_isown, w_meth, w_comp] at h
  refine wpAny_isTrue_Compare1 ?_ hm
  refine wpAny_mono (two_ok (Q := isB K) (t := fun x y => compareOp op x y) ia ib C hE h fun C' Va Vb q => opCmp_ok op (units_ok C'.aok) C'.sim Va Vb q) (fun x s₁ hx => wpAny_mono hx (fun y s₂ hy => wpAny_mono hy (fun z s₃ hz => ?_) fun _ _ y => y) fun _ _ y => y) fun _ _ y => y
  obtain ⟨t, rfl, q⟩ := hz.toB
  exact wpAny_truthy_bool q
end

open PySem PyProof.Rows PySem.SeqAt
section
variable {P : PC} {l : Lv} {A : Around} {env : Env} {names : List Str} {S : Sx} {ρ : List Addr} {loc : List (Option AV)} {H : AH} {s : Shared} {X : Str → Prop} {E : Value → Shared → Prop} {Q : AV → AH → Prop}

theorem wpAny_release' {M : Model} {A : Around} {vs keep : List Value} {s : Shared} {Q : Unit → Shared → Prop} (h : Q () s) : wpAny M A (release vs keep) Q E s := fun Γ p hΓ => by rw [Sem.wp_release]; exact h
theorem marked2 {op1 op2 : CmpOp} {m r : PySem.Expr} (h : behindInMarks op2 r = false) : markedEach [op1, op2] [m, r] (evalEach [m, r] env) = [eval m env, eval r env] := by
  show [eval m env, markedBehindIn op2 r (eval r env)] = _
  rw [markedBehindIn_of_false h]
/-- the first two of a chain -/
theorem chain_start {a b : PySem.Expr} {op1 : CmpOp} {c d : CE} {R : AV → Bool → AH → Prop} (ia : EvOk P l env names a c) (ib : EvOk P l env names b d) (C : Cx P l A env names S ρ loc H s) (hE : ExOk P A X E s) {α : Type} {QQ : α → Shared → Prop} {t : Value → Value → Sem α}
    (h : wpE P l X c loc H fun v H₁ => wpE P l X d loc H₁ fun u H₂ => opCmp op1 v u H₂ (isB (R u)))
    (fin : ∀ {ρ' : List Addr} {H' : AH} {h' : Heap} {tk : Nat} {u : AV} {y : Value} {z : Bool} {e : List Addr} {G : AH}, ρ' = ρ ++ e → H' = H ++ G → Kp s.heap h' → Fresh s.heap e → Cx P l A env names S ρ' loc H' { s with heap := h', toks := tk } → ExOk P A X E { s with heap := h', toks := tk } → VRel S ρ' h' u y → R u z H' →
      wpAny (model P.prog P.w) A (t y (.bool z)) QQ E { s with heap := h', toks := tk }) :
    wpAny (model P.prog P.w) A (eval a env) (fun x s₁ => wpAny (model P.prog P.w) A (eval b env) (fun y s₂ => wpAny (model P.prog P.w) A (compareOp op1 x y) (fun z s₃ => wpAny (model P.prog P.w) A (t y z) QQ E s₃) E s₂) E s₁) E s := by
  refine wpAny_mono (ia A S ρ loc H s _ X E C hE h) (fun x s₁ hx => ?_) fun _ _ y => y
  obtain ⟨h1, tk1, n1, v1, G1, rfl, k1, f1, X1, V1, q1⟩ := hx
  have C1 := C.kp (tk := tk1) k1 f1 X1
  refine wpAny_mono (ib A S _ loc _ _ _ X E C1 (hE.kp k1) q1) (fun y s₂ hy => ?_) fun _ _ y => y
  obtain ⟨h2, tk2, n2, v2, G2, rfl, k2, f2, X2, V2, q2⟩ := hy
  have C2 := C1.kp (tk := tk2) k2 f2 X2
  refine wpAny_mono (opCmp_ok op1 (units_ok C.aok) X2 (V1.kp k2 f2) V2 q2) (fun z s₃ hz => ?_) fun _ _ y => y
  obtain ⟨h3, tk3, n3, v3, G3, rfl, k3, f3, X3, V3, qz⟩ := hz
  obtain ⟨b, rfl, q3⟩ := onBool_of qz
  cases V3
  have C3 := C2.kp (tk := tk3) k3 f3 X3
  refine fin (e := n1 ++ n2 ++ n3) (G := G1 ++ G2 ++ G3) (by simp [List.append_assoc]) (by simp [List.append_assoc]) ((k1.trans k2).trans k3) (fresh_trans (k1.trans k2) (fresh_trans k1 f1 f2) f3) C3 (((hE.kp (tk := tk1) k1).kp (tk := tk2) k2).kp k3) (V2.kp k3 f3) q3
theorem chain_ok {a b r : PySem.Expr} {op1 op2 : CmpOp} {p : Pos} {c d f : CE} (ia : EvOk P l env names a c) (ib : EvOk P l env names b d) (ir : EvOk P l env names r f) (hm : behindInMarks op2 r = false) : EvOk P l env names (.Compare a [op1, op2] [b, r] p) (.chain op1 op2 c d f) := by
  intro A S ρ loc H s Q X E C hE h
  simp only [w_const, w_var, w_bin, w_neg, w_not, w_and, w_or, w_cmp, w_chain, w_idx, w_slc, w_tup, w_lst, w_dct, w_call, w_prim, w_isin, w_isown, w_meth, w_comp] at h
  show wpAny _ A (do compareChain p (← eval a env) [op1, op2] (markedEach [op1, op2] [b, r] (evalEach [b, r] env))) _ _ s
  rw [marked2 hm]
  refine wpAny_bind (wpAny_mono (chain_start (t := fun y z => do release [y, y] [z]; if ← holding [z, y] (truthy z) then compareChain p y [op2] [eval r env] else pure z) (QQ := EP S ρ H s Q) ia ib C hE (R := fun u t H₃ => if t = true then wpE P l X f loc H₃ fun z H₄ => opCmp op2 u z H₄ Q else Q (.bool false) H₃) h ?_) (fun x s₁ hx => ?_) fun _ _ y => y)
  · intro ρ' H' h' tk u y z e G e1 e2 k fr C' E' V q
    subst e1 e2
    refine wpAny_bind (wpAny_release' (wpAny_bind (wpAny_holding (wpAny_truthy_bool ?_))))
    cases z with
    | false => exact wpAny_pure (EP.after k fr (EP.val0 C'.sim (.bool _) (by simpa using q)))
    | true =>
      simp only [if_true] at q ⊢
      show wpAny _ A (do let rv ← holding [y] (eval r env); standAt p; operate [y, rv] (compareOp op2 y rv)) _ _ _
      refine wpAny_bind (wpAny_holding (wpAny_mono (ir A S _ loc _ _ _ X E C' E' q) (fun x s₁ hx => ?_) fun _ _ y => y))
      obtain ⟨h1, tk1, n1, v1, G1, rfl, k1, f1, X1, V1, q1⟩ := hx
      refine wpAny_bind (wpAny_standAt (wpAny_operating (wpAny_mono (opCmp_ok op2 (units_ok C.aok) X1 (V.kp k1 f1) V1 q1) (fun z s₃ hz => ?_) fun _ _ y => y)))
      exact EP.after k fr (EP.after k1 f1 hz)
  · show wpAny _ A (do let rv ← holding [x] (eval b env); standAt p; let c ← holding [x, rv] (compareOp op1 x rv); release [x, rv] [c]; if ← holding [c, rv] (truthy c) then compareChain p rv [op2] [eval r env] else pure c) _ _ s₁
    refine wpAny_bind (wpAny_holding (wpAny_mono hx (fun y s₂ hy => wpAny_bind (wpAny_standAt (wpAny_bind (wpAny_holding (wpAny_mono hy (fun z s₃ hz => ?_) fun _ _ y => y))))) fun _ _ y => y))
    refine wpAny_bind (wpAny_release' ?_)
    have := hz
    unfold wpAny at this ⊢
    intro Γ pp hΓ
    have q := this Γ pp hΓ
    simp only [Sem.wp_bind', Sem.wp_release, Sem.wp_holding] at q ⊢
    exact q
theorem tr_chain {a b r : PySem.Expr} {op1 op2 : CmpOp} {p : Pos} {c d f : CE} (ia : EvOk P l env names a c) (ib : EvOk P l env names b d) (ir : EvOk P l env names r f) (hm : behindInMarks op2 r = false) : TrOk P l env names (.Compare a [op1, op2] [b, r] p) (.chain op1 op2 c d f) := by
  intro A S ρ loc H s K X E C hE h
  simp only [w_const, w_var, w_bin, w_neg, w_not, w_and, w_or, w_cmp, w_chain, w_idx, w_slc, w_tup, w_lst, w_dct, w_call, w_prim, w_isin, w_isown, w_meth, w_comp] at h
  show wpAny _ A (do testChain p (← eval a env) [op1, op2] (markedEach [op1, op2] [b, r] (evalEach [b, r] env))) _ _ s
  rw [marked2 hm]
  refine wpAny_bind (wpAny_mono (chain_start (t := fun y z => do release [y, y] [z]; if ← holding [z, y] (truthy z) then testChain p y [op2] [eval r env] else pure false) (QQ := BP S ρ H s K) ia ib C hE (R := fun u t H₃ => if t = true then wpE P l X f loc H₃ fun z H₄ => opCmp op2 u z H₄ (isB K) else isB K (.bool false) H₃) h ?_) (fun x s₁ hx => ?_) fun _ _ y => y)
  · intro ρ' H' h' tk u y z e G e1 e2 k fr C' E' V q
    subst e1 e2
    refine wpAny_bind (wpAny_release' (wpAny_bind (wpAny_holding (wpAny_truthy_bool ?_))))
    cases z with
    | false =>
      have q' : isB K (.bool false) (H ++ G) := by simpa using q
      replace q' : K false (H ++ G) := q'
      exact wpAny_pure (BP.after (tk₁ := tk) k fr ⟨h', tk, [], [], rfl, Kp.refl _, Fresh.nil _, by simpa using C'.sim, by simpa using q'⟩)
    | true =>
      simp only [if_true] at q ⊢
      show wpAny _ A (do let rv ← holding [y] (eval r env); standAt p; let c ← operate [y, rv] (compareOp op2 y rv); holding [c] (truthy c)) _ _ _
      refine wpAny_bind (wpAny_holding (wpAny_mono (ir A S _ loc _ _ _ X E C' E' q) (fun x s₁ hx => ?_) fun _ _ y => y))
      obtain ⟨h1, tk1, n1, v1, G1, rfl, k1, f1, X1, V1, q1⟩ := hx
      refine wpAny_bind (wpAny_standAt (wpAny_bind (wpAny_operating (wpAny_mono (opCmp_ok op2 (units_ok C.aok) X1 (V.kp k1 f1) V1 q1) (fun z s₃ hz => ?_) fun _ _ y => y))))
      obtain ⟨t, rfl, q⟩ := hz.toB
      exact wpAny_holding (wpAny_truthy_bool (BP.after k fr (BP.after k1 f1 q)))
  · show wpAny _ A (do let rv ← holding [x] (eval b env); standAt p; let c ← holding [x, rv] (compareOp op1 x rv); release [x, rv] [c]; if ← holding [c, rv] (truthy c) then testChain p rv [op2] [eval r env] else pure false) _ _ s₁
    refine wpAny_bind (wpAny_holding (wpAny_mono hx (fun y s₂ hy => wpAny_bind (wpAny_standAt (wpAny_bind (wpAny_holding (wpAny_mono hy (fun z s₃ hz => ?_) fun _ _ y => y))))) fun _ _ y => y))
    refine wpAny_bind (wpAny_release' ?_)
    have := hz
    unfold wpAny at this ⊢
    intro Γ pp hΓ
    have q := this Γ pp hΓ
    simp only [Sem.wp_bind', Sem.wp_release, Sem.wp_holding] at q ⊢
    exact q

theorem boolNest2 (op : BoolOp) (a b : CE) (r : List CE) : boolNest op (a :: b :: r) = (boolNest op (b :: r)).map (match op with | .And => CE.and a | .Or => CE.or a) := rfl
/-- and, or: the value -/
theorem bool_ok {nt : NT} {n : Nat} {kd : Str → Option NameKind} {pos : Pos} (op : BoolOp) (ih : ∀ (e : PySem.Expr) (c : CE), compE nt n kd names e = some c → EvOk P l env names e c) :
    ∀ (es : List PySem.Expr) (cs : List CE) (c : CE), allSome (es.map (compE nt n kd names)) = some cs → boolNest op cs = some c → ∀ {ρ : List Addr} {H : AH} {s : Shared} {Q : AV → AH → Prop}, Cx P l A env names S ρ loc H s → ExOk P A X E s → wpE P l X c loc H Q →
      wpAny (model P.prog P.w) A (boolOp pos op (evalEach es env)) (EP S ρ H s Q) E s
  | [], _, c, hc, hn, _, _, _, _, _, _, _ => by cases hc; cases hn
  | [e], _, c, hc, hn, ρ, H, s, Q, C, hE, h => by
    obtain ⟨a, t, e1, e2, rfl⟩ := allSome_cons hc
    cases e2
    cases hn
    exact ih e _ e1 A S ρ loc H s Q X E C hE h
  | e :: e' :: r, _, c, hc, hn, ρ, H, s, Q, C, hE, h => by
    obtain ⟨a, t, e1, e2, rfl⟩ := allSome_cons hc
    obtain ⟨a', t', e1', e2', rfl⟩ := allSome_cons e2
    rw [boolNest2] at hn
    cases q : boolNest op (a' :: t') with
    | none => rw [q] at hn; cases hn
    | some d =>
      have hn' := hn
      rw [q] at hn'
      show wpAny _ A (do let v ← eval e env; standAt pos; let t ← holding [v] (truthy v); match op, t with | .And, false | .Or, true => pure v | _, _ => boolOp pos op (evalEach (e' :: r) env)) _ _ s
      have tail := fun {ρ : List Addr} {H : AH} {s : Shared} {Q : AV → AH → Prop} => bool_ok (pos := pos) op ih (e' :: r) (a' :: t') d e2 q (ρ := ρ) (H := H) (s := s) (Q := Q)
      cases op with
      | And =>
        cases hn'
        simp only [w_const, w_var, w_bin, w_neg, w_not, w_and, w_or, w_cmp, w_chain, w_idx, w_slc, w_tup, w_lst, w_dct, w_call, w_prim, w_isin, w_isown, w_meth, w_comp] at h
        refine wpAny_bind (wpAny_mono (ih e a e1 A S ρ loc H s _ X E C hE h) (fun x s₁ hx => ?_) fun _ _ y => y)
        obtain ⟨h1, tk1, n1, v1, G1, rfl, k1, f1, X1, V1, qz⟩ := hx
        obtain ⟨b, rfl, q1⟩ := onBool_of qz
        cases V1
        refine wpAny_bind (wpAny_standAt (wpAny_bind (wpAny_holding (wpAny_truthy_bool ?_))))
        cases b with
        | false => exact wpAny_pure (EP.after k1 f1 (EP.val0 X1 (.bool _) (by simpa using q1)))
        | true => exact wpAny_mono (tail (C.kp (tk := tk1) k1 f1 X1) (hE.kp k1) (by simpa using q1)) (fun z s₂ hz => EP.after k1 f1 hz) fun _ _ y => y
      | Or =>
        cases hn'
        simp only [w_const, w_var, w_bin, w_neg, w_not, w_and, w_or, w_cmp, w_chain, w_idx, w_slc, w_tup, w_lst, w_dct, w_call, w_prim, w_isin, w_isown, w_meth, w_comp] at h
        refine wpAny_bind (wpAny_mono (ih e a e1 A S ρ loc H s _ X E C hE h) (fun x s₁ hx => ?_) fun _ _ y => y)
        obtain ⟨h1, tk1, n1, v1, G1, rfl, k1, f1, X1, V1, qz⟩ := hx
        obtain ⟨b, rfl, q1⟩ := onBool_of qz
        cases V1
        refine wpAny_bind (wpAny_standAt (wpAny_bind (wpAny_holding (wpAny_truthy_bool ?_))))
        cases b with
        | true => exact wpAny_pure (EP.after k1 f1 (EP.val0 X1 (.bool _) (by simpa using q1)))
        | false => exact wpAny_mono (tail (C.kp (tk := tk1) k1 f1 X1) (hE.kp k1) (by simpa using q1)) (fun z s₂ hz => EP.after k1 f1 hz) fun _ _ y => y
theorem BP.here {K : Bool → AH → Prop} {b : Bool} (X : HSim S ρ H s.heap) (q : K b H) : BP S ρ H s K b s := ⟨s.heap, s.toks, [], [], rfl, Kp.refl _, Fresh.nil _, by simpa using X, by simpa using q⟩
/-- and, or: the test -/
theorem tr_bool {nt : NT} {n : Nat} {kd : Str → Option NameKind} (op : BoolOp) (ih : ∀ (e : PySem.Expr) (c : CE), compE nt n kd names e = some c → TrOk P l env names e c) :
    ∀ (es : List PySem.Expr) (cs : List CE) (c : CE), allSome (es.map (compE nt n kd names)) = some cs → boolNest op cs = some c → ∀ {ρ : List Addr} {H : AH} {s : Shared} {K : Bool → AH → Prop}, Cx P l A env names S ρ loc H s → ExOk P A X E s → wpE P l X c loc H (isB K) →
      wpAny (model P.prog P.w) A (allTrue op es env) (BP S ρ H s K) E s
  | [], _, c, hc, hn, _, _, _, _, _, _, _ => by cases hc; cases hn
  | [e], _, c, hc, hn, ρ, H, s, K, C, hE, h => by
    obtain ⟨a, t, e1, e2, rfl⟩ := allSome_cons hc
    cases e2
    cases hn
    show wpAny _ A (do match op, ← isTrue e env (eval e env) with | .And, false => pure false | .Or, true => pure true | _, _ => allTrue op [] env) _ _ s
    refine wpAny_bind (wpAny_mono (ih e _ e1 A S ρ loc H s K X E C hE h) (fun b s₁ hb => ?_) fun _ _ y => y)
    cases op <;> cases b <;> exact wpAny_pure hb
  | e :: e' :: r, _, c, hc, hn, ρ, H, s, K, C, hE, h => by
    obtain ⟨a, t, e1, e2, rfl⟩ := allSome_cons hc
    obtain ⟨a', t', e1', e2', rfl⟩ := allSome_cons e2
    rw [boolNest2] at hn
    cases q : boolNest op (a' :: t') with
    | none => rw [q] at hn; cases hn
    | some d =>
      have hn' := hn
      rw [q] at hn'
      show wpAny _ A (do match op, ← isTrue e env (eval e env) with | .And, false => pure false | .Or, true => pure true | _, _ => allTrue op (e' :: r) env) _ _ s
      have tail := fun {ρ : List Addr} {H : AH} {s : Shared} {K : Bool → AH → Prop} => tr_bool op ih (e' :: r) (a' :: t') d e2 q (ρ := ρ) (H := H) (s := s) (K := K)
      cases op with
      | And =>
        cases hn'
        simp only [w_const, w_var, w_bin, w_neg, w_not, w_and, w_or, w_cmp, w_chain, w_idx, w_slc, w_tup, w_lst, w_dct, w_call, w_prim, w_isin, w_isown, w_meth, w_comp] at h
        refine wpAny_bind (wpAny_mono (ih e a e1 A S ρ loc H s (fun b H₁ => if b = true then wpE P l X d loc H₁ (isB K) else isB K (.bool false) H₁) X E C hE h) (fun b s₁ hx => ?_) fun _ _ y => y)
        obtain ⟨h1, tk1, n1, G1, rfl, k1, f1, X1, q1⟩ := hx
        cases b with
        | false =>
          have q0 : isB K (.bool false) (H ++ G1) := by simpa using q1
          exact wpAny_pure (BP.after (tk₁ := tk1) k1 f1 (BP.here X1 q0))
        | true => exact wpAny_mono (tail (C.kp (tk := tk1) k1 f1 X1) (hE.kp k1) (by simpa using q1)) (fun z s₂ hz => BP.after k1 f1 hz) fun _ _ y => y
      | Or =>
        cases hn'
        simp only [w_const, w_var, w_bin, w_neg, w_not, w_and, w_or, w_cmp, w_chain, w_idx, w_slc, w_tup, w_lst, w_dct, w_call, w_prim, w_isin, w_isown, w_meth, w_comp] at h
        refine wpAny_bind (wpAny_mono (ih e a e1 A S ρ loc H s (fun b H₁ => if b = true then isB K (.bool true) H₁ else wpE P l X d loc H₁ (isB K)) X E C hE h) (fun b s₁ hx => ?_) fun _ _ y => y)
        obtain ⟨h1, tk1, n1, G1, rfl, k1, f1, X1, q1⟩ := hx
        cases b with
        | true =>
          have q0 : isB K (.bool true) (H ++ G1) := by simpa using q1
          exact wpAny_pure (BP.after (tk₁ := tk1) k1 f1 (BP.here X1 q0))
        | false => exact wpAny_mono (tail (C.kp (tk := tk1) k1 f1 X1) (hE.kp k1) (by simpa using q1)) (fun z s₂ hz => BP.after k1 f1 hz) fun _ _ y => y
end

open PySem PyProof.Rows PySem.SeqAt
section
variable {P : PC} {l : Lv} {A : Around} {env : Env} {names : List Str} {S : Sx} {ρ : List Addr} {loc : List (Option AV)} {H : AH} {s : Shared} {X : Str → Prop} {E : Value → Shared → Prop} {Q : AV → AH → Prop}

theorem star_any {nt : NT} {n : Nat} {kd : Str → Option NameKind} {pos : Pos} : ∀ (es : List PySem.Expr) (cs : List CE), allSome (es.map (compE nt n kd names)) = some cs → (backTo pos (starEach es env)).any (·.1) = false
  | [], _, _ => rfl
  | e :: r, cs, h => by
    obtain ⟨a, t, e1, e2, rfl⟩ := allSome_cons h
    rw [not_starred e1 r]
    have := star_any (pos := pos) r t e2
    simpa [backTo] using this
theorem lookup_mem {α : Type} {x : Str} {v : α} : ∀ {l : List (Str × α)}, l.lookup x = some v → (x, v) ∈ l
  | [], h => by cases h
  | (y, u) :: r, h => by
    rw [List.lookup_cons] at h
    split at h
    · rename_i hy; cases h; simp at hy; subst hy; exact .head _
    · exact .tail _ (lookup_mem h)
theorem pr_bi {x : Str} {b : Pr} (h : prNames.lookup x = some b) : biOf x = some b.val := by
  have hm := lookup_mem h
  simp only [prNames, List.mem_cons, Prod.mk.injEq, List.not_mem_nil, or_false] at hm
  rcases hm with ⟨rfl, rfl⟩ | ⟨rfl, rfl⟩ | ⟨rfl, rfl⟩ | ⟨rfl, rfl⟩ | ⟨rfl, rfl⟩ | ⟨rfl, rfl⟩ | ⟨rfl, rfl⟩ | ⟨rfl, rfl⟩ | ⟨rfl, rfl⟩ | ⟨rfl, rfl⟩ <;> decide +kernel
theorem ty_bi {x : Str} {b : Ty} (h : tyNames.lookup x = some b) : biOf x = some (.type b.name) := by
  have hm := lookup_mem h
  simp only [tyNames, List.mem_cons, Prod.mk.injEq, List.not_mem_nil, or_false] at hm
  rcases hm with ⟨rfl, rfl⟩ | ⟨rfl, rfl⟩ | ⟨rfl, rfl⟩ | ⟨rfl, rfl⟩ | ⟨rfl, rfl⟩ <;> decide +kernel

theorem Ren.tup_inv {φ : List Nat} {H : AH} {vs ws : List AV} (r : Ren φ H (.tup vs) (.tup ws)) : Rens φ H vs ws := by cases r; assumption
theorem Ren.fl_inv {φ : List Nat} {H : AH} {vs ws : List AV} (r : Ren φ H (.fl vs) (.fl ws)) : Rens φ H vs ws := by cases r; assumption
theorem Ren.dict_inv {φ : List Nat} {H : AH} {ks : List Str} {vs ws : List AV} (r : Ren φ H (.dict ks vs) (.dict ks ws)) : Rens φ H vs ws := by cases r; assumption
theorem Ren.ref_inv {H : AH} {i j : Nat} (r : Ren [] H (.ref i) (.ref j)) : False := by cases r; rename_i h; simp at h
theorem Rens.cons_inv {φ : List Nat} {H : AH} {v w : AV} {vs ws : List AV} (r : Rens φ H (v :: vs) (w :: ws)) : Ren φ H v w ∧ Rens φ H vs ws := by cases r; constructor <;> assumption
/-- a value without lists that may change, seen from a callee -/
theorem VRel.pure {S : Sx} {ρ : List Addr} {H : AH} {h : Heap} {v : AV} {x : Value} (V : VRel S ρ h v x) : Ren [] H v v → VRel ⟨S.ad ++ ρ, S.prog, S.w⟩ [] h v x :=
  VRel.rec (motive_1 := fun v x _ => Ren [] H v v → VRel ⟨S.ad ++ ρ, S.prog, S.w⟩ [] h v x) (motive_2 := fun v x _ => Rens [] H v v → VRels ⟨S.ad ++ ρ, S.prog, S.w⟩ [] h v x)
    (fun _ => .none)
    (fun b _ => .bool b)
    (fun i t _ => .int i t)
    (fun x t _ => .str x t)
    (fun ha hs hi hv ih r => .tup (fun hm => nomatch hm) (fun hm => (List.mem_append.mp hm).elim hs ha) hi (ih r.tup_inv))
    (fun ha hs hi hv ih r => .fl (fun hm => nomatch hm) (fun hm => (List.mem_append.mp hm).elim hs ha) hi (ih r.fl_inv))
    (fun _ r => r.ref_inv.elim)
    (fun hr ha hs hi _ => .rng hr (fun hm => nomatch hm) (fun hm => (List.mem_append.mp hm).elim hs ha) hi)
    (fun ha hs hm he hv ih r => .dict (fun hm => nomatch hm) (fun hm => (List.mem_append.mp hm).elim hs ha) hm he (ih r.dict_inv))
    (fun ha hs hx _ => .exc (fun hm => nomatch hm) (fun hm => (List.mem_append.mp hm).elim hs ha) hx)
    (fun _ => .nil) (fun hv hr i1 i2 r => .cons (i1 r.cons_inv.1) (i2 r.cons_inv.2)) V
theorem VRels.pure {S : Sx} {ρ : List Addr} {H : AH} {h : Heap} {v : List AV} {x : List Value} (V : VRels S ρ h v x) : Rens [] H v v → VRels ⟨S.ad ++ ρ, S.prog, S.w⟩ [] h v x :=
  VRels.ind (M := fun v x => Rens [] H v v → VRels ⟨S.ad ++ ρ, S.prog, S.w⟩ [] h v x) (fun _ => .nil) (fun _ _ _ _ hv _ i2 r => .cons (VRel.pure hv r.cons_inv.1) (i2 r.cons_inv.2)) V
/-- a call's result, at the caller's -/
theorem call_here {f : Nat} {vs : List AV} {xs : List Value} {x : Str} {a : Addr} (C : Cx P l A env names S ρ loc H s) (hE : ExOk P A X E s) (hx : P.nt.fns[f]? = some x) (ha : P.mg x = some (.ref a)) (V : VRels S ρ s.heap vs xs) (h : CallP P l f vs H Q X) :
    wpAny (model P.prog P.w) A (call (.ref a) xs) (EP S ρ H s Q) E s := by
  obtain ⟨vs', R, hj⟩ := h
  by_cases hv : vs' = vs
  · subst hv
    refine wpAny_call (codeAny_mono (hj A s ⟨S.ad ++ ρ, S.prog, S.w⟩ xs x a C.aok C.gok hx ha C.pp C.pw (fun b hm => (List.mem_append.mp hm).elim (C.sd b) C.sim.mem) (V.pure R)) fun r s' hr => ?_)
    cases r with
    | error e => exact hE s.heap s.toks e s' (Kp.refl _) hr
    | ok fl =>
      obtain ⟨rv, h', tk, ρc, v, Hc, rfl, rfl, k, fr, Y, W, q0, q⟩ := hr
      have hA : ∀ a, a ∉ ρc → a ∉ (S.ad ++ ρ) → a ∉ ρ ∧ a ∉ S.ad := fun a _ h2 => ⟨fun q => h2 (List.mem_append_right _ q), fun q => h2 (List.mem_append_left _ q)⟩
      have Z := HSim.behind (Sc := ⟨S.ad ++ ρ, S.prog, S.w⟩) C.sim k fr C.sd rfl rfl Y (.inl hA)
      refine ⟨h', tk, ρc, v.shift H.length, Hc.map (AV.shifts H.length), rfl, k, fr, Z, ?_, q⟩
      rw [← C.sim.len]
      exact VRel.behind (S := S) (Sc := ⟨S.ad ++ ρ, S.prog, S.w⟩) rfl rfl hA (C.sim.kp k).noTuple (C.sim.kp k).listCls W
  · refine wpAny_call (codeAny_mono (hj A s S xs x a C.aok C.gok hx ha C.pp C.pw C.sd (V.frz C.sim R)) fun r s' hr => ?_)
    cases r with
    | error e => exact hE s.heap s.toks e s' (Kp.refl _) hr
    | ok fl =>
      obtain ⟨rv, h', tk, ρc, v, Hc, rfl, rfl, k, fr, Y, W, q0, q⟩ := hr
      have q1 := q0.resolve_left hv
      have Z := HSim.behind (Sc := S) C.sim k fr C.sd rfl rfl Y (.inr ⟨rfl, q1.2⟩)
      refine ⟨h', tk, ρc, v.shift H.length, Hc.map (AV.shifts H.length), rfl, k, fr, Z, ?_, q⟩
      rw [← C.sim.len]
      exact VRel.behindN (C.sim.kp k).noTuple (C.sim.kp k).listCls W q1.1

/-- a call of a def -/
theorem call_ok (ho : EnvOk env) {nt : NT} {n : Nat} {x : Str} {f : Nat} {p p' : Pos} {es : List PySem.Expr} {cs : List CE} (hnt : P.nt = nt) (ih : ∀ (e : PySem.Expr) (c : CE), compE nt n env.kindOf names e = some c → EvOk P l env names e c)
    (hg : isGlob env.kindOf x = true) (hf : idxOf x nt.fns = some f) (he : allSome (es.map (compE nt n env.kindOf names)) = some cs) (hne : cs.isEmpty = false) : EvOk P l env names (.Call (.Name x p) es [] p') (.call f cs) := by
  intro A S ρ loc H s Q X E C hE h
  simp only [w_const, w_var, w_bin, w_neg, w_not, w_and, w_or, w_cmp, w_chain, w_idx, w_slc, w_tup, w_lst, w_dct, w_call, w_prim, w_isin, w_isown, w_meth, w_comp] at h
  have hx : P.nt.fns[f]? = some x := by rw [hnt]; exact idxOf_get hf
  obtain ⟨a, o, ea, eo, fd, efd⟩ := C.gok.fn f x hx
  unfold isGlob at hg
  simp at hg
  have hd : (x == ("__debug__" : Str)) = false := by simpa using hg.2
  cases es with
  | nil => cases he; simp at hne
  | cons e r =>
  obtain ⟨c0, t0, e1, e2, rfl⟩ := allSome_cons he
  refine Call_ (Calls.Name_function_global ho.1 hg.1 (Calls.loadGlobal_global (by rw [ho.2.1]; exact C.gok.g) ea ?_) hd)
  refine callWith_def efd (wpAny_mono (args_ok ih (e :: r) (c0 :: t0) he C hE h.2) (fun xs s₁ hx1 => ?_) fun _ _ y => y) (not_starred e1 r)
  obtain ⟨h1, tk1, n1, vs, G1, rfl, k1, f1, X1, V1, q1⟩ := hx1
  refine ⟨k1 _ _ eo, wpAny_mono (call_here (C.kp (tk := tk1) k1 f1 X1) (hE.kp k1) hx ea V1 q1) (fun z s₂ hz => EP.after k1 f1 hz) fun _ _ y => y⟩
theorem prim_ok (ho : EnvOk env) {nt : NT} {n : Nat} {x : Str} {b : Pr} {p p' : Pos} {es : List PySem.Expr} {cs : List CE} (ih : ∀ (e : PySem.Expr) (c : CE), compE nt n env.kindOf names e = some c → EvOk P l env names e c)
    (hg : isGlob env.kindOf x = true) (hf : prNames.lookup x = some b) (he : allSome (es.map (compE nt n env.kindOf names)) = some cs) (hne : cs.isEmpty = false) : EvOk P l env names (.Call (.Name x p) es [] p') (.prim b cs) := by
  intro A S ρ loc H s Q X E C hE h
  simp only [w_const, w_var, w_bin, w_neg, w_not, w_and, w_or, w_cmp, w_chain, w_idx, w_slc, w_tup, w_lst, w_dct, w_call, w_prim, w_isin, w_isown, w_meth, w_comp] at h
  cases es with
  | nil => cases he; simp at hne
  | cons e r =>
  obtain ⟨c0, t0, e1, e2, rfl⟩ := allSome_cons he
  refine Call_ (bi_ok ho C.gok hg (pr_bi hf) ?_)
  have fin : wpAny (model P.prog P.w) A (spliced (backTo p' (starEach (e :: r) env))) (fun vs s₁ => wpAny (model P.prog P.w) A (call b.val vs) (EP S ρ H s Q) E s₁) E s := by
    refine wpAny_mono (args_ok ih (e :: r) (c0 :: t0) he C hE h.2) (fun xs s₁ hx1 => ?_) fun _ _ y => y
    obtain ⟨h1, tk1, n1, vs, G1, rfl, k1, f1, X1, V1, q1⟩ := hx1
    have C1 := C.kp (tk := tk1) k1 f1 X1
    exact wpAny_mono (opPrim_ok b (C.aok.1 h.1) X1 C1.sd V1 q1) (fun z s₂ hz => EP.after k1 f1 hz) fun _ _ y => y
  have hp := star_any (env := env) (pos := p') r t0 e2
  cases b with
  | len => exact callWith_builtin1 fin (not_starred e1 r) hp
  | all => exact callWith_builtin1 fin (not_starred e1 r) hp
  | sorted => exact callWith_builtin1 fin (not_starred e1 r) hp
  | min => exact callWith_builtin1 fin (not_starred e1 r) hp
  | max => exact callWith_builtin1 fin (not_starred e1 r) hp
  | int => exact PyProof.Rows.callWith_type1 fin (not_starred e1 r) hp
  | list => exact PyProof.Rows.callWith_type1 fin (not_starred e1 r) hp
  | tuple => exact PyProof.Rows.callWith_type1 fin (not_starred e1 r) hp
  | range => exact PyProof.Rows.callWith_type1 fin (not_starred e1 r) hp
  | str => exact PyProof.Rows.callWith_type1 fin (not_starred e1 r) hp
theorem isin_ok (ho : EnvOk env) {t : Str} {ty : Ty} {p p' p'' : Pos} {e : PySem.Expr} {c : CE} (ie : EvOk P l env names e c) (hs : ∀ rest, starEach (e :: rest) env = (false, eval e env) :: starEach rest env)
    (hg : isGlob env.kindOf ("isinstance" : Str) = true) (hg' : isGlob env.kindOf t = true) (hf : tyNames.lookup t = some ty) : EvOk P l env names (.Call (.Name "isinstance" p) [e, .Name t p''] [] p') (.isin ty c) := by
  intro A S ρ loc H s Q X E C hE h
  simp only [w_const, w_var, w_bin, w_neg, w_not, w_and, w_or, w_cmp, w_chain, w_idx, w_slc, w_tup, w_lst, w_dct, w_call, w_prim, w_isin, w_isown, w_meth, w_comp] at h
  refine Call_ (bi_ok (v := .builtin "isinstance") ho C.gok hg (by decide +kernel) (callWith_builtin1 ?_ (hs _) rfl))
  refine args_cons (wpAny_mono (ie A S ρ loc H s _ X E C hE h) (fun x s₁ hx => ?_) fun _ _ y => y) (hs _)
  obtain ⟨h1, tk1, n1, v1, G1, rfl, k1, f1, X1, V1, qz⟩ := hx
  obtain ⟨q0, q1⟩ := offRng_of qz
  have G := (C.kp (tk := tk1) k1 f1 X1).gok
  have fin := wpAny_mono (isinst_ok (prog := P.prog) (w := P.w) (A := A) (E := E) (s := { s with heap := h1, toks := tk1 }) ty X1 V1 q1 q0) (fun z s₂ hz => EP.after (s := s) (Q := Q) k1 f1 hz) fun _ _ y => y
  generalize { s with heap := h1, toks := tk1 } = s1 at G fin ⊢
  exact args_cons (bi_ok ho G hg' (ty_bi hf) (args_nil fin)) rfl
end

open PySem PyProof.Rows PySem.SeqAt
section
variable {prog : Program} {w : World} {A : Around} {S : Sx} {ρ : List Addr} {H : AH} {s : Shared} {E : Value → Shared → Prop} {v : AV} {x : Value}

/-- an iterator that owns no tuple -/
noncomputable def ownIts : List String := ["enumerate", "zip", "dict_itemiterator", "dict_reverseitemiterator", "odict_iterator", "itertools.zip_longest", "itertools.pairwise"]
noncomputable def PlainIt (o : Obj) : Prop := ∃ n, o.cls = .type n ∧ ownIts.contains n = false
theorem letGo_ok {target : PySem.Expr} {I : Addr} {y : Value} {o : Obj} {Q : Unit → Shared → Prop} (h : s.heap.get? I = some o) (p : PlainIt o) (hQ : Q () s) : wpAny (model prog w) A (letOwnedTupleGo target (.ref I) y) Q E s := by
  obtain ⟨n, hc, hn⟩ := p
  have fin : wpAny (model prog w) A (do let o ← load I; match o.cls, o.data with
      | .type n, .fields vs => if ownIts.contains n && vs[0]? == some (rawInt (match y with | .ref a => a | _ => 0)) then do rule "for.unpacks-the-owned-tuple"; updateField I 0 .none
      | _, _ => pure ()) Q E s := by
    refine wpAny_bind (wpAny_load h ?_)
    rw [hc]
    cases o.data <;> first | exact wpAny_pure hQ | skip
    dsimp only
    rw [hn, Bool.false_and, if_neg Bool.false_ne_true]
    exact wpAny_pure hQ
  cases target <;> first | exact wpAny_pure hQ | skip
  all_goals
    cases y <;> first | exact wpAny_pure hQ | exact fin
theorem iter_walk {its : List AV} {QQ : Value → Shared → Prop} (hh : A.handled = none) (X : HSim S ρ H s.heap) (V : VRel S ρ s.heap v x) (e : iterOf H v = some its)
    (h : ∀ (I : Addr) (fp wr : List Addr) (Pp : Nat → Value → Prop) (St : Nat → Heap → Prop) (h₂ : Heap), Walks prog w A I fp wr its.length Pp St → St 0 h₂ → Kp s.heap h₂ → (∀ b ∈ wr, b = I) → s.heap.get? I = none → (∀ b ∈ fp, b < h₂.objs.size) → (∀ b ∈ fp, b = I ∨ x = .ref b) →
      (∀ i y, i < its.length → Pp i y → ∃ u, its[i]? = some u ∧ VRel S ρ s.heap u y) → (∀ i h, St i h → ∃ o, h.get? I = some o ∧ PlainIt o) → QQ (.ref I) { s with heap := h₂ }) : wpAny (model prog w) A (pyIter x) QQ E s := by
  have seqc : ∀ vs, v.seq? H = some vs → vs = its → wpAny (model prog w) A (pyIter x) QQ E s := fun vs e1 e2 => by
    subst e2
    obtain ⟨l, items, rfl, hl, vv⟩ := seq_real X V e1
    have e3 := vv.length
    simp only [Array.length_toList] at e3
    have hlt : l < s.heap.objs.size := by
      rcases hl with ⟨n, hl⟩ | ⟨n, hl⟩ <;> exact Heap.lt_size hl
    have hitem : ∀ i y, i < vs.length → items[i]? = some y → ∃ u, vs[i]? = some u ∧ VRel S ρ s.heap u y := fun i y _ hy => vv.getR (by simpa using hy)
    rcases hl with hl | hl
    · refine wpAny_pyIter_list (PL.isList hl) ?_
      have W := Walks.list (prog := prog) (w := w) hh s.heap.objs.size l (Nat.ne_of_lt hlt) items
      rw [← e3] at W
      refine h _ _ _ _ _ _ W ⟨⟨_, Heap.get?_push_size _ rfl, rfl, rfl⟩, (PL.isList hl).at fun o e => Heap.get?_push_of_some _ e⟩ (push_kp _ _) (fun b hb => by simpa using hb) (size_none _) (fun b hb => ?_) (fun b hb => ?_) hitem (fun i h st => let ⟨o, ho, hc, _⟩ := st.1; ⟨o, ho, _, hc, by decide +kernel⟩)
      · simp only [List.mem_cons, List.not_mem_nil, or_false] at hb
        rcases hb with rfl | rfl
        · simp
        · simp; exact Nat.lt_succ_of_lt hlt
      · simp only [List.mem_cons, List.not_mem_nil, or_false] at hb
        rcases hb with rfl | rfl
        · exact .inl rfl
        · exact .inr rfl
    · refine wpAny_pyIter_tuple hl.isTuple ?_
      have W := Walks.tuple (prog := prog) (w := w) hh s.heap.objs.size l (Nat.ne_of_lt hlt) items
      rw [← e3] at W
      refine h _ _ _ _ _ _ W ⟨⟨_, Heap.get?_push_size _ rfl, rfl, rfl⟩, hl.isTuple.at fun o e => Heap.get?_push_of_some _ e⟩ (push_kp _ _) (fun b hb => by simpa using hb) (size_none _) (fun b hb => ?_) (fun b hb => ?_) hitem (fun i h st => let ⟨o, ho, hc, _⟩ := st.1; ⟨o, ho, _, hc, by decide +kernel⟩)
      · simp only [List.mem_cons, List.not_mem_nil, or_false] at hb
        rcases hb with rfl | rfl
        · simp
        · simp; exact Nat.lt_succ_of_lt hlt
      · simp only [List.mem_cons, List.not_mem_nil, or_false] at hb
        rcases hb with rfl | rfl
        · exact .inl rfl
        · exact .inr rfl
  cases V with
  | rng hr ha hs0 hi =>
    rename_i a i j k t u u'
    simp [iterOf] at e
    have hs := rng_size hr
    refine wpAny_pyIter_range hi (rng_small hr) ?_
    have W := Walks.range (prog := prog) (w := w) hh s.heap.objs.size i k (Builtin.Range.rangeSize i j k).toNat
    have el : its.length = (Builtin.Range.rangeSize i j k).toNat := by rw [← e]; simp [rngList]
    rw [← el] at W
    refine h _ _ _ _ _ _ W ?_ (push_kp _ _) (fun b hb => by simpa using hb) (size_none _) (fun b hb => by simp at hb; subst hb; simp) (fun b hb => .inl (by simpa using hb)) (fun n y hn hy => ?_) (fun i h st => ⟨_, st, _, rfl, by decide +kernel⟩)
    · have e0 : i + ((0 : Nat) : Int) * k = i := by simp
      have e1 : ((its.length : Nat) : Int) - ((0 : Nat) : Int) = Builtin.Range.rangeSize i j k := by rw [el]; omega
      rw [e0, e1]
      exact Heap.get?_push_size _ rfl
    · obtain ⟨t', rfl⟩ := hy
      refine ⟨.int (i + (n : Int) * k), ?_, .int _ _⟩
      rw [← e]
      rw [el] at hn
      simp [rngList, hn]
  | tup ha hs hi hv => simp [iterOf] at e; exact seqc _ e rfl
  | fl ha hs hi hv => simp [iterOf] at e; exact seqc _ e rfl
  | ref hi => simp [iterOf] at e; exact seqc _ e rfl
  | _ => simp [iterOf, AV.seq?, AV.items?] at e

/-- frozen values, seen from where some lists may change -/
theorem VRel.up {Sc : Sx} (hp : Sc.prog = S.prog) (hw : Sc.w = S.w) {h : Heap} (hA : ∀ a, a ∉ Sc.ad → a ∉ ρ ∧ a ∉ S.ad) (hT : ∀ a items, a ∈ ρ → ¬ PT h a items) (hR : ∀ a o, a ∈ ρ → h.get? a = some o → o.cls = .type "list") {v : AV} {x : Value} (V : VRel Sc [] h v x) : VRel S ρ h v x :=
  VRel.rec (motive_1 := fun v x _ => VRel S ρ h v x) (motive_2 := fun v x _ => VRels S ρ h v x)
    (.none)
    (fun b => .bool b)
    (fun i t => .int i t)
    (fun x t => .str x t)
    (fun _ hs hi hv ih => .tup (fun q => hT _ _ q hi) (hA _ hs).2 hi ih)
    (fun _ hs hi hv ih => .fl (hA _ hs).1 (hA _ hs).2 hi ih)
    (fun hi => by simp at hi)
    (fun hr _ hs hi => .rng hr (fun q => by have := hR _ _ q hi; simp at this) (hA _ hs).2 hi)
    (fun _ hs hm he hv ih => .dict (hA _ hs).1 (hA _ hs).2 (by rw [← hp, ← hw]; exact hm) he ih)
    (fun _ hs hx => .exc (hA _ hs).1 (hA _ hs).2 hx)
    .nil (fun _ _ i1 i2 => .cons i1 i2) V
theorem VRels.up {Sc : Sx} (hp : Sc.prog = S.prog) (hw : Sc.w = S.w) {h : Heap} (hA : ∀ a, a ∉ Sc.ad → a ∉ ρ ∧ a ∉ S.ad) (hT : ∀ a items, a ∈ ρ → ¬ PT h a items) (hR : ∀ a o, a ∈ ρ → h.get? a = some o → o.cls = .type "list") {v : List AV} {x : List Value} (V : VRels Sc [] h v x) : VRels S ρ h v x :=
  VRels.ind (M := fun v x => VRels S ρ h v x) .nil (fun _ _ _ _ v _ i2 => .cons (VRel.up hp hw hA hT hR v) i2) V
theorem VRel.upN {Sc : Sx} (hA : ∀ a, a ∉ Sc.ad → a ∉ S.ad) {h : Heap} (hT : ∀ a items, a ∈ ρ → ¬ PT h a items) (hR : ∀ a o, a ∈ ρ → h.get? a = some o → o.cls = .type "list") {v : AV} {x : Value} (V : VRel Sc [] h v x) : NoFl v → VRel S ρ h v x :=
  VRel.rec (motive_1 := fun v x _ => NoFl v → VRel S ρ h v x) (motive_2 := fun v x _ => NoFls v → VRels S ρ h v x)
    (fun _ => .none)
    (fun b _ => .bool b)
    (fun i t _ => .int i t)
    (fun x t _ => .str x t)
    (fun _ hs hi hv ih n => .tup (fun q => hT _ _ q hi) (hA _ hs) hi (ih n.tup_inv))
    (fun _ _ _ _ ih n => n.fl_inv.elim)
    (fun hi _ => by simp at hi)
    (fun hr _ hs hi _ => .rng hr (fun q => by have := hR _ _ q hi; simp at this) (hA _ hs) hi)
    (fun _ _ _ _ _ ih n => n.dict_inv.elim)
    (fun _ _ _ n => by cases n)
    (fun _ => .nil) (fun v r i1 i2 n => .cons (i1 n.cons_inv.1) (i2 n.cons_inv.2)) V
theorem VRels.upN {Sc : Sx} (hA : ∀ a, a ∉ Sc.ad → a ∉ S.ad) {h : Heap} (hT : ∀ a items, a ∈ ρ → ¬ PT h a items) (hR : ∀ a o, a ∈ ρ → h.get? a = some o → o.cls = .type "list") {v : List AV} {x : List Value} (V : VRels Sc [] h v x) : NoFls v → VRels S ρ h v x :=
  VRels.ind (M := fun v x => NoFls v → VRels S ρ h v x) (fun _ => .nil) (fun _ _ _ _ v _ i2 n => .cons (VRel.upN hA hT hR v n.cons_inv.1) (i2 n.cons_inv.2)) V

theorem VRel.avoid {x' : List Addr} {h : Heap} (hx : ∀ b ∈ x', h.get? b = Option.none) {v : AV} {x : Value} (V : VRel S ρ h v x) : VRel ⟨S.ad ++ x', S.prog, S.w⟩ ρ h v x :=
  VRel.rec (motive_1 := fun v x _ => VRel ⟨S.ad ++ x', S.prog, S.w⟩ ρ h v x) (motive_2 := fun v x _ => VRels ⟨S.ad ++ x', S.prog, S.w⟩ ρ h v x)
    (.none)
    (fun b => .bool b)
    (fun i t => .int i t)
    (fun x t => .str x t)
    (fun ha hs hi hv ih => .tup ha (fun hm => (List.mem_append.mp hm).elim hs fun q => by obtain ⟨o, ho⟩ := hi.get; rw [hx _ q] at ho; cases ho) hi ih)
    (fun ha hs hi hv ih => .fl ha (fun hm => (List.mem_append.mp hm).elim hs fun q => by obtain ⟨o, ho⟩ := PL.get hi; rw [hx _ q] at ho; cases ho) hi ih)
    (fun hi => .ref hi)
    (fun hr ha hs hi => .rng hr ha (fun hm => (List.mem_append.mp hm).elim hs fun q => by have ho := hi; rw [IsRange, hx _ q] at ho; cases ho) hi)
    (fun ha hs hm he hv ih => .dict ha (fun hm' => (List.mem_append.mp hm').elim hs fun q => by obtain ⟨o, ho⟩ := MapOf.get hm; rw [hx _ q] at ho; cases ho) hm he ih)
    (fun ha hs hi => .exc ha (fun hm => (List.mem_append.mp hm).elim hs fun q => by obtain ⟨o, ho⟩ := hi.get; rw [hx _ q] at ho; cases ho) hi)
    .nil (fun _ _ i1 i2 => .cons i1 i2) V
theorem VRels.avoid {x' : List Addr} {h : Heap} (hx : ∀ b ∈ x', h.get? b = Option.none) {v : List AV} {x : List Value} (V : VRels S ρ h v x) : VRels ⟨S.ad ++ x', S.prog, S.w⟩ ρ h v x :=
  VRels.ind (M := fun v x => VRels ⟨S.ad ++ x', S.prog, S.w⟩ ρ h v x) .nil (fun _ _ _ _ v _ i2 => .cons (VRel.avoid hx v) i2) V
theorem VRel.sub {S' : Sx} (hp : S'.prog = S.prog) (hw : S'.w = S.w) (hs : ∀ b ∈ S.ad, b ∈ S'.ad) {h : Heap} {v : AV} {x : Value} (V : VRel S' ρ h v x) : VRel S ρ h v x :=
  VRel.rec (motive_1 := fun v x _ => VRel S ρ h v x) (motive_2 := fun v x _ => VRels S ρ h v x)
    (.none)
    (fun b => .bool b)
    (fun i t => .int i t)
    (fun x t => .str x t)
    (fun ha hn hi hv ih => .tup ha (fun q => hn (hs _ q)) hi ih)
    (fun ha hn hi hv ih => .fl ha (fun q => hn (hs _ q)) hi ih)
    (fun hi => .ref hi)
    (fun hr ha hn hi => .rng hr ha (fun q => hn (hs _ q)) hi)
    (fun ha hn hm he hv ih => .dict ha (fun q => hn (hs _ q)) (by rw [← hp, ← hw]; exact hm) he ih)
    (fun ha hn hi => .exc ha (fun q => hn (hs _ q)) hi)
    .nil (fun _ _ i1 i2 => .cons i1 i2) V
theorem VRels.sub {S' : Sx} (hp : S'.prog = S.prog) (hw : S'.w = S.w) (hs : ∀ b ∈ S.ad, b ∈ S'.ad) {h : Heap} {v : List AV} {x : List Value} (V : VRels S' ρ h v x) : VRels S ρ h v x :=
  VRels.ind (M := fun v x => VRels S ρ h v x) .nil (fun _ _ _ _ v _ i2 => .cons (VRel.sub hp hw hs v) i2) V
/-- what is protected may change -/
theorem VRel.chg {h h' : Heap} (hk : ∀ b o, b ∉ S.ad → h.get? b = some o → h'.get? b = some o) {v : AV} {x : Value} (V : VRel S ρ h v x) : VRel S ρ h' v x :=
  VRel.rec (motive_1 := fun v x _ => VRel S ρ h' v x) (motive_2 := fun v x _ => VRels S ρ h' v x)
    (.none)
    (fun b => .bool b)
    (fun i t => .int i t)
    (fun x t => .str x t)
    (fun ha hn hi hv ih => .tup ha hn (hi.at fun o e => hk _ o hn e) ih)
    (fun ha hn hi hv ih => .fl ha hn (PlainList.at' hi fun o e => hk _ o hn e) ih)
    (fun hi => .ref hi)
    (fun hr ha hn hi => .rng hr ha hn (hk _ _ hn hi))
    (fun ha hn hm he hv ih => .dict ha hn (MapOf.at hm fun o e => hk _ o hn e) he ih)
    (fun ha hn hi => .exc ha hn (hi.at fun o e => hk _ o hn e))
    .nil (fun _ _ i1 i2 => .cons i1 i2) V
theorem VRels.chg {h h' : Heap} (hk : ∀ b o, b ∉ S.ad → h.get? b = some o → h'.get? b = some o) {v : List AV} {x : List Value} (V : VRels S ρ h v x) : VRels S ρ h' v x :=
  VRels.ind (M := fun v x => VRels S ρ h' v x) .nil (fun _ _ _ _ v _ i2 => .cons (VRel.chg hk v) i2) V
/-- protected addresses become lists of our own -/
theorem VRel.own {S' : Sx} {e : List Addr} (hp : S'.prog = S.prog) (hw : S'.w = S.w) (hs : ∀ b ∈ S.ad, b ∈ S'.ad) (he : ∀ b ∈ e, b ∈ S'.ad) {h : Heap} {v : AV} {x : Value} (V : VRel S' ρ h v x) : VRel S (ρ ++ e) h v x :=
  VRel.rec (motive_1 := fun v x _ => VRel S (ρ ++ e) h v x) (motive_2 := fun v x _ => VRels S (ρ ++ e) h v x)
    (.none)
    (fun b => .bool b)
    (fun i t => .int i t)
    (fun x t => .str x t)
    (fun ha hn hi hv ih => .tup (fun q => (List.mem_append.mp q).elim ha fun q => hn (he _ q)) (fun q => hn (hs _ q)) hi ih)
    (fun ha hn hi hv ih => .fl (fun q => (List.mem_append.mp q).elim ha fun q => hn (he _ q)) (fun q => hn (hs _ q)) hi ih)
    (fun hi => .ref (by rw [List.getElem?_append_left]; exact hi; exact (List.getElem?_eq_some_iff.mp hi).1))
    (fun hr ha hn hi => .rng hr (fun q => (List.mem_append.mp q).elim ha fun q => hn (he _ q)) (fun q => hn (hs _ q)) hi)
    (fun ha hn hm hf hv ih => .dict (fun q => (List.mem_append.mp q).elim ha fun q => hn (he _ q)) (fun q => hn (hs _ q)) (by rw [← hp, ← hw]; exact hm) hf ih)
    (fun ha hn hi => .exc (fun q => (List.mem_append.mp q).elim ha fun q => hn (he _ q)) (fun q => hn (hs _ q)) hi)
    .nil (fun _ _ i1 i2 => .cons i1 i2) V
theorem VRels.own {S' : Sx} {e : List Addr} (hp : S'.prog = S.prog) (hw : S'.w = S.w) (hs : ∀ b ∈ S.ad, b ∈ S'.ad) (he : ∀ b ∈ e, b ∈ S'.ad) {h : Heap} {v : List AV} {x : List Value} (V : VRels S' ρ h v x) : VRels S (ρ ++ e) h v x :=
  VRels.ind (M := fun v x => VRels S (ρ ++ e) h v x) .nil (fun _ _ _ _ v _ i2 => .cons (VRel.own hp hw hs he v) i2) V
/-- a new list whose items were made meanwhile -/
theorem HSim.pushO {h h' : Heap} {a : Addr} {items : Array Value} {vs : List AV} (X : HSim S ρ H h) (hk : Kp h h') (hn : h.get? a = none) (hS : a ∉ S.ad) (p : h'.PlainList a items) (v : VRels S (ρ ++ [a]) h' vs items.toList) : HSim S (ρ ++ [a]) (H ++ [vs]) h' where
  len := by simp [X.len]
  nodup := by
    rw [List.nodup_append]
    refine ⟨X.nodup, by simp, ?_⟩
    intro b hb c hc e
    simp at hc
    obtain ⟨o, ho⟩ := X.mem hb
    rw [e, hc, hn] at ho; cases ho
  off := fun b hb => by
    rcases List.mem_append.mp hb with q | q
    · exact X.off b q
    · simp at q; subst q; exact hS
  obj := fun i ws e => by
    have fr : Fresh h [a] := fun b hb => by simp at hb; subst hb; exact hn
    by_cases hi : i < H.length
    · rw [List.getElem?_append_left hi] at e
      obtain ⟨b, its, e1, p1, v1⟩ := X.obj i ws e
      exact ⟨b, its, by rw [List.getElem?_append_left (by rw [X.len]; exact hi)]; exact e1, PlainList.at' p1 fun o q => hk _ o q, v1.kp hk fr⟩
    · rw [List.getElem?_append_right (Nat.le_of_not_lt hi)] at e
      have : i - H.length = 0 := by
        cases q : i - H.length with
        | zero => rfl
        | succ k => rw [q] at e; simp at e
      rw [this] at e; simp at e; subst e
      exact ⟨a, items, by rw [List.getElem?_append_right (by rw [X.len]; exact Nat.le_of_not_lt hi), X.len, this]; rfl, p, v⟩
theorem HSim.avoid {x' : List Addr} {h : Heap} (X : HSim S ρ H h) (hx : ∀ b ∈ x', h.get? b = Option.none) : HSim ⟨S.ad ++ x', S.prog, S.w⟩ ρ H h where
  len := X.len
  nodup := X.nodup
  off := fun a ha hm => (List.mem_append.mp hm).elim (X.off a ha) fun q => by obtain ⟨o, ho⟩ := X.mem ha; rw [hx _ q] at ho; cases ho
  obj := fun i vs e => by
    obtain ⟨a, items, e1, p, v⟩ := X.obj i vs e
    exact ⟨a, items, e1, p, v.avoid hx⟩
/-- the cells that a comprehension's block takes over -/
theorem closure_ok {env : Env} {scope : Scope} (hc : ∀ x ∈ freeNames scope, ∃ c, env.cells.lookup x = some c) : ∃ cl, closureFor scope env = pure cl ∧ ∀ x ∈ freeNames scope, cl.lookup x = env.cells.lookup x := by
  have key : ∀ (names : List (Str × NameKind)) (acc : List (Str × Addr)), (∀ p ∈ names, p.2 = .free → ∃ c, env.cells.lookup p.1 = some c) →
      (∀ y, (acc.lookup y).isSome = true → acc.lookup y = env.cells.lookup y) →
      ∃ cl, (forIn names acc fun (x : Str × NameKind) r => (do
        if x.2 == .free then pure (ForInStep.yield ((x.1, ← cellOf env x.1) :: r)) else pure (ForInStep.yield r) : Sem _)) = pure cl ∧
        (∀ y, (cl.lookup y).isSome = true → cl.lookup y = env.cells.lookup y) ∧ (∀ p ∈ names, p.2 = .free → (cl.lookup p.1).isSome = true) ∧ (∀ y, (acc.lookup y).isSome = true → (cl.lookup y).isSome = true) := by
    intro names
    induction names with
    | nil => intro acc _ ha; exact ⟨acc, rfl, ha, (fun _ hm => by cases hm), fun _ h => h⟩
    | cons p r ih =>
      intro acc hn ha
      rw [List.forIn_cons]
      by_cases hf : p.2 = .free
      · obtain ⟨c, ec⟩ := hn p (.head _) hf
        have e1 : (p.2 == NameKind.free) = true := by simp [hf]
        have e2 : cellOf env p.1 = pure c := by unfold cellOf; rw [ec]
        obtain ⟨cl, q1, q2, q3, q4⟩ := ih ((p.1, c) :: acc) (fun q hq => hn q (.tail _ hq)) (fun y hy => by
          rw [List.lookup_cons] at hy ⊢
          split
          · rename_i hyp; simp at hyp; rw [hyp, ec]
          · rename_i hyp; rw [hyp] at hy; exact ha y hy)
        refine ⟨cl, ?_, q2, ?_, ?_⟩
        · rw [if_pos e1, e2]; exact q1
        · intro q hq hqf
          rcases List.mem_cons.mp hq with rfl | hq
          · exact q4 _ (by rw [List.lookup_cons]; simp)
          · exact q3 q hq hqf
        · intro y hy
          exact q4 y (by rw [List.lookup_cons]; split <;> simp_all)
      · have e1 : ¬ (p.2 == NameKind.free) = true := by simpa using hf
        obtain ⟨cl, q1, q2, q3, q4⟩ := ih acc (fun q hq => hn q (.tail _ hq)) ha
        refine ⟨cl, ?_, q2, ?_, q4⟩
        · rw [if_neg e1]; exact q1
        · intro q hq hqf
          rcases List.mem_cons.mp hq with rfl | hq
          · exact absurd hqf hf
          · exact q3 q hq hqf
  have hmem : ∀ p ∈ scope.names, p.2 = .free → p.1 ∈ freeNames scope := fun p hp hf => by
    unfold freeNames
    exact List.mem_map.mpr ⟨p, List.mem_filter.mpr ⟨hp, by simp [hf]⟩, rfl⟩
  obtain ⟨cl, q1, q2, q3, _⟩ := key scope.names [] (fun p hp hf => hc _ (hmem p hp hf)) (fun y hy => by simp at hy)
  refine ⟨cl, ?_, fun x hx => ?_⟩
  · unfold closureFor
    show (forIn scope.names ([] : List (Str × Addr)) _ >>= fun r => pure r) = _
    refine Eq.trans (congrArg (· >>= fun r => pure r) (Eq.trans ?_ q1)) rfl
    rfl
  · unfold freeNames at hx
    obtain ⟨p, hp, rfl⟩ := List.mem_map.mp hx
    have := List.mem_filter.mp hp
    exact q2 _ (q3 p this.1 (by simpa using this.2))
end

open PySem PyProof.Rows PySem.SeqAt

theorem relabel_kd (scope : Scope) (env : Env) (hk : env.scope.kind = .function) (y : Str) : (relabel scope env).names.lookup y = compKd scope env.kindOf y := by
  unfold relabel compKd
  show List.lookup y (scope.names.map _) = _
  generalize scope.names = l
  induction l with
  | nil => rfl
  | cons p r ih =>
    obtain ⟨n, k⟩ := p
    rw [List.map_cons]
    by_cases hy : y = n
    · subst hy
      simp only [List.lookup_cons, beq_self_eq_true]
      by_cases hf : k = .free
      · subst hf
        by_cases hc : env.kindOf y = some .cell
        · simp [hk, hc, List.lookup_cons]
        · simp [hk, hc, List.lookup_cons]
      · have : (k == NameKind.free) = false := by simpa using hf
        simp [this, List.lookup_cons]
        cases k <;> first | rfl | exact absurd rfl hf
    · have hyb : (y == n) = false := by simpa using hy
      have e1 : ∀ (q : Str × NameKind) (L : List (Str × NameKind)), (y == q.1) = false → List.lookup y (q :: L) = List.lookup y L := fun q L hq => by
        obtain ⟨q1, q2⟩ := q
        rw [List.lookup_cons, hq]
      rw [e1 _ _ (by dsimp only; split <;> exact hyb), ih, List.lookup_cons, hyb]
theorem compEnv_kd (scope : Scope) (env : Env) (cl : List (Str × Addr)) (C : Addr) (hk : env.scope.kind = .function) : (compEnvC scope cl C env).kindOf = compKd scope env.kindOf := funext fun y => relabel_kd scope env hk y

section
variable {P : PC} {l : Lv} {A : Around} {env : Env} {names : List Str} {S : Sx} {ρ : List Addr} {loc : List (Option AV)} {H : AH} {s : Shared} {X : Str → Prop} {E : Value → Shared → Prop}

theorem compEnv_ok (ho : EnvOk env) {scope : Scope} {cl : List (Str × Addr)} {C : Addr} (hk : scope.kind = .function) (hcell : ∀ y ∈ scope.names, y.2 ≠ .cell) (hcl : ∀ x ∈ freeNames scope, cl.lookup x = env.cells.lookup x) : EnvOk (compEnvC scope cl C env) := by
  refine ⟨by simp [compEnvC, relabel, hk], ho.2.1, ho.2.2.1, fun x hx => ?_⟩
  rw [compEnv_kd _ _ _ _ ho.1] at hx
  unfold compKd at hx
  split at hx
  · rename_i hf
    have hm : x ∈ freeNames scope := by
      unfold freeNames
      exact List.mem_map.mpr ⟨(x, .free), List.mem_filter.mpr ⟨lookup_mem hf, rfl⟩, rfl⟩
    split at hx
    · rename_i hc
      obtain ⟨c, ec⟩ := ho.2.2.2 x hc
      exact ⟨c, by show cl.lookup x = some c; rw [hcl x hm, ec]⟩
    · cases hx
  · exact absurd rfl (hcell (x, .cell) (lookup_mem hx))

/-- the context of a comprehension's element -/
theorem comp_cx (C : Cx P l A env names S ρ loc H s) (ho : EnvOk env) {scope : Scope} {cl : List (Str × Addr)} {Cc : Addr} {h' : Heap} {tk : Nat} {cap : List Nat} {base : List (Option AV)} {txs : List Str} {us : List AV} {m : Str → Option Value} {Sc : Sx}
    (hcl : ∀ x ∈ freeNames scope, cl.lookup x = env.cells.lookup x) (hcell : ∀ x ∈ freeNames scope, env.kindOf x = some .cell ∧ scope.names.lookup x = some .free) (hcap : allSome ((freeNames scope).map fun x => idxOf x names) = some cap) (hx : ∀ t ∈ txs, scope.names.lookup t = some .local)
    (hbase : CapRel H loc cap base) (hk : Kp s.heap h') (hn : h'.Ns Cc m) (hm : ∀ (i : Nat) (t : Str) (u : AV), txs[i]? = some t → us[i]? = some u → ∃ y, m t = some y ∧ VRel Sc [] h' u y)
    (hp : Sc.prog = S.prog) (hw : Sc.w = S.w) (hsd : SD Sc h')
    (hv : ∀ i v v' z, loc[i]?.join = some v → Ren [] H v v' → VRel S ρ s.heap v z → base = base → i ∈ cap → (∃ j : Nat, cap[j]? = some i ∧ base[j]?.join = some v') → VRel Sc [] h' v' z) :
    Cx P l A (compEnvC scope cl Cc env) (freeNames scope ++ txs) Sc [] (base ++ us.map some) [] { s with heap := h', toks := tk } where
  aok := C.aok
  gok := C.gok.kp hk
  pp := hp.trans C.pp
  pw := hw.trans C.pw
  sd := hsd
  sim := ⟨rfl, List.nodup_nil, fun _ hm => (by cases hm), fun i vs e => by simp at e⟩
  loc := by
    have kd := compEnv_kd scope env cl Cc ho.1
    have hlen : ∀ {c : List Nat} {b : List (Option AV)}, CapRel H loc c b → b.length = c.length := by
      intro c b hb
      induction hb with
      | nil => rfl
      | cons _ _ _ ih => simp [ih]
      | skip _ ih => simp [ih]
    have hlen2 : ∀ {fs : List Str} {c : List Nat}, allSome (fs.map fun x => idxOf x names) = some c → c.length = fs.length := by
      intro fs
      induction fs with
      | nil => intro c h; cases h; rfl
      | cons f r ih => intro c h; obtain ⟨a, t, _, e2, rfl⟩ := allSome_cons h; simp [ih e2]
    have capGet : ∀ {fs : List Str} {c : List Nat}, allSome (fs.map fun x => idxOf x names) = some c → ∀ (j i : Nat), c[j]? = some i → ∃ x, fs[j]? = some x ∧ idxOf x names = some i := by
      intro fs
      induction fs with
      | nil => intro c h j i e; cases h; simp at e
      | cons f r ih =>
        intro c h j i e
        obtain ⟨a, t, e1, e2, rfl⟩ := allSome_cons h
        cases j with
        | zero => simp at e; subst e; exact ⟨f, rfl, e1⟩
        | succ j => simpa using ih e2 j i (by simpa using e)
    have baseGet : ∀ {c : List Nat} {b : List (Option AV)}, CapRel H loc c b → ∀ (j : Nat) (v' : AV), b[j]?.join = some v' → ∃ i v, c[j]? = some i ∧ loc[i]?.join = some v ∧ Ren [] H v v' := by
      intro c b hb
      induction hb with
      | nil => intro j v' e; simp at e
      | cons e0 r0 _ ih =>
        intro j v' e
        cases j with
        | zero => simp at e; subst e; exact ⟨_, _, rfl, e0, r0⟩
        | succ j => simpa using ih j v' (by simpa using e)
      | skip _ ih =>
        intro j v' e
        cases j with
        | zero => simp at e
        | succ j => simpa using ih j v' (by simpa using e)
    intro j xx v' en e
    have hl1 := hlen hbase
    have hl2 := hlen2 hcap
    by_cases hj : j < base.length
    · rw [List.getElem?_append_left hj] at e
      obtain ⟨i, v, e1, e2, r⟩ := baseGet hbase j v' e
      obtain ⟨x, e3, e4⟩ := capGet hcap j i e1
      obtain ⟨z, e6, e7⟩ := C.loc i x v (idxOf_get e4) e2
      rw [List.getElem?_append_left (by omega), e3] at en
      have en' : xx = x := by simpa using en.symm
      rw [en']
      have hmem : x ∈ freeNames scope := List.mem_of_getElem? e3
      refine ⟨z, ?_, hv i v v' z e2 r e7 rfl (List.mem_of_getElem? e1) ⟨j, e1, e⟩⟩
      · have hcx := hcell x hmem
        rcases e6 with ⟨k1, _⟩ | ⟨k1, c, k2, k3⟩
        · rw [hcx.1] at k1; cases k1
        · refine .inr ⟨?_, c, ?_, k3.keeps hk⟩
          · rw [kd]; unfold compKd; rw [hcx.2]; simp [hcx.1]
          · show cl.lookup x = some c
            rw [hcl x hmem, k2]
    · rw [List.getElem?_append_right (Nat.le_of_not_lt hj)] at e
      rw [List.getElem?_map] at e
      have e' : us[j - base.length]? = some v' := by
        cases q : us[j - base.length]? with
        | none => rw [q] at e; cases e
        | some u => rw [q] at e; cases e; rfl
      rw [List.getElem?_append_right (by omega), ← hl2, ← hl1] at en
      obtain ⟨y, e1, e2⟩ := hm _ _ _ en e'
      refine ⟨y, .inl ⟨?_, m, hn, e1⟩, e2⟩
      rw [kd]; unfold compKd; rw [hx xx (List.mem_of_getElem? en)]
end
section
variable {prog : Program} {w : World} {A : Around} {S : Sx} {ρ : List Addr} {H : AH} {s : Shared} {E : Value → Shared → Prop} {v : AV} {x : Value}
theorem draw_walk {I : Addr} {fp wr : List Addr} {n : Nat} {Pp : Nat → Value → Prop} {St : Nat → Heap → Prop} (W : Walks prog w A I fp wr n Pp St) : ∀ (k i : Nat) (s : Shared) (Q : List Value → Shared → Prop), St i s.heap → i + k ≤ n →
    (∀ ys h' tk, St (i + k) h' → (∀ j y, ys[j]? = some y → Pp (i + j) y) → ys.length = k → (∀ b o, b ∉ wr → s.heap.get? b = some o → h'.get? b = some o) → Q ys { s with heap := h', toks := tk }) → wpAny (model prog w) A (draw (.ref I) k) Q E s
  | 0, i, s, Q, st, _, h => by
    show wpAny _ _ (pure []) Q E s
    exact wpAny_pure (h [] s.heap s.toks st (fun j y e => by simp at e) rfl fun _ _ _ e => e)
  | k + 1, i, s, Q, st, hk, h => by
    show wpAny _ _ (pyNext (.ref I) >>= _) Q E s
    refine wpAny_bind (W.item i s _ E (by omega) st fun v h₁ tk₁ hv st₁ hk₁ => ?_)
    refine wpAny_bind (wpAny_holding (draw_walk W k (i + 1) _ _ st₁ (by omega) fun ys h₂ tk₂ st₂ hp hl hk₂ => wpAny_pure ?_))
    refine h (v :: ys) h₂ tk₂ (by rw [show i + (k + 1) = i + 1 + k by omega]; exact st₂) (fun j y e => ?_) (by simp [hl]) fun b o hb e => hk₂ b o hb (hk₁ b o hb e)
    cases j with
    | zero => simp at e; subst e; exact hv
    | succ j => have := hp j y (by simpa using e); rw [show i + (j + 1) = i + 1 + j by omega]; exact this

theorem vrels_of_get : ∀ {vs : List AV} {ys : List Value} {h : Heap}, vs.length = ys.length → (∀ (j : Nat) y, ys[j]? = some y → ∃ u, vs[j]? = some u ∧ VRel S ρ h u y) → VRels S ρ h vs ys
  | [], [], _, _, _ => .nil
  | [], _ :: _, _, h, _ => by simp at h
  | _ :: _, [], _, h, _ => by simp at h
  | v :: vs, y :: ys, _, h, q => by
    obtain ⟨u, e, V⟩ := q 0 y rfl
    simp at e; subst e
    exact .cons V (vrels_of_get (by simpa using h) fun j z e => by simpa using q (j + 1) z (by simpa using e))

theorem unpack_real {vs : List AV} {Q : List Value → Shared → Prop} (hh : A.handled = none) (X : HSim S ρ H s.heap) (V : VRel S ρ s.heap v x) (e : v.seq? H = some vs)
    (hQ : ∀ ys h' tk, Kp s.heap h' → VRels S ρ s.heap vs ys → Q ys { s with heap := h', toks := tk }) : wpAny (model prog w) A (unpackItems x vs.length none) Q E s := by
  have ei : iterOf H v = some vs := by
    cases v <;> first | exact e | cases e
  obtain ⟨l, items, rfl, hl, vv⟩ := seq_real X V e
  unfold unpackItems
  refine wpAny_bind ?_
  unfold notIterableAtAll
  have fin : wpAny (model prog w) A (do
      let it ← holding [.ref l] (pyIter (.ref l))
      let items ← holding [it] (draw it vs.length)
      if items.length < vs.length then
        rule "unpack.too-few"; raiseError "ValueError" s!"not enough values to unpack (expected {vs.length}, got {items.length})"
      if (← holding items (pyNext it)).isSome then
        rule "unpack.too-many"; raiseError "ValueError" s!"too many values to unpack (expected {vs.length})"
      return items) Q E s := by
    refine wpAny_bind (wpAny_holding (iter_walk hh X V ei fun I fp wr Pp St h₂ W st0 k₂ hwr hIn hfp _ hit hI => ?_))
    refine wpAny_bind (wpAny_holding (draw_walk W vs.length 0 _ _ st0 (by omega) fun ys h₃ tk₃ st₃ hp hln hk₃ => ?_))
    rw [if_neg (by omega)]
    refine wpAny_bind (wpAny_holding (W.done _ _ E (by simpa using st₃) fun h₄ tk₄ hk₄ => ?_))
    simp only [Option.isSome_none, Bool.false_eq_true, if_false]
    refine wpAny_pure (hQ ys h₄ tk₄ (fun b o e => ?_) (vrels_of_get (by omega) fun j y e => ?_))
    · have hb : b ∉ wr := fun q => by rw [hwr b q, hIn] at e; cases e
      exact hk₄ b o hb (hk₃ b o hb (k₂ b o e))
    · have hj : j < vs.length := by rw [← hln]; exact (List.getElem?_eq_some_iff.mp e).1
      exact hit j y hj (by simpa using hp j y e)
  rcases hl with hl | hl
  · refine wpAny_bind (wpAny_specialOf (PL.isList hl).typeIs F.slot_list_iter.lookup ?_)
    refine wpAny_pure ?_
    simp only [Bool.false_eq_true, if_false]
    exact fin
  · refine wpAny_bind (wpAny_specialOf hl.isTuple.typeIs F.slot_tuple_iter.lookup ?_)
    refine wpAny_pure ?_
    simp only [Bool.false_eq_true, if_false]
    exact fin

theorem tgt_ok {tgt : PySem.Expr} {nv : Nat} {txs : List Str} {cenv : Env} {Cc : Addr} {m : Str → Option Value} {u : AV} {y : Value} {bx : List (Option AV)} (hh : A.handled = none) (ht : tgtNames tgt = some (nv, txs)) (hnd : txs.Nodup) (hl : cenv.locals = Cc) (hk : cenv.scope.kind = .function) (hC : Cc ∈ S.ad)
    (hkd : ∀ t ∈ txs, cenv.kindOf t = some .local) (hn : s.heap.Ns Cc m) (V : VRel S [] s.heap u y) (hb : bindItem nv u = some bx) :
    wpAny (model prog w) A (assign tgt cenv y) (fun _ s' => ∃ (h' : Heap) (tk : Nat) (m' : Str → Option Value) (us : List AV), s' = { s with heap := h', toks := tk } ∧ bx = us.map some ∧ (∀ b o, b ≠ Cc → s.heap.get? b = some o → h'.get? b = some o) ∧ h'.Ns Cc m' ∧ (∀ (i : Nat) (t : Str) (u : AV), txs[i]? = some t → us[i]? = some u → ∃ z, m' t = some z ∧ VRel S [] h' u z)) E s := by
  cases tgt <;> first | (cases ht; done) | skip
  case Name x p =>
    cases ht
    cases hb
    refine wpAny_assign_Name (wpAny_storeName_local (hkd x (.head _)) (hl ▸ hn) (fun h₄ hn₄ hs₄ => ?_) (by simp [hk]))
    rw [hl] at hn₄ hs₄
    refine ⟨h₄, _, _, [u], rfl, rfl, fun b o hb e => hs₄.extBut b o hb e, hn₄, fun i t w ez eu => ?_⟩
    cases i with
    | zero => cases ez; cases eu; exact ⟨y, by simp, V.chg fun b o hb e => hs₄.extBut b o (fun q => hb (q ▸ hC)) e⟩
    | succ i => simp at ez
end

open PySem PyProof.Rows PySem.SeqAt
section
variable {P : PC} {l : Lv} {A : Around} {env : Env} {names : List Str} {S : Sx} {ρ : List Addr} {loc : List (Option AV)} {H : AH} {s : Shared} {X : Str → Prop} {E : Value → Shared → Prop}

theorem cc1 {n i : Nat} (h : i < n) : n + 1 - (i + 1) < n + 1 - i := by omega
theorem cc2 {d y i n : Nat} (e : d = y) (h1 : d ≤ i) (h2 : i < n) (h3 : n ≤ smallN) : y < sizeLine := by
  have : sizeLine = 2 ^ 24 := rfl
  unfold smallN at h3
  omega
theorem excC_false {P : PC} {A : Around} {s : Shared} {X : Str → Prop} {e : Value} {s' : Shared} (h : ExcC P A s X e s') : False := h
theorem exOk_any {P : PC} {A : Around} {X : Str → Prop} {E : Value → Shared → Prop} {s : Shared} : ExOk P A X E s := fun _ _ _ _ _ q => (excC_false q).elim

theorem rens_get {φ : List Nat} {H : AH} {a b : List AV} (r : Rens φ H a b) {i : Nat} {u v : AV} (e1 : a[i]? = some u) (e2 : b[i]? = some v) : Ren φ H u v :=
  Rens.ind (M := fun a b => ∀ i, a[i]? = some u → b[i]? = some v → Ren φ H u v) (fun _ e1 _ => by simp at e1) (fun _ _ _ _ r _ ih i e1 e2 => by
    cases i with
    | zero => cases e1; cases e2; exact r
    | succ i => exact ih i e1 e2) r i e1 e2
/-- the tests of a comprehension -/
theorem tests_ok {cenv : Env} {names' : List Str} {Sc : Sx} {loc' : List (Option AV)} {ifs : List PySem.Expr} {cs : List CE} (hlen : cs.length ≤ 1) (ht : ∀ (j : Nat) (e : PySem.Expr) (c : CE), ifs[j]? = some e → cs[j]? = some c → TrOk P l cenv names' e c) (hl : ifs.length = cs.length) {K : Bool → Prop}
    {s : Shared} (C : Cx P l A cenv names' Sc [] loc' [] s) (h : wpTests P l X cs loc' K) :
    wpAny (model P.prog P.w) A (forIn ifs true fun c r => if r = true then do let ok ← isTrue c cenv (eval c cenv); pure (ForInStep.yield ok) else pure (ForInStep.yield r))
      (fun ok s' => ∃ h' tk, s' = { s with heap := h', toks := tk } ∧ Kp s.heap h' ∧ K ok) E s := by
  cases cs with
  | nil =>
    have : ifs = [] := List.length_eq_zero_iff.mp (by simpa using hl)
    subst this
    simp only [w_t0, w_t1] at h
    exact wpAny_pure ⟨s.heap, s.toks, rfl, Kp.refl _, h⟩
  | cons c r =>
    have : r = [] := by cases r with | nil => rfl | cons _ _ => simp at hlen
    subst this
    cases ifs with
    | nil => simp at hl
    | cons e r' =>
      have : r' = [] := by cases r' with | nil => rfl | cons _ _ => simp at hl
      subst this
      simp only [w_t0, w_t1] at h
      rw [List.forIn_cons]
      simp only [if_true]
      refine wpAny_bind (wpAny_bind (wpAny_mono (ht 0 e c rfl rfl A Sc [] loc' [] s (fun b _ => K b) X E C exOk_any h) (fun b s₁ hb => ?_) fun _ _ y => y))
      obtain ⟨h1, tk1, n1, G1, rfl, k1, f1, X1, q1⟩ := hb
      exact wpAny_pure (wpAny_pure ⟨h1, tk1, rfl, k1, q1⟩)

/-- an element of a comprehension -/
theorem elt_ok {cenv : Env} {names' : List Str} {Sc : Sx} {loc' : List (Option AV)} {elt : PySem.Expr} {ce : CE} (he : EvOk P l cenv names' elt ce) {K : AV → Prop} {s : Shared} (C : Cx P l A cenv names' Sc [] loc' [] s)
    (h : wpE P l X ce loc' [] fun r Hc => ∃ r', Ren [] Hc r r' ∧ K r') :
    wpAny (model P.prog P.w) A (eval elt cenv) (fun y s' => ∃ h' tk r', s' = { s with heap := h', toks := tk } ∧ Kp s.heap h' ∧ VRel Sc [] h' r' y ∧ K r') E s := by
  refine wpAny_mono (he A Sc [] loc' [] s _ X E C exOk_any h) (fun y s₁ hy => ?_) fun _ _ y => y
  obtain ⟨h1, tk1, n1, v1, G1, rfl, k1, f1, X1, V1, r', R, q1⟩ := hy
  simp only [List.nil_append] at X1 V1 R
  have := VRel.ren (S' := Sc) rfl rfl X1 (fun a ha _ hb => ha hb) (fun a _ ha => ha) (fun j hj => by cases hj) R V1
  exact ⟨h1, tk1, r', rfl, k1, by simpa [pick] using this, q1⟩

/-- the turns of a comprehension, whatever its target -/
theorem compLoop_tests {prog : Program} {w : World} {R : Result → Shared → Prop} {elt target iter : PySem.Expr} {ifs : List PySem.Expr} {scope : Scope} {pos : Pos} {it acc : Value} {env : Env} {s : Shared} (I : Nat → Shared → Prop)
    (turn : ∀ n s, I n s → wpAny (model prog w) A (pyNext it) (fun r s₁ => match r with
      | none => R (.ok .next) s₁
      | some v => wpAny (model prog w) A (letOwnedTupleGo target it v) (fun _ s₁' => wpAny (model prog w) A (assign target env v) (fun _ s₂ =>
          wpAny (model prog w) A (forIn ifs true fun c r => if r = true then do let ok ← isTrue c env (eval c env); pure (ForInStep.yield ok) else pure (ForInStep.yield r)) (fun ok s₃ =>
            if ok = true then wpAny (model prog w) A (eval elt env) (fun x s₄ =>
              wpAny (model prog w) A (call (.builtin "list.append") [acc, x]) (fun _ s₅ => ∃ m, m < n ∧ I m s₅) (notedBy (model prog w) A env fun e s' => R (.error e) s') s₄) (notedBy (model prog w) A env fun e s' => R (.error e) s') s₃
            else ∃ m, m < n ∧ I m s₃) (notedBy (model prog w) A env fun e s' => R (.error e) s') s₂) (notedBy (model prog w) A env fun e s' => R (.error e) s') s₁') (notedBy (model prog w) A env fun e s' => R (.error e) s') s₁) (notedBy (model prog w) A env fun e s' => R (.error e) s') s)
    (n : Nat) (h : I n s) : codeAny (model prog w) A (.compLoop (.ListComp elt [⟨target, iter, ifs, 0⟩] scope pos) 0 it acc env) R s := by
  refine codeAny_loop rfl I (fun n s hI => ?_) n h
  show wpAny _ A ((compTurn (.ListComp elt [⟨target, iter, ifs, 0⟩] scope pos) 0 it acc env).onRaise (fun x => do noteFrame x env; theTreesLotGoes x)) _ _ s
  refine wpAny_noted ?_
  rw [compTurn_list]
  refine wpAny_bind (wpAny_standAt (wpAny_bind (wpAny_mono (turn n s hI) (fun r s₁ h₁ => ?_) fun _ _ y => y)))
  cases r with
  | none => exact wpAny_pure h₁
  | some v =>
    refine wpAny_bind (wpAny_mono h₁ (fun _ s₂ h₂ => wpAny_bind (wpAny_mono h₂ (fun _ s₃ h₃ => wpAny_bind (wpAny_mono h₃ (fun ok s₄ h₄ => ?_) fun _ _ y => y)) fun _ _ y => y)) fun _ _ y => y)
    cases ok with
    | false => exact wpAny_pure ⟨rfl, h₄⟩
    | true => exact wpAny_bind (wpAny_bind (wpAny_mono h₄ (fun x s₅ h₅ => wpAny_bind (wpAny_mono h₅ (fun _ s₆ h₆ => wpAny_pure (wpAny_pure ⟨rfl, h₆⟩)) fun _ _ y => y)) fun _ _ y => y))
/-- the block of a comprehension -/
theorem comp_core (C : Cx P l A env names S ρ loc H s) (ho : EnvOk env) {scope : Scope} {cl : List (Str × Addr)} {cap : List Nat} {base : List (Option AV)} {tgt : PySem.Expr} {nv : Nat} {txs : List Str} {pos : Pos} {elt it : PySem.Expr} {ifs : List PySem.Expr} {ce : CE} {cs : List CE} {its items : List AV} {I : Addr} {fp wr : List Addr}
    {Pp : Nat → Value → Prop} {St : Nat → Heap → Prop} {h₂ : Heap} {K : List AV → Prop} {RR : Value → Addr → Result → Shared → Prop}
    (hkind : scope.kind = .function) (hnc : ∀ y ∈ scope.names, y.2 ≠ .cell)
    (hcl : ∀ x ∈ freeNames scope, cl.lookup x = env.cells.lookup x) (hcell : ∀ x ∈ freeNames scope, env.kindOf x = some .cell ∧ scope.names.lookup x = some .free) (hcap : allSome ((freeNames scope).map fun x => idxOf x names) = some cap) (hx : ∀ t ∈ txs, scope.names.lookup t = some .local) (htg : tgtNames tgt = some (nv, txs)) (hnd : txs.Nodup) (hhn : A.handled = none)
    (ihe : ∀ Cc, EvOk P l (compEnvC scope cl Cc env) (freeNames scope ++ txs) elt ce) (iht : ∀ Cc (j : Nat) (e : PySem.Expr) (c : CE), ifs[j]? = some e → cs[j]? = some c → TrOk P l (compEnvC scope cl Cc env) (freeNames scope ++ txs) e c) (hil : ifs.length = cs.length) (hcs : cs.length ≤ 1)
    (hsm : its.length ≤ smallN) (hR : Rens [] H its items) (hbase : CapRel H loc cap base)
    (W : Walks P.prog P.w A I fp wr its.length Pp St) (st0 : St 0 h₂) (k₂ : Kp s.heap h₂) (hwr : ∀ b ∈ wr, b = I) (hIn : s.heap.get? I = none) (hfp : ∀ b ∈ fp, b < h₂.objs.size) (hit : ∀ i y, i < its.length → Pp i y → ∃ u, its[i]? = some u ∧ VRel S ρ s.heap u y) (hI : ∀ i h, St i h → ∃ o, h.get? I = some o ∧ PlainIt o)
    (hitems : compItems (fun x K => opt (bindItem nv x) fun bx => wpTests P l X cs (base ++ bx) K) (fun x K => opt (bindItem nv x) fun bx => wpE P l X ce (base ++ bx) [] fun r Hc => ∃ r', Ren [] Hc r r' ∧ ((items = its ∧ base = cap.map fun i => loc[i]?.join) ∨ NoFl r') ∧ K r') items K)
    (hRR : ∀ D Cc h' tk m ys vs, s.heap.get? D = none → h₂.get? Cc = none → s.heap.get? Cc = none → D ≠ Cc → h'.Ns Cc m → h'.PlainList D ys → VRels ⟨S.ad ++ [I, Cc, D], S.prog, S.w⟩ ρ h' vs ys.toList → vs.length ≤ smallN → Kp s.heap h' → K vs → RR (.ref D) Cc (.ok .next) { s with heap := h', toks := tk }) {tk₂ : Nat} :
    wpAny (model P.prog P.w) A (newList []) (fun acc s₃ => wpAny (model P.prog P.w) A (newFunctionEnv scope env.globals cl [] env.qual none .none (some env)) (fun cenv s₄ =>
      codeAny (model P.prog P.w) A (.compStart (.ListComp elt [⟨tgt, it, ifs, 0⟩] scope pos) 0 (.ref I) acc { cenv with scope := relabel scope env }) (RR acc cenv.locals) s₄) E s₃) E { s with heap := h₂, toks := tk₂ } := by
  obtain ⟨tst, htst⟩ : ∃ t, t = (fun (x : AV) (K : Bool → Prop) => opt (bindItem nv x) fun bx => wpTests P l X cs (base ++ bx) K) := ⟨_, rfl⟩
  obtain ⟨el, hel⟩ : ∃ t, t = (fun (x : AV) (K : AV → Prop) => opt (bindItem nv x) fun bx => wpE P l X ce (base ++ bx) [] fun r Hc => ∃ r', Ren [] Hc r r' ∧ ((items = its ∧ base = cap.map fun i => loc[i]?.join) ∨ NoFl r') ∧ K r') := ⟨_, rfl⟩
  rw [← htst, ← hel] at hitems
  have htst' : ∀ x K, tst x K → ∃ bx, bindItem nv x = some bx ∧ wpTests P l X cs (base ++ bx) K := fun x K h => by rw [htst] at h; exact opt_of h
  have hel' : ∀ x K bx, bindItem nv x = some bx → el x K → wpE P l X ce (base ++ bx) [] fun r Hc => ∃ r', Ren [] Hc r r' ∧ ((items = its ∧ base = cap.map fun i => loc[i]?.join) ∨ NoFl r') ∧ K r' := fun x K bx hb h => by rw [hel] at h; simp only [hb] at h; exact h
  clear htst hel
  refine wpAny_newObj_type (wpAny_newFunctionEnv hnc (by intro y hy; simp at hy) (fun h₁ hns₁ hsb₁ => ?_) hkind)
  dsimp only at hns₁ hsb₁ ⊢
  generalize hH2 : h₂.push { cls := .type "list", dict := none, data := .seq ([] : List Value).toArray } = H2 at hns₁ hsb₁ ⊢
  have hCs : H2.objs.size = h₂.objs.size + 1 := by rw [← hH2, Heap.size_push]
  have sz : ∀ b o, s.heap.get? b = some o → b < h₂.objs.size := fun b o e => Heap.lt_size (k₂ b o e)
  have kH : ∀ b o, h₂.get? b = some o → h₁.get? b = some o := fun b o e => hsb₁.extBut b o (by rw [hCs]; exact Nat.ne_of_lt (Nat.lt_succ_of_lt (Heap.lt_size e))) (Heap.get?_push_of_some _ (hH2 ▸ Heap.get?_push_of_some _ e))
  have hacc : h₁.PlainList h₂.objs.size #[] := ⟨_, hsb₁.extBut _ _ (by rw [hCs]; exact Nat.ne_of_lt (Nat.lt_succ_self _)) (Heap.get?_push_of_some _ (hH2 ▸ Heap.get?_push_size _ rfl))⟩
  generalize hCc : H2.objs.size = Cc at hns₁ hsb₁ hCs ⊢
  generalize hD : h₂.objs.size = D at hacc hCs sz ⊢
  have hfp' : ∀ b ∈ fp, b < D := fun b hb => hD ▸ hfp b hb
  have hDC : D ≠ Cc := by rw [hCs]; exact Nat.ne_of_lt (Nat.lt_succ_self _)
  have hDC' : D < Cc := by rw [hCs]; exact Nat.lt_succ_self _
  have hDn : s.heap.get? D = none := by
    cases q : s.heap.get? D with
    | none => rfl
    | some o => exact absurd (sz D o q) (Nat.lt_irrefl _)
  have hCn : s.heap.get? Cc = none := by
    cases q : s.heap.get? Cc with
    | none => rfl
    | some o => exact absurd (Nat.lt_trans (sz Cc o q) hDC') (Nat.lt_irrefl _)
  have hCn2 : h₂.get? Cc = none := by
    cases q : h₂.get? Cc with
    | none => rfl
    | some o => exact absurd (Nat.lt_trans (hD ▸ Heap.lt_size q) hDC') (Nat.lt_irrefl _)
  have hDf : D ∉ fp := fun hm => Nat.lt_irrefl _ (hfp' _ hm)
  have hCf : Cc ∉ fp := fun hm => Nat.lt_irrefl _ (Nat.lt_trans (hfp' _ hm) hDC')
  have hDw : D ∉ wr := fun hm => hDf (W.sub _ hm)
  have hCw : Cc ∉ wr := fun hm => hCf (W.sub _ hm)
  have hlenR := hR.length
  have stay : ∀ b o, s.heap.get? b = some o → b ∉ wr ∧ b ≠ Cc ∧ b ≠ D := fun b o e => ⟨(fun hm => by rw [hwr b hm, hIn] at e; cases e), (fun h => by rw [h, hCn] at e; cases e), (fun h => by rw [h, hDn] at e; cases e)⟩
  have hx' : ∀ b ∈ [I, Cc, D], s.heap.get? b = none := fun b hb => by
    simp only [List.mem_cons, List.not_mem_nil, or_false] at hb
    rcases hb with rfl | rfl | rfl <;> assumption
  have Xp := C.sim.avoid hx'
  -- the callee's view
  have view : ∃ Sc : Sx, Sc.prog = S.prog ∧ Sc.w = S.w ∧ Cc ∈ Sc.ad ∧ (∀ b ∈ Sc.ad, b ∈ [I, Cc, D] ∨ ∃ o, s.heap.get? b = some o) ∧ (∀ v v' z, VRel S ρ s.heap v z → Ren [] H v v' → (items = its ∧ base = cap.map fun i => loc[i]?.join) → v' = v → VRel Sc [] s.heap v' z) ∧ (¬ (items = its ∧ base = cap.map fun i => loc[i]?.join) → ∀ v v' z, VRel S ρ s.heap v z → Ren [] H v v' → VRel Sc [] s.heap v' z) ∧
      (∀ h' r y, Kp s.heap h' → VRel Sc [] h' r y → ((items = its ∧ base = cap.map fun i => loc[i]?.join) ∨ NoFl r) → VRel ⟨S.ad ++ [I, Cc, D], S.prog, S.w⟩ ρ h' r y) := by
    by_cases hg : items = its ∧ base = cap.map fun i => loc[i]?.join
    · refine ⟨⟨(S.ad ++ [I, Cc, D]) ++ ρ, S.prog, S.w⟩, rfl, rfl, by simp, fun b hm => (List.mem_append.mp hm).elim (fun q => (List.mem_append.mp q).elim (fun q => .inr (C.sd b q)) .inl) fun q => .inr (C.sim.mem q), ?_, fun h => absurd hg h, ?_⟩
      · intro v v' z V R _ e; subst e; exact (V.avoid hx').pure R
      · intro h' r y k V _
        exact VRel.up (Sc := ⟨(S.ad ++ [I, Cc, D]) ++ ρ, S.prog, S.w⟩) (S := ⟨S.ad ++ [I, Cc, D], S.prog, S.w⟩) rfl rfl (fun a h2 => ⟨fun q => h2 (List.mem_append_right _ q), fun q => h2 (List.mem_append_left _ q)⟩) (C.sim.kp k).noTuple (C.sim.kp k).listCls V
    · refine ⟨⟨S.ad ++ [I, Cc, D], S.prog, S.w⟩, rfl, rfl, by simp, fun b hm => (List.mem_append.mp hm).elim (fun q => .inr (C.sd b q)) .inl, fun _ _ _ _ _ h => absurd h hg, ?_, ?_⟩
      · intro _ v v' z V R; exact (V.avoid hx').frz Xp R
      · intro h' r y k V q; exact VRel.upN (fun _ h => h) (C.sim.kp k).noTuple (C.sim.kp k).listCls V (q.resolve_left hg)
  obtain ⟨Sc, hp, hw, hCsc, hsd, v1, v2, vback⟩ := view
  have seen : ∀ i v v' z, loc[i]?.join = some v → Ren [] H v v' → VRel S ρ s.heap v z → i ∈ cap → (∃ j : Nat, cap[j]? = some i ∧ base[j]?.join = some v') → VRel Sc [] s.heap v' z := by
    intro i v v' z e R V hi hb
    by_cases hg : items = its ∧ base = cap.map fun i => loc[i]?.join
    · refine v1 v v' z V R hg ?_
      obtain ⟨j, ej, eb⟩ := hb
      rw [hg.2, List.getElem?_map, ej] at eb
      simp at eb
      rw [e] at eb
      exact (Option.some.inj eb).symm
    · exact v2 hg v v' z V R
  have loop : ∀ s₃ : Shared, s₃ = { s with heap := h₁, toks := tk₂ + ([] : List (Str × Value)).length } →
      codeAny (model P.prog P.w) A (.compLoop (.ListComp elt [⟨tgt, it, ifs, 0⟩] scope pos) 0 (.ref I) (.ref D) (compEnvC scope cl Cc env)) (RR (.ref D) Cc) s₃ := by
    rintro s₃ rfl
    refine compLoop_tests (fun k s' => ∃ i h' tk m ys done, s' = { s with heap := h', toks := tk } ∧ k = its.length + 1 - i ∧ i ≤ its.length ∧ St i h' ∧ h'.PlainList D ys ∧ h'.Ns Cc m ∧ VRels ⟨S.ad ++ [I, Cc, D], S.prog, S.w⟩ ρ h' done ys.toList ∧ done.length ≤ i ∧ Kp s.heap h' ∧
      compItems tst el (items.drop i) (fun vs => K (done ++ vs))) ?_ (its.length + 1)
      ⟨0, h₁, _, _, #[], [], rfl, rfl, Nat.zero_le _, W.frame _ _ _ st0 fun b _ o e => kH b o e, hacc, hns₁, .nil, Nat.zero_le _, k₂.trans kH, by simpa using hitems⟩
    rintro k s' ⟨i, h', tk, m, ys, done, rfl, rfl, hi, st, hys, hn, hV, hdl, hk, hrest⟩
    by_cases hlt : i < its.length
    · refine W.item i _ _ _ hlt st fun y h₃ tk₃ hPy st₃ hk₃ => ?_
      have hi' : i < items.length := by rw [← hlenR]; exact hlt
      obtain ⟨u, eu, Vu⟩ := hit i y hlt hPy
      have eu' : items[i]? = some items[i] := by simp [hi']
      have Ru : Ren [] H u items[i] := rens_get hR eu eu'
      have hn₃ : h₃.Ns Cc m := hn.at' fun o e => hk₃ _ o hCw e
      have hCad : Cc ∈ Sc.ad := hCsc
      have uS : VRel Sc [] s.heap items[i] y := by
        by_cases hg : items = its ∧ base = cap.map fun i => loc[i]?.join
        · refine v1 u items[i] y Vu Ru hg ?_
          have : its[i]? = some items[i] := by rw [← hg.1]; exact eu'
          rw [eu] at this; exact (Option.some.inj this).symm
        · exact v2 hg u items[i] y Vu Ru
      have k₃ : Kp s.heap h₃ := fun b o e => hk₃ b o (stay b o e).1 (hk b o e)
      rw [List.drop_eq_getElem_cons hi'] at hrest
      simp only [compItems] at hrest
      obtain ⟨bx, hbx, hrest⟩ := htst' _ _ hrest
      obtain ⟨oI, hoI, hpI⟩ := hI _ _ st₃
      refine letGo_ok hoI hpI ?_
      refine wpAny_mono (tgt_ok hhn htg hnd rfl (by simp [compEnvC, relabel, hkind]) hCad (fun t htm => by rw [compEnv_kd _ _ _ _ ho.1]; unfold compKd; rw [hx t htm]) hn₃ (uS.kp0 k₃) hbx) (fun _ s₄ h₄' => ?_) fun _ _ y => y
      obtain ⟨h₄, tk₄, m₄, us, rfl, rfl, hs₄, hn₄, hus⟩ := h₄'
      have k₄ : Kp s.heap h₄ := fun b o e => by
        have q := stay b o e
        exact hs₄ b o q.2.1 (hk₃ b o q.1 (hk b o e))
      have st₄ : St (i + 1) h₄ := W.frame _ _ _ st₃ fun b hb o e => hs₄ b o (fun h => hCf (by have h' : b = Cc := h; rw [← h']; exact hb)) e
      have ys₄ : h₄.PlainList D ys := PlainList.at' hys fun o e => hs₄ D o hDC (hk₃ D o hDw e)
      have here : ∀ {h : Heap}, Kp h₄ h → ∀ b ∈ [I, Cc, D], ∃ o, h.get? b = some o := fun {h} kh b hb => by
        simp only [List.mem_cons, List.not_mem_nil, or_false] at hb
        rcases hb with rfl | rfl | rfl
        · obtain ⟨o, ho, _⟩ := hI _ _ st₄; exact ⟨o, kh _ _ ho⟩
        · obtain ⟨o, _, _, ho, _⟩ := hn₄; exact ⟨o, kh _ _ ho⟩
        · obtain ⟨o, ho⟩ := ys₄; exact ⟨_, kh _ _ ho⟩
      have ctx : ∀ {h : Heap} {tk : Nat}, Kp h₄ h → h.Ns Cc m₄ → Cx P l A (compEnvC scope cl Cc env) (freeNames scope ++ txs) Sc [] (base ++ us.map some) [] { s with heap := h, toks := tk } := fun {h} {tk} kh hnh =>
        comp_cx C ho hcl hcell hcap hx hbase (k₄.trans kh) hnh (fun i t u e1 e2 => let ⟨z, a, b⟩ := hus i t u e1 e2; ⟨z, a, b.kp0 kh⟩) hp hw (fun b hb => (hsd b hb).elim (fun q => here kh b q) fun ⟨o, ho⟩ => ⟨o, kh _ _ (k₄ _ _ ho)⟩) (fun i v v' z e1 e2 e3 _ hic hjb => (seen i v v' z e1 e2 e3 hic hjb).kp0 (k₄.trans kh))
      have V₄ : VRels ⟨S.ad ++ [I, Cc, D], S.prog, S.w⟩ ρ h₄ done ys.toList := hV.chg fun b o hb e => by
        have hb' : b ∉ [I, Cc, D] := fun q => hb (List.mem_append_right _ q)
        simp only [List.mem_cons, List.not_mem_nil, or_false, not_or] at hb'
        exact hs₄ b o hb'.2.1 (hk₃ b o (fun q => hb'.1 (hwr b q)) e)
      refine wpAny_mono (tests_ok hcs (iht Cc) hil (ctx (Kp.refl _) hn₄) hrest) (fun ok s₅ hok => ?_) fun _ _ y => y
      obtain ⟨h₅, tk₅, rfl, k₅, q₅⟩ := hok
      cases ok with
      | false =>
        refine ⟨its.length + 1 - (i + 1), cc1 hlt, i + 1, h₅, tk₅, _, ys, done, rfl, rfl, hlt, W.frame _ _ _ st₄ fun b _ o e => k₅ b o e, PlainList.at' ys₄ fun o e => k₅ _ o e, hn₄.keeps k₅, V₄.kp0 k₅, by omega, k₄.trans k₅, by simpa using q₅⟩
      | true =>
        simp only [if_true] at q₅ ⊢
        refine wpAny_mono (elt_ok (ihe Cc) (ctx k₅ (hn₄.keeps k₅)) (hel' _ _ _ hbx q₅)) (fun z s₆ hz => ?_) fun _ _ y => y
        obtain ⟨h₆, tk₆, r', rfl, k₆, Vr, hfl, q₆⟩ := hz
        have ys₆ : h₆.PlainList D ys := PlainList.at' ys₄ fun o e => k₆ _ o (k₅ _ o e)
        have e1 := V₄.length
        simp only [Array.length_toList] at e1
        refine wpAny_list_append_plain (hsz := Nat.le_of_lt (cc2 e1 hdl hlt hsm)) ys₆ fun h₇ hl₇ hs₇ => ?_
        have k₇ : Kp s.heap h₇ := fun b o e => hs₇.extBut b o (stay b o e).2.2 (k₆ b o (k₅ b o (k₄ b o e)))
        refine ⟨its.length + 1 - (i + 1), cc1 hlt, i + 1, h₇, tk₆, _, ys.push z, done ++ [r'], rfl, rfl, hlt, W.frame _ _ _ st₄ fun b hb o e => hs₇.extBut b o (fun h => hDf (h ▸ hb)) (k₆ b o (k₅ b o e)), hl₇, ((hn₄.keeps k₅).keeps k₆).sameBut hs₇ (Ne.symm hDC), ?_, by simp; omega, k₇, by simpa using q₆⟩
        have Va : VRels ⟨S.ad ++ [I, Cc, D], S.prog, S.w⟩ ρ h₆ (done ++ [r']) (ys.toList ++ [z]) := ((V₄.kp0 k₅).kp0 k₆).app (.cons (vback h₆ r' z (k₄.trans (k₅.trans k₆)) Vr hfl) .nil)
        have Vb := Va.chg (h' := h₇) fun b o hb e => by
          have hb' : b ∉ [I, Cc, D] := fun q => hb (List.mem_append_right _ q)
          simp only [List.mem_cons, List.not_mem_nil, or_false, not_or] at hb'
          exact hs₇.extBut b o hb'.2.2 e
        simpa using Vb
    · have hie : i = its.length := Nat.le_antisymm hi (Nat.le_of_not_lt hlt)
      subst hie
      refine W.done _ _ _ st fun h₃ tk₃ hk₃ => ?_
      have hdrop : items.drop its.length = [] := by rw [hlenR]; simp
      rw [hdrop] at hrest
      simp only [compItems, List.append_nil] at hrest
      have k₃ : Kp s.heap h₃ := fun b o e => hk₃ b o (stay b o e).1 (hk b o e)
      refine hRR D Cc h₃ tk₃ m ys done hDn hCn2 hCn hDC (hn.at' fun o e => hk₃ _ o hCw e) (PlainList.at' hys fun o e => hk₃ _ o hDw e) ?_ (Nat.le_trans hdl hsm) k₃ hrest
      exact hV.chg (h' := h₃) fun b o hb e => by
        have hb' : b ∉ [I, Cc, D] := fun q => hb (List.mem_append_right _ q)
        simp only [List.mem_cons, List.not_mem_nil, or_false, not_or] at hb'
        exact hk₃ b o (fun q => hb'.1 (hwr b q)) e
  exact codeAny_compStart_list (loop _ rfl) (W.self 0 _ _ _ (W.frame _ _ _ st0 fun b _ o e => kH b o e) (loop _ rfl))
end

open PySem PyProof.Rows PySem.SeqAt
section
variable {P : PC} {l : Lv} {A : Around} {env : Env} {names : List Str} {S : Sx} {ρ : List Addr} {loc : List (Option AV)} {H : AH} {s : Shared} {X : Str → Prop} {E : Value → Shared → Prop} {Q : AV → AH → Prop}

theorem folded_id {nt : NT} {n : Nat} {kd : Str → Option NameKind} {e : PySem.Expr} {c : CE} (h : compE nt n kd names e = some c) (x : Value) : foldedSetIterable e env x = pure x := by
  cases n with
  | zero => cases h
  | succ n => cases e <;> first | rfl | cases h

theorem allSome_len {α β : Type} {f : α → Option β} : ∀ {xs : List α} {ys : List β}, allSome (xs.map f) = some ys → xs.length = ys.length
  | [], _, h => by cases h; rfl
  | x :: r, _, h => by obtain ⟨a, t, _, e2, rfl⟩ := allSome_cons h; simp [allSome_len e2]
theorem allSome_get {α β : Type} {f : α → Option β} : ∀ {xs : List α} {ys : List β}, allSome (xs.map f) = some ys → ∀ (j : Nat) (e : α) (c : β), xs[j]? = some e → ys[j]? = some c → f e = some c
  | [], _, _, j, e, c, h1, _ => by simp at h1
  | x :: r, _, h, j, e, c, h1, h2 => by
    obtain ⟨a, t, e1, e2, rfl⟩ := allSome_cons h
    cases j with
    | zero => simp at h1 h2; subst h1 h2; exact e1
    | succ j => exact allSome_get e2 j e c (by simpa using h1) (by simpa using h2)
/-- what compOk says -/
theorem compOk_spec {scope : Scope} {kd : Str → Option NameKind} {xs : List Str} (h : compOk scope kd xs = true) : scope.kind = .function ∧ (∀ y ∈ scope.names, y.2 ≠ .cell) ∧ (∀ y ∈ scope.names, y.2 = .local → scope.names.lookup y.1 = some .local) ∧ (∀ x ∈ xs, scope.names.lookup x = some .local) ∧
    ∀ x ∈ freeNames scope, kd x = some .cell ∧ scope.names.lookup x = some .free := by
  unfold compOk at h
  simp only [Bool.and_eq_true, beq_iff_eq, List.all_eq_true, bne_iff_ne, ne_eq, Bool.or_eq_true, Bool.not_eq_true', decide_eq_true_eq, List.mem_map, forall_exists_index, and_imp, forall_apply_eq_imp_iff₂] at h
  obtain ⟨⟨⟨⟨⟨h1, h2⟩, h3⟩, h4⟩, h5⟩, h6⟩ := h
  refine ⟨h1, h2, fun y hy hl => (h3 y hy).resolve_left fun q => q hl, h4, fun x hx => ⟨h5 x hx, ?_⟩⟩
  have hx' := hx
  unfold freeNames at hx'
  obtain ⟨p, hp, rfl⟩ := List.mem_map.mp hx'
  have := h6 p (List.mem_filter.mp hp).1
  rcases this with q | q
  · have : (freeNames scope).contains p.1 = true := by simpa using hx
    rw [this] at q; cases q
  · exact q

/-- a comprehension, up to what is done with its list -/
theorem comp_run {use : Option (Value → Sem Unit)} {QQ : Value → Shared → Prop} (ho : EnvOk env) {nt : NT} {n : Nat} {scope : Scope} {cap : List Nat} {tgt : PySem.Expr} {nv : Nat} {txs : List Str} {pos pos' : Pos} {elt it : PySem.Expr} {ifs : List PySem.Expr} {ce ci : CE} {cs : List CE}
    (ih : ∀ (env : Env) (names : List Str), EnvOk env → ∀ (e : PySem.Expr) (c : CE), compE nt n env.kindOf names e = some c → EvOk P l env names e c ∧ TrOk P l env names e c)
    (hi : compE nt n env.kindOf names it = some ci) (hcap : allSome ((freeNames scope).map fun x => idxOf x names) = some cap) (he : compE nt n (compKd scope env.kindOf) (freeNames scope ++ txs) elt = some ce)
    (hc : allSome (ifs.map (compE nt n (compKd scope env.kindOf) (freeNames scope ++ txs))) = some cs) (hok : compOk scope env.kindOf txs = true) (htg : tgtNames tgt = some (nv, txs)) (hnd : txs.Nodup) (hcs : cs.length ≤ 1)
    (C : Cx P l A env names S ρ loc H s) (hE : ExOk P A X E s) (h : wpE P l X (.comp ce cs cap nv ci) loc H Q)
    (fin : ∀ h₁ tk₁ e₁ G₁ D Cc h' tk m ys vs, Kp s.heap h₁ → Fresh s.heap e₁ → Cx P l A env names S (ρ ++ e₁) loc (H ++ G₁) { s with heap := h₁, toks := tk₁ } → h₁.get? D = none → h₁.get? Cc = none → D ≠ Cc → h'.Ns Cc m → h'.PlainList D ys → (∃ Sp : Sx, Sp.prog = S.prog ∧ Sp.w = S.w ∧ (∀ b ∈ S.ad, b ∈ Sp.ad) ∧ D ∈ Sp.ad ∧ Cc ∈ Sp.ad ∧ VRels Sp (ρ ++ e₁) h' vs ys.toList) → vs.length ≤ smallN → Kp h₁ h' → Q (.ref (H ++ G₁).length) ((H ++ G₁) ++ [vs]) →
      compPost (model P.prog P.w) A E use QQ (.ref D) Cc (.ok .next) { s with heap := h', toks := tk }) :
    wpAny (model P.prog P.w) A (comprehension (.ListComp elt [⟨tgt, it, ifs, 0⟩] scope pos) scope env pos' (newList []) false (eval it env) use) QQ E s := by
  obtain ⟨h1, h2, h3, h4, h5⟩ := compOk_spec hok
  obtain ⟨cl, ecl, hcl⟩ := closure_ok (env := env) (scope := scope) fun x hx => ho.2.2.2 x (h5 x hx).1
  simp only [w_const, w_var, w_bin, w_neg, w_not, w_and, w_or, w_cmp, w_chain, w_idx, w_slc, w_tup, w_lst, w_dct, w_call, w_prim, w_isin, w_isown, w_meth, w_comp] at h
  refine wpAny_comprehension_free (g := ⟨tgt, it, ifs, 0⟩) (gs := []) rfl (fun x => folded_id hi x) ecl h1 h3 ?_
  refine wpAny_mono ((ih env names ho it ci hi).1 A S ρ loc H s _ X E C hE h.2) (fun x s₁ hx => ?_) fun _ _ y => y
  obtain ⟨hh1, tk1, n1, v1, G1, rfl, k1, f1, X1, V1, its, items, base, e1, e2, e3, e4, q⟩ := hx
  have C1 := C.kp (tk := tk1) k1 f1 X1
  refine iter_walk (C.aok.1 h.1) X1 V1 e1 fun I fp wr Pp St h₂ W st0 k₂ hwr hIn hfp _ hit hI => ?_
  have hIf : ∀ (Cc : Addr), EnvOk (compEnvC scope cl Cc env) := fun Cc => compEnv_ok ho h1 h2 hcl
  have kdc : ∀ (Cc : Addr), (compEnvC scope cl Cc env).kindOf = compKd scope env.kindOf := fun Cc => compEnv_kd scope env cl Cc ho.1
  exact comp_core (it := it) (pos := pos) (tk₂ := tk1) C1 ho h1 h2 hcl h5 hcap h4 htg hnd (C.aok.1 h.1) (fun Cc => (ih _ _ (hIf Cc) elt ce (by rw [kdc]; exact he)).1) (fun Cc j e c a b => (ih _ _ (hIf Cc) e c (by rw [kdc]; exact allSome_get hc j e c a b)).2) (allSome_len hc) hcs e2 e3 e4 W st0 k₂ hwr hIn hfp hit hI q
    (fun D Cc h' tk m ys vs a1 a2 a3 a4 a5 a6 a7 a8 a9 a10 => fin hh1 tk1 n1 G1 D Cc h' tk m ys vs k1 f1 C1 a1 a3 a4 a5 a6 ⟨⟨S.ad ++ [I, Cc, D], S.prog, S.w⟩, rfl, rfl, fun b hb => List.mem_append_left _ hb, List.mem_append_right _ (by simp), List.mem_append_right _ (by simp), a7⟩ a8 a9 a10)

theorem comp_ok (ho : EnvOk env) {nt : NT} {n : Nat} {scope : Scope} {cap : List Nat} {tgt : PySem.Expr} {nv : Nat} {txs : List Str} {pos : Pos} {elt it : PySem.Expr} {ifs : List PySem.Expr} {ce ci : CE} {cs : List CE}
    (ih : ∀ (env : Env) (names : List Str), EnvOk env → ∀ (e : PySem.Expr) (c : CE), compE nt n env.kindOf names e = some c → EvOk P l env names e c ∧ TrOk P l env names e c)
    (hi : compE nt n env.kindOf names it = some ci) (hcap : allSome ((freeNames scope).map fun x => idxOf x names) = some cap) (he : compE nt n (compKd scope env.kindOf) (freeNames scope ++ txs) elt = some ce)
    (hc : allSome (ifs.map (compE nt n (compKd scope env.kindOf) (freeNames scope ++ txs))) = some cs) (hok : compOk scope env.kindOf txs = true) (htg : tgtNames tgt = some (nv, txs)) (hnd : txs.Nodup) (hcs : cs.length ≤ 1) :
    EvOk P l env names (.ListComp elt [⟨tgt, it, ifs, 0⟩] scope pos) (.comp ce cs cap nv ci) := by
  intro A S ρ loc H s Q X E C hE h
  show wpAny _ A (comprehension (.ListComp elt [⟨tgt, it, ifs, 0⟩] scope pos) scope env (firstIterPos [⟨tgt, it, ifs, 0⟩] pos) (newList []) false (eval it env) none) _ _ s
  refine comp_run ho ih hi hcap he hc hok htg hnd hcs C hE h ?_
  intro h₁ tk₁ e₁ G₁ D Cc h' tk m ys vs k1 f1 C1 hD hCc hDC hn hp hV hl k' q
  refine ⟨m, hn, fun h'' hs => ?_⟩
  have k'' : Kp h₁ h'' := fun b o e => hs.extBut b o (fun hb => by rw [hb, hCc] at e; cases e) (k' b o e)
  obtain ⟨Sp, hp1, hp2, hp3, hp4, hp5, hV⟩ := hV
  refine EP.after (G := G₁) (tk₁ := tk₁) k1 f1 ?_
  refine ⟨h'', tk, [D], .ref (H ++ G₁).length, [vs], rfl, k'', fun a ha => by simp at ha; subst ha; exact hD, ?_, .ref ?_, q⟩
  · refine C1.sim.pushO k'' hD (fun hm => ?_) (PlainList.at' hp fun o e => hs.extBut D o hDC e) ?_
    · obtain ⟨o, ho⟩ := C1.sd D hm; rw [hD] at ho; cases ho
    · refine VRels.own hp1 hp2 hp3 (fun b hb => by simp at hb; subst hb; exact hp4) (hV.chg fun b o hb e => hs.extBut b o (fun h => hb (h ▸ hp5)) e)
  · rw [← C1.sim.len]; simp
end

open PySem PyProof.Rows PySem.SeqAt
section
variable {P : PC} {l : Lv} {A : Around} {env : Env} {names : List Str} {S : Sx} {ρ : List Addr} {loc : List (Option AV)} {H : AH} {s : Shared} {X : Str → Prop} {E : Value → Shared → Prop} {Q : AV → AH → Prop}

theorem HSim.chg {h h' : Heap} (Z : HSim S ρ H h) (hk : ∀ b o, b ∉ S.ad → h.get? b = some o → h'.get? b = some o) : HSim S ρ H h' where
  len := Z.len
  nodup := Z.nodup
  off := Z.off
  obj := fun i vs e => by
    obtain ⟨a, items, e1, p, v⟩ := Z.obj i vs e
    exact ⟨a, items, e1, PlainList.at' p fun o q => hk _ o (Z.off a (List.mem_of_getElem? e1)) q, v.chg hk⟩
theorem HSim.sub {S' : Sx} (hp : S'.prog = S.prog) (hw : S'.w = S.w) (hs : ∀ b ∈ S.ad, b ∈ S'.ad) {h : Heap} (Z : HSim S' ρ H h) : HSim S ρ H h where
  len := Z.len
  nodup := Z.nodup
  off := fun a ha hm => Z.off a ha (hs a hm)
  obj := fun i vs e => by
    obtain ⟨a, items, e1, p, v⟩ := Z.obj i vs e
    exact ⟨a, items, e1, p, v.sub hp hw hs⟩
theorem Cx.guard {x' : List Addr} {h' : Heap} {tk : Nat} (C : Cx P l A env names S ρ loc H s) (hx : ∀ b ∈ x', s.heap.get? b = none) (k : Kp s.heap h') (hd : ∀ b ∈ x', ∃ o, h'.get? b = some o) : Cx P l A env names ⟨S.ad ++ x', S.prog, S.w⟩ ρ loc H { s with heap := h', toks := tk } where
  aok := C.aok
  gok := C.gok.kp k
  pp := C.pp
  pw := C.pw
  sd := fun b hb => (List.mem_append.mp hb).elim (fun q => let ⟨o, e⟩ := C.sd b q; ⟨o, k _ _ e⟩) (hd b)
  sim := (C.sim.avoid hx).kp k
  loc := fun i y v en e => let ⟨rv, h2, h3⟩ := C.loc i y v en e; ⟨rv, h2.kp k, (h3.avoid hx).kp0 k⟩
theorem dct_ok {nt : NT} {n : Nat} {kd : Str → Option NameKind} {keys : List (Option PySem.Expr)} {es : List PySem.Expr} {p : Pos} {ks : List Str} {cs : List CE} (ih : ∀ (e : PySem.Expr) (c : CE), compE nt n kd names e = some c → EvOk P l env names e c)
    (hk : allSome (keys.map strKey) = some ks) (e : allSome (es.map (compE nt n kd names)) = some cs) (hl : ks.length = cs.length ∧ ks.Nodup ∧ ks.length < 1) : EvOk P l env names (.Dict keys es p) (.dct ks cs) := by
  intro A S ρ loc H s Q X E C hE h
  simp only [w_const, w_var, w_bin, w_neg, w_not, w_and, w_or, w_cmp, w_chain, w_idx, w_slc, w_tup, w_lst, w_dct, w_call, w_prim, w_isin, w_isown, w_meth, w_comp] at h
  have n0 := size_none s.heap
  cases ks with
  | nil =>
    have : keys = [] := List.length_eq_zero_iff.mp (allSome_len hk)
    subst this
    have hcs : cs = [] := List.length_eq_zero_iff.mp (by simpa using hl.1.symm)
    subst hcs
    have : es = [] := List.length_eq_zero_iff.mp (allSome_len e)
    subst this
    simp only [w_nil, w_cons] at h
    refine wpAny_Dict_empty ?_
    refine EP.grow C.sim (push_kp _ _) (.dict (f := fun _ => none) (xs := []) (fun hm => by obtain ⟨o, ho⟩ := C.sim.mem hm; rw [n0] at ho; cases ho) (fun hm => by obtain ⟨o, ho⟩ := C.sd _ hm; rw [n0] at ho; cases ho) ?_ (fun _ => rfl) .nil) h
    have := (Heap.DictOf.new (knd := strKind S.prog S.w) s.heap).mapOf
    exact this
  | cons k0 kr => exact absurd hl.2.2 (by simp)
end

open PySem PyProof.Rows PySem.SeqAt
section
variable {P : PC} {l : Lv} {A : Around} {env : Env} {names : List Str} {S : Sx} {ρ : List Addr} {loc : List (Option AV)} {H : AH} {s : Shared} {X : Str → Prop} {E : Value → Shared → Prop} {Q : AV → AH → Prop}

theorem base_id {nt : NT} {n : Nat} {kd : Str → Option NameKind} {o : PySem.Expr} {c : CE} (h : compE nt n kd names o = some c) (name : Str) : attributeBase o name env (eval o env) = eval o env := by
  cases n with
  | zero => cases h
  | succ n =>
    cases o <;> first | rfl | skip
    rename_i f args kws p
    rcases args with _ | ⟨a, r⟩
    · exfalso
      replace h : (if kws.isEmpty then compCall nt (compE nt n kd names) kd f [] p else Option.none) = some c := h
      split at h
      · unfold compCall at h
        cases e : nameOf f with
        | some x =>
          simp only [e] at h
          split at h
          · split at h
            · cases h
            · cases h
          · cases h
        | none =>
          simp only [e] at h
          cases e2 : attrOf f with
          | none => simp [e2] at h
          | some q =>
            simp only [e2] at h
            obtain ⟨c1, e1, h⟩ := Option.bind_eq_some_iff.mp h
            obtain ⟨l1, e2, h⟩ := Option.bind_eq_some_iff.mp h
            cases e2
            split at h
            · rename_i hc; simp at hc
            · cases h
      · cases h
    · cases f <;> rfl
theorem star_all {nt : NT} {n : Nat} {kd : Str → Option NameKind} {pos : Pos} (es : List PySem.Expr) (cs : List CE) (h : allSome (es.map (compE nt n kd names)) = some cs) : (backTo pos (starEach es env)).all (fun x => !x.1) = true := by
  have := star_any (env := env) (pos := pos) es cs h
  rw [List.any_eq_false] at this
  rw [List.all_eq_true]
  intro x hx
  simpa using this x hx
theorem isL_real {v : AV} {x : Value} (Z : HSim S ρ H s.heap) (V : VRel S ρ s.heap v x) (h : v.isL = true) : ∃ a items, x = .ref a ∧ s.heap.PlainList a items := by
  cases V with
  | fl ha hs hi hv => exact ⟨_, _, rfl, hi⟩
  | ref hi => obtain ⟨items, p, _⟩ := Z.mem' hi; exact ⟨_, _, rfl, p⟩
  | _ => cases h

/-- a method of a list is called -/
theorem meth_run {nt : NT} {n : Nat} {kd : Str → Option NameKind} {o : PySem.Expr} {name : Str} {id : String} {ap p : Pos} {es : List PySem.Expr} {c : CE} {cs : List CE} {R : AV → List AV → AH → Prop} {QQ : Value → Shared → Prop}
    (ih : ∀ (e : PySem.Expr) (c : CE), compE nt n kd names e = some c → EvOk P l env names e c) (e1 : compE nt n kd names o = some c) (e2 : allSome (es.map (compE nt n kd names)) = some cs) (hl : (ap.endLine == p.line) = true) (hlen : cs.length ≤ 20)
    (slot : Slot "list" name id) (hty : typeOf (.builtin id) = pure (.type "method_descriptor"))
    (C : Cx P l A env names S ρ loc H s) (hE : ExOk P A X E s) (h : wpE P l X c loc H fun v H₁ => onL v <| wpEs P l X cs loc H₁ fun vs H₂ => R v vs H₂)
    (fin : ∀ {h' : Heap} {tk : Nat} {e : List Addr} {G : AH} {v : AV} {vs : List AV} {x : Value} {xs : List Value}, Kp s.heap h' → Fresh s.heap e → Cx P l A env names S (ρ ++ e) loc (H ++ G) { s with heap := h', toks := tk } → VRel S (ρ ++ e) h' v x → VRels S (ρ ++ e) h' vs xs → v.isL = true → R v vs (H ++ G) →
      wpAny (model P.prog P.w) A (call (.builtin id) (x :: xs)) QQ E { s with heap := h', toks := tk }) :
    wpAny (model P.prog P.w) A (eval (.Call (.Attribute o name ap) es [] p) env) QQ E s := by
  have hln := allSome_len e2
  refine wpAny_Call_method (base_id e1 name) ?_ hl F.plainAttrs_list slot hty ?_
  · rw [star_all es cs e2]
    show (true && true && decide (es.length + 0 + 0 < 30)) = true
    simp; omega
  refine wpAny_mono (ih o c e1 A S ρ loc H s _ X E C hE h) (fun x s₁ hx => ?_) fun _ _ y => y
  obtain ⟨h1, tk1, n1, v1, G1, rfl, k1, f1, X1, V1, qz⟩ := hx
  obtain ⟨hL, q1⟩ := onL_of qz
  obtain ⟨a, items, rfl, ⟨m, hp⟩⟩ := isL_real (s := { s with heap := h1, toks := tk1 }) X1 V1 hL
  refine ⟨⟨_, hp, rfl⟩, fun b hb => by cases hb; exact ⟨_, hp, rfl⟩, ?_⟩
  have C1 := C.kp (tk := tk1) k1 f1 X1
  cases es with
  | nil =>
    cases e2
    simp only [w_nil, w_cons] at q1
    exact callWith_method0 (fin k1 f1 C1 V1 .nil hL q1)
  | cons e r =>
    obtain ⟨c0, t0, e3, e4, rfl⟩ := allSome_cons e2
    refine callWith_method1 (wpAny_mono (args_ok ih (e :: r) (c0 :: t0) e2 C1 (hE.kp k1) q1) (fun xs s₂ hx => ?_) fun _ _ y => y) (not_starred e3 r) (star_any r t0 e4)
    obtain ⟨h2, tk2, n2, vs, G2, rfl, k2, f2, X2, V2, q2⟩ := hx
    have := fin (tk := tk2) (k1.trans k2) (fresh_trans k1 f1 f2) (by simpa [List.append_assoc] using C1.kp (tk := tk2) k2 f2 X2) (by simpa [List.append_assoc] using V1.kp k2 f2) (by simpa [List.append_assoc] using V2) hL (by simpa [List.append_assoc] using q2)
    exact this

theorem countP_reads {h : Heap} {d : PyData} : ∀ {ys : List Value} {ds : List PyData} {as : List Addr}, ReadsAll h ys ds as → PyData.canLayAll0 ds = true → ys.countP (eqIn h d) = ds.countP fun e => e.eqv d
  | _, _, _, .nil, _ => rfl
  | _, _, _, .cons r rs, hc => by
    simp [PyData.canLayAll0] at hc
    simp [List.countP_cons, eqIn_of (da := d) r hc.1, countP_reads (d := d) rs hc.2]
theorem findIdx_reads {h : Heap} {d : PyData} : ∀ {ys : List Value} {ds : List PyData} {as : List Addr}, ReadsAll h ys ds as → PyData.canLayAll0 ds = true → ys.findIdx? (eqIn h d) = ds.findIdx? fun e => e.eqv d
  | _, _, _, .nil, _ => rfl
  | _, _, _, .cons r rs, hc => by
    simp [PyData.canLayAll0] at hc
    simp [List.findIdx?_cons, eqIn_of (da := d) r hc.1, findIdx_reads (d := d) rs hc.2]

theorem opMeth1 {vs : List AV} {k : AV → Prop} (h : on1 vs k) : ∃ v, vs = [v] ∧ k v := on1_of h
theorem meth_ok {nt : NT} {n : Nat} {kd : Str → Option NameKind} {o : PySem.Expr} {name : Str} {ap p : Pos} {es : List PySem.Expr} {c : CE} {cs : List CE} {m : Mt}
    (ih : ∀ (e : PySem.Expr) (c : CE), compE nt n kd names e = some c → EvOk P l env names e c) (e1 : compE nt n kd names o = some c) (e2 : allSome (es.map (compE nt n kd names)) = some cs) (hl : (ap.endLine == p.line) = true) (hlen : cs.length = 1) (hm : mtNames.lookup name = some m) :
    EvOk P l env names (.Call (.Attribute o name ap) es [] p) (.meth m c cs) := by
  intro A S ρ loc H s Q X E C hE h
  simp only [w_const, w_var, w_bin, w_neg, w_not, w_and, w_or, w_cmp, w_chain, w_idx, w_slc, w_tup, w_lst, w_dct, w_call, w_prim, w_isin, w_isown, w_meth, w_comp] at h
  have hmem := lookup_mem hm
  simp only [mtNames, List.mem_cons, Prod.mk.injEq, List.not_mem_nil, or_false] at hmem
  have eqs : ∀ {h' : Heap} {tk : Nat} {e : List Addr} {G : AH} {vs : List AV} {items : Array Value} {ds : List PyData} {u : AV} {y : Value} {d : PyData}, Cx P l A env names S (ρ ++ e) loc (H ++ G) { s with heap := h', toks := tk } → VRels S (ρ ++ e) h' vs items.toList → Rds (H ++ G) 9 vs ds → VRel S (ρ ++ e) h' u y → Rd (H ++ G) 9 u d →
      (∀ z, z ∈ items → EqAt A.in1 { s with heap := h', toks := tk } z y (eqIn h' d z)) ∧ ∃ as, ReadsAll h' items.toList ds as := by
    intro h' tk e G vs items ds u y d C' vv rs Vu ru
    obtain ⟨as, qa⟩ := ru.reads C'.sim Vu
    obtain ⟨bs, qb⟩ := rs.reads C'.sim vv
    refine ⟨fun z hz => ?_, bs, qb⟩
    obtain ⟨d', cs, hd, q⟩ := readsAll_get qb (y := z) (by simpa using hz)
    have e0 : eqIn h' d z = PyData.eqv d' d := eqIn_of (da := d) q (canLay_mem rs.ok.1 hd)
    rw [e0]
    refine eqAt_reads d' d A.in1 { s with heap := h', toks := tk } z y cs as q qa (canLay_mem rs.ok.1 hd) ru.ok.1 ?_
    have := depth_mem rs.ok.2 hd
    have e0 : A.in1.units = A.units + 1 := rfl
    have := ru.ok.2
    have := units_ok C.aok
    omega
  rcases hmem with ⟨rfl, rfl⟩ | ⟨rfl, rfl⟩
  · refine meth_run ih e1 e2 hl (by omega) F.slot_list_count F.type_list_count C hE h ?_
    intro h' tk e G v vs x xs k fr C' V Vs hL q
    obtain ⟨u, eu, q⟩ := opMeth1 q
    subst eu
    obtain ⟨y, ey, Vu⟩ := Vs.of1
    subst ey
    · skip
      obtain ⟨ws, ds, d, ei, rs, ru, hsm, q⟩ := q
      obtain ⟨a, items, rfl, ⟨m, hp⟩, vv⟩ := items_real C'.sim V ei
      obtain ⟨he, as, ra⟩ := eqs C' vv rs Vu ru
      refine call_meets F.slot_list_count ⟨_, hp, rfl⟩ F.entry_list_count (F.args_list_count_2 _ _) (list_countAt a items m none #[] _ (eqIn h' d)) ⟨hp, he, ?_⟩
      rw [countP_reads ra rs.ok.1]
      exact EP.after k fr (EP.val C'.sim (.int _ _) q _)
  · refine meth_run ih e1 e2 hl (by omega) F.slot_list_index F.type_list_index C hE h ?_
    intro h' tk e G v vs x xs k fr C' V Vs hL q
    obtain ⟨u, eu, q⟩ := opMeth1 q
    subst eu
    obtain ⟨y, ey, Vu⟩ := Vs.of1
    subst ey
    · skip
      obtain ⟨ws, ds, d, j, ei, rs, ru, hsm, ej, q⟩ := q
      obtain ⟨a, items, rfl, ⟨m, hp⟩, vv⟩ := items_real C'.sim V ei
      obtain ⟨he, as, ra⟩ := eqs C' vv rs Vu ru
      rw [← findIdx_reads ra rs.ok.1, List.findIdx?_eq_some_iff_getElem] at ej
      obtain ⟨hj, hit, hno⟩ := ej
      have hj' : j < items.size := by simpa using hj
      have e3 := vv.length
      simp only [Array.length_toList] at e3
      refine call_meets F.slot_list_index ⟨_, hp, rfl⟩ F.entry_list_index (F.args_list_index_2 _ _) (list_indexAt a items m none #[] _ (eqIn h' d) j hj' (by unfold smallN at hsm; omega) (by simpa using hit) (fun m hm hmj => by have := hno m hmj; simpa using this)) ⟨hp, he, ?_⟩
      exact EP.after k fr (EP.val C'.sim (.int _ _) q _)
end

open PySem PyProof.Rows PySem.SeqAt
section
variable {P : PC} {l : Lv} {A : Around} {env : Env} {names : List Str} {S : Sx} {ρ : List Addr} {loc : List (Option AV)} {H : AH} {s : Shared} {X : Str → Prop} {E : Value → Shared → Prop} {Q : AV → AH → Prop}

theorem isown_ok (ho : EnvOk env) {t : Str} {p p' p'' : Pos} {e : PySem.Expr} {c : CE} (ie : EvOk P l env names e c) (hs : ∀ rest, starEach (e :: rest) env = (false, eval e env) :: starEach rest env)
    (hg : isGlob env.kindOf ("isinstance" : Str) = true) (hg' : isGlob env.kindOf t = true) : EvOk P l env names (.Call (.Name "isinstance" p) [e, .Name t p''] [] p') (.isown t c) := by
  intro A S ρ loc H s Q X E C hE h
  rw [w_isown] at h
  refine Call_ (bi_ok (v := .builtin "isinstance") ho C.gok hg (by decide +kernel) (callWith_builtin1 ?_ (hs _) rfl))
  refine args_cons (wpAny_mono (ie A S ρ loc H s _ X E C hE h) (fun x s₁ hx => ?_) fun _ _ y => y) (hs _)
  obtain ⟨h1, tk1, n1, v1, G1, rfl, k1, f1, X1, V1, qz⟩ := hx
  obtain ⟨c, b, rfl, eo, q⟩ := onExc_of qz
  have G := (C.kp (tk := tk1) k1 f1 X1).gok
  cases V1 with
  | exc _ _ hi =>
  obtain ⟨o, hi, hc⟩ := hi
  have fin : ∀ tk, EP S ρ H s Q (.bool b) { s with heap := h1, toks := tk } := fun tk => EP.after k1 f1 (EP.val (s := { s with heap := h1, toks := tk1 }) X1 (.bool b) q tk)
  unfold isGlob at hg'
  simp at hg'
  have hd : (t == ("__debug__" : Str)) = false := by simpa using hg'.2
  obtain ⟨x1, x2⟩ := G.ow t c b eo
  rcases x2 with ⟨m1, m2, rfl⟩ | ⟨m1, rfl⟩ | ⟨D, m1, y, n1, n2, rfl⟩
  · exact args_cons (Calls.Name_function_global ho.1 hg'.1 (Calls.loadGlobal_builtin (by rw [ho.2.1]; exact G.g) m1 (by rw [ho.2.2.1]; exact G.b) m2 (args_nil (isi_ve x1 hi hc (fin _)))) hd) rfl
  · exact args_cons (Calls.Name_function_global ho.1 hg'.1 (Calls.loadGlobal_global (by rw [ho.2.1]; exact G.g) m1 (args_nil (isi_self hi hc (fin _)))) hd) rfl
  · exact args_cons (Calls.Name_function_global ho.1 hg'.1 (Calls.loadGlobal_global (by rw [ho.2.1]; exact G.g) m1 (args_nil (isi_other x1 y n1 n2 hi hc (fin _)))) hd) rfl

/-- every expression that is compiled runs as its form says -/
theorem expr_ok {nt : NT} (hnt : P.nt = nt) : ∀ (n : Nat) (env : Env) (names : List Str), EnvOk env → ∀ (e : PySem.Expr) (c : CE), compE nt n env.kindOf names e = some c → EvOk P l env names e c ∧ TrOk P l env names e c
  | 0, _, _, _, _, _, h => by cases h
  | n + 1, env, names, ho, e, c, h => by
    have ih0 := expr_ok hnt n
    have ih : ∀ (e : PySem.Expr) (c : CE), compE nt n env.kindOf names e = some c → EvOk P l env names e c := fun e c h => (ih0 env names ho e c h).1
    have it : ∀ (e : PySem.Expr) (c : CE), compE nt n env.kindOf names e = some c → TrOk P l env names e c := fun e c h => (ih0 env names ho e c h).2
    cases e with
    | Constant k kk p =>
      obtain ⟨v, hc, rfl⟩ := Option.map_eq_some_iff.mp h
      exact ⟨const_ok hc, tr_plain (const_ok hc) rfl⟩
    | Name x p =>
      replace h : compName nt env.kindOf names x = some c := h
      unfold compName at h
      split at h
      · rename_i i hi; cases h; exact ⟨name_ok ho hi, tr_plain (name_ok ho hi) rfl⟩
      · split at h
        · rename_i hg
          obtain ⟨v, hc, rfl⟩ := Option.map_eq_some_iff.mp h
          have q := glob_ok (P := P) (l := l) (env := env) (names := names) (p := p) ho hg (by rw [hnt]; exact hc)
          exact ⟨q, tr_plain q rfl⟩
        · cases h
    | BinOp a op b p =>
      obtain ⟨c1, e1, h⟩ := Option.bind_eq_some_iff.mp h
      obtain ⟨c2, e2, h⟩ := Option.bind_eq_some_iff.mp h
      cases h
      have q := bin_ok (op := op) (p := p) (ih a c1 e1) (ih b c2 e2)
      exact ⟨q, tr_plain q rfl⟩
    | UnaryOp op a p =>
      cases op with
      | USub =>
        obtain ⟨c1, e1, rfl⟩ := Option.map_eq_some_iff.mp h
        exact ⟨neg_ok (ih a c1 e1), tr_plain (neg_ok (ih a c1 e1)) rfl⟩
      | Not =>
        obtain ⟨c1, e1, rfl⟩ := Option.map_eq_some_iff.mp h
        exact ⟨not_ok (ih a c1 e1), tr_not (it a c1 e1)⟩
      | _ => cases h
    | BoolOp op es p =>
      obtain ⟨cs, e1, h⟩ := Option.bind_eq_some_iff.mp h
      exact ⟨fun A S ρ loc H s Q X E C hE q => bool_ok op ih es cs c e1 h C hE q, fun A S ρ loc H s K X E C hE q => tr_bool op it es cs c e1 h C hE q⟩
    | Compare a ops rs p =>
      rcases ops with _ | ⟨op1, _ | ⟨op2, _ | ⟨op3, ops⟩⟩⟩
      · cases h
      · rcases rs with _ | ⟨b, _ | ⟨d, rs⟩⟩
        · cases h
        · obtain ⟨c1, e1, h⟩ := Option.bind_eq_some_iff.mp h
          obtain ⟨c2, e2, h⟩ := Option.bind_eq_some_iff.mp h
          cases h
          exact ⟨cmp_ok (ih a c1 e1) (ih b c2 e2) (not_marks e2 op1), tr_cmp (ih a c1 e1) (ih b c2 e2) (not_marks e2 op1)⟩
        · cases h
      · rcases rs with _ | ⟨b, _ | ⟨d, _ | ⟨d2, rs⟩⟩⟩
        · cases h
        · cases h
        · obtain ⟨c1, e1, h⟩ := Option.bind_eq_some_iff.mp h
          obtain ⟨c2, e2, h⟩ := Option.bind_eq_some_iff.mp h
          obtain ⟨c3, e3, h⟩ := Option.bind_eq_some_iff.mp h
          cases h
          exact ⟨chain_ok (ih a c1 e1) (ih b c2 e2) (ih d c3 e3) (not_marks e3 op2), tr_chain (ih a c1 e1) (ih b c2 e2) (ih d c3 e3) (not_marks e3 op2)⟩
        · cases h
      · rcases rs with _ | ⟨b, _ | ⟨d, _ | ⟨d2, rs⟩⟩⟩ <;> cases h
    | Subscript o i p =>
      replace h : compSub (compE nt n env.kindOf names) o i = some c := h
      unfold compSub at h
      cases hs : isSlice i with
      | some q =>
        simp only [hs] at h
        obtain ⟨p', rfl⟩ := isSlice_some hs
        obtain ⟨c1, e1, h⟩ := Option.bind_eq_some_iff.mp h
        obtain ⟨c2, e2, h⟩ := Option.bind_eq_some_iff.mp h
        obtain ⟨c3, e3, h⟩ := Option.bind_eq_some_iff.mp h
        obtain ⟨c4, e4, h⟩ := Option.bind_eq_some_iff.mp h
        cases h
        have q := slc_ok (p := p') (p' := p) ih e1 e2 e3 e4
        exact ⟨q, tr_plain q rfl⟩
      | none =>
        simp only [hs] at h
        obtain ⟨c1, e1, h⟩ := Option.bind_eq_some_iff.mp h
        obtain ⟨c2, e2, h⟩ := Option.bind_eq_some_iff.mp h
        cases h
        have q := idx_ok (p := p) (ih o c1 e1) (ih i c2 e2)
        exact ⟨q, tr_plain q rfl⟩
    | Tuple es k p =>
      obtain ⟨cs, e1, rfl⟩ := Option.map_eq_some_iff.mp h
      exact ⟨tup_ok ih e1, tr_plain (tup_ok ih e1) rfl⟩
    | List es p =>
      obtain ⟨cs, e1, rfl⟩ := Option.map_eq_some_iff.mp h
      exact ⟨lst_ok ih e1, tr_plain (lst_ok ih e1) rfl⟩
    | Dict ks es p =>
      obtain ⟨l1, e1, h⟩ := Option.bind_eq_some_iff.mp h
      obtain ⟨l2, e2, h⟩ := Option.bind_eq_some_iff.mp h
      split at h
      · rename_i hc; cases h; exact ⟨dct_ok ih e1 e2 hc, tr_plain (dct_ok ih e1 e2 hc) rfl⟩
      · cases h
    | Call f args kws p' =>
      rcases kws with _ | ⟨kw, kws⟩
      · replace h : compCall nt (compE nt n env.kindOf names) env.kindOf f args p' = some c := h
        unfold compCall at h
        cases hf : nameOf f with
        | some x =>
          obtain ⟨p, rfl⟩ := nameOf_some hf
          simp only [hf] at h
          split at h
          · rename_i hg
            split at h
            · rename_i hx
              subst hx
              unfold compIsi at h
              obtain ⟨q, e0, h1⟩ := Option.bind_eq_some_iff.mp h
              obtain ⟨c1, e1, h1⟩ := Option.bind_eq_some_iff.mp h1
              replace h := h1
              clear h1
              obtain ⟨pt, rfl, hg'⟩ := isiArgs_some e0
              unfold isiEnd at h
              split at h
              · rename_i ty hty
                cases h
                have q := isin_ok (p := p) (p' := p') (p'' := pt) ho (ih _ c1 e1) (fun rest => not_starred e1 rest) hg hg' hty
                exact ⟨q, tr_plain q rfl⟩
              · split at h
                · cases h
                · cases h
                  have q := isown_ok (t := _) (p := p) (p' := p') (p'' := pt) ho (ih _ c1 e1) (fun rest => not_starred e1 rest) hg hg'
                  exact ⟨q, tr_plain q rfl⟩
            · obtain ⟨l1, e1, h⟩ := Option.bind_eq_some_iff.mp h
              split at h
              · cases h
              · rename_i hne
                have hne : l1.isEmpty = false := by simpa using hne
                split at h
                · rename_i f hf
                  cases h
                  have q := call_ok (p := p) (p' := p') ho hnt ih hg hf e1 hne
                  exact ⟨q, tr_plain q rfl⟩
                · obtain ⟨b, hb, rfl⟩ := Option.map_eq_some_iff.mp h
                  have q := prim_ok (p := p) (p' := p') ho ih hg hb e1 hne
                  exact ⟨q, tr_plain q rfl⟩
          · cases h
        | none =>
          simp only [hf] at h
          cases ha : attrOf f with
          | none => simp [ha] at h
          | some q =>
            simp only [ha] at h
            have ef := attrOf_some ha
            subst ef
            obtain ⟨c1, e1, h⟩ := Option.bind_eq_some_iff.mp h
            obtain ⟨l1, e2, h⟩ := Option.bind_eq_some_iff.mp h
            split at h
            · rename_i hc
              simp only [Bool.and_eq_true] at hc
              obtain ⟨b, hm, rfl⟩ := Option.map_eq_some_iff.mp h
              have q := meth_ok ih e1 e2 hc.1 (by simpa using hc.2) hm
              exact ⟨q, tr_plain q rfl⟩
            · cases h
      · cases h
    | ListComp elt gens scope p =>
      obtain ⟨g, e0, h1⟩ := Option.bind_eq_some_iff.mp h
      obtain ⟨c1, e1, h1⟩ := Option.bind_eq_some_iff.mp h1
      obtain ⟨cap, e2, h1⟩ := Option.bind_eq_some_iff.mp h1
      obtain ⟨c2, e3, h1⟩ := Option.bind_eq_some_iff.mp h1
      obtain ⟨l1, e4, h1⟩ := Option.bind_eq_some_iff.mp h1
      clear h
      obtain ⟨rfl, htg, hnd⟩ := genOf_some e0
      replace h := h1
      clear h1
      split at h
      · rename_i hc
        cases h
        simp only [Bool.and_eq_true, decide_eq_true_eq] at hc
        have q := comp_ok (pos := p) ho ih0 e1 e2 e3 e4 hc.1 htg hnd hc.2
        exact ⟨q, tr_plain q rfl⟩
      · cases h
    | _ => cases h
end

open PySem PyProof.Rows PySem.SeqAt

/-- a frame's constants -/
structure FC where
  P : PC
  l : Lv
  A : Around
  env : Env
  names : List Str
  S₀ : Sx
  s₀ : Shared
  hid : List Value
  S : Sx
noncomputable abbrev Loc := List (Option AV)

structure Fr (K : FC) (ρ : List Addr) (loc : Loc) (H : AH) (s : Shared) : Prop where
  aok : Aok K.l K.A
  eok : EnvOk K.env
  nd : K.names.Nodup
  g0 : GOk K.P K.s₀.heap
  pp : K.S.prog = K.P.prog
  pw : K.S.w = K.P.w
  sd : SD K.S s.heap
  sim : HSim K.S ρ H s.heap
  fr : Fresh K.s₀.heap ρ
  sub : ∀ b ∈ K.S₀.ad, b ∈ K.S.ad
  hL : K.env.locals ∈ K.S.ad
  hC : ∀ n c, (n, c) ∈ K.env.cells → c ∈ K.S.ad
  len : loc.length = K.names.length + K.hid.length
  ic : ∃ m cm, InCallC K.s₀ K.env.locals m K.env.cells cm s ∧ ∀ (i : Nat) (x : Str) (v : AV), K.names[i]? = some x → loc[i]?.join = some v → ∃ rv, ((K.env.kindOf x = some .local ∧ m x = some rv) ∨ (K.env.kindOf x = some .cell ∧ cm x = some rv)) ∧ VRel K.S ρ s.heap v rv
  hh : ∀ (i : Nat) (rv : Value) (v : AV), K.hid[i]? = some rv → loc[K.names.length + i]?.join = some v → VRel K.S ρ s.heap v rv

/-- what a block's run may change -/
structure Mvd (env : Env) (ρ : List Addr) (s : Shared) (ρ' : List Addr) (s' : Shared) : Prop where
  same : ∃ h tk, s' = { s with heap := h, toks := tk }
  mv : ∀ b o, b ≠ env.locals → (∀ n c, (n, c) ∈ env.cells → b ≠ c) → b ∉ ρ → s.heap.get? b = some o → s'.heap.get? b = some o
  sub : ∀ a ∈ ρ', a ∈ ρ ∨ s.heap.get? a = none
  alive : ∀ b o, s.heap.get? b = some o → ∃ o', s'.heap.get? b = some o'

theorem Mvd.refl {env : Env} {ρ : List Addr} {s : Shared} : Mvd env ρ s ρ s := ⟨⟨s.heap, s.toks, rfl⟩, fun _ _ _ _ _ e => e, fun _ h => .inl h, fun _ o e => ⟨o, e⟩⟩
theorem Mvd.kp {env : Env} {ρ e : List Addr} {s : Shared} {h' : Heap} {tk : Nat} (k : Kp s.heap h') (f : Fresh s.heap e) : Mvd env ρ s (ρ ++ e) { s with heap := h', toks := tk } :=
  ⟨⟨h', tk, rfl⟩, fun b o _ _ _ e => k b o e, fun a ha => (List.mem_append.mp ha).elim .inl fun q => .inr (f a q), fun b o e => ⟨o, k b o e⟩⟩
theorem Mvd.kp0 {env : Env} {ρ : List Addr} {s : Shared} {h' : Heap} {tk : Nat} (k : Kp s.heap h') : Mvd env ρ s ρ { s with heap := h', toks := tk } :=
  ⟨⟨h', tk, rfl⟩, fun b o _ _ _ e => k b o e, fun _ ha => .inl ha, fun b o e => ⟨o, k b o e⟩⟩

section
variable {K : FC} {ρ e : List Addr} {loc : Loc} {H G : AH} {s : Shared} {h' : Heap} {tk : Nat} {E : Value → Shared → Prop}

theorem Fr.keep (F : Fr K ρ loc H s) : Kp K.s₀.heap s.heap := let ⟨_, _, x, _⟩ := F.ic; x.toInCall.keep
theorem Fr.cx (F : Fr K ρ loc H s) : Cx K.P K.l K.A K.env K.names K.S ρ loc H s where
  aok := F.aok
  gok := F.g0.kp F.keep
  pp := F.pp
  pw := F.pw
  sd := F.sd
  sim := F.sim
  loc := fun i x v e1 e2 => by
    obtain ⟨m, cm, I, q⟩ := F.ic
    obtain ⟨rv, h1, h2⟩ := q i x v e1 e2
    refine ⟨rv, ?_, h2⟩
    rcases h1 with ⟨hk, hm⟩ | ⟨hk, hm⟩
    · exact .inl ⟨hk, m, I.toInCall.ns, hm⟩
    · obtain ⟨c, hc⟩ := F.eok.2.2.2 x hk
      exact .inr ⟨hk, c, hc, hm ▸ I.cell x c hc⟩

theorem InCallC.kp {s₀ : Shared} {L : Addr} {m cm : Str → Option Value} {cs : List (Str × Addr)} (x : InCallC s₀ L m cs cm s) (k : Kp s.heap h') : InCallC s₀ L m cs cm { s with heap := h', toks := tk } :=
  ⟨⟨let ⟨_, _, e⟩ := x.toInCall.same; ⟨h', tk, by rw [e]⟩, x.toInCall.ns.keeps k, fun b o e => k b o (x.toInCall.keep b o e), x.toInCall.fresh⟩, fun n c hc => (x.cell n c hc).keeps k, x.apart, x.above⟩

/-- after an expression -/
theorem Fr.kp (F : Fr K ρ loc H s) (k : Kp s.heap h') (f : Fresh s.heap e) (X : HSim K.S (ρ ++ e) (H ++ G) h') : Fr K (ρ ++ e) loc (H ++ G) { s with heap := h', toks := tk } where
  aok := F.aok
  eok := F.eok
  nd := F.nd
  g0 := F.g0
  pp := F.pp
  pw := F.pw
  sd := F.sd.kp k
  sim := X
  fr := fun a ha => (List.mem_append.mp ha).elim (F.fr a) fun q => by
    cases q0 : K.s₀.heap.get? a with
    | none => rfl
    | some o => have := f a q; rw [F.keep a o q0] at this; cases this
  sub := F.sub
  hL := F.hL
  hC := F.hC
  len := F.len
  ic := let ⟨m, cm, I, q⟩ := F.ic; ⟨m, cm, InCallC.kp I k, fun i x v e1 e2 => let ⟨rv, h1, h2⟩ := q i x v e1 e2; ⟨rv, h1, h2.kp k f⟩⟩
  hh := fun i rv v e1 e2 => (F.hh i rv v e1 e2).kp k f
theorem Fr.kp0 (F : Fr K ρ loc H s) (k : Kp s.heap h') : Fr K ρ loc H { s with heap := h', toks := tk } := by
  have := F.kp (e := []) (G := []) (tk := tk) k (Fresh.nil _) (by simpa using F.sim.kp k)
  simpa using this

theorem Mvd.trans {env : Env} {ρ₁ ρ₂ : List Addr} {s₁ s₂ : Shared} (x : Mvd env ρ s ρ₁ s₁) (y : Mvd env ρ₁ s₁ ρ₂ s₂) : Mvd env ρ s ρ₂ s₂ where
  same := by
    obtain ⟨h, t, rfl⟩ := x.same
    obtain ⟨h2, t2, rfl⟩ := y.same
    exact ⟨h2, t2, rfl⟩
  mv := fun b o h1 h2 h3 e => y.mv b o h1 h2 (fun hm => by
    rcases x.sub b hm with q | q
    · exact h3 q
    · rw [q] at e; cases e) (x.mv b o h1 h2 h3 e)
  sub := fun a ha => (y.sub a ha).elim (fun q => x.sub a q) fun q => by
    cases q0 : s.heap.get? a with
    | none => exact .inr rfl
    | some o => obtain ⟨o', e⟩ := x.alive a o q0; rw [q] at e; cases e
  alive := fun b o e => let ⟨o1, e1⟩ := x.alive b o e; y.alive b o1 e1

/-- a change at a protected address of the frame -/
theorem Fr.own {b : Addr} {loc' : Loc} (F : Fr K ρ loc H s) (hb : b ∈ K.S.ad) (hs : Heap.SameBut b s.heap h') (hl : ∃ o, h'.get? b = some o) (hlen : loc'.length = loc.length) (hhid : ∀ i, loc'[K.names.length + i]? = loc[K.names.length + i]?)
    (ic : ∃ m cm, InCallC K.s₀ K.env.locals m K.env.cells cm { s with heap := h', toks := tk } ∧ ∀ (i : Nat) (x : Str) (v : AV), K.names[i]? = some x → loc'[i]?.join = some v → ∃ rv, ((K.env.kindOf x = some .local ∧ m x = some rv) ∨ (K.env.kindOf x = some .cell ∧ cm x = some rv)) ∧ VRel K.S ρ s.heap v rv) :
    Fr K ρ loc' H { s with heap := h', toks := tk } := by
  have hk : ∀ c o, c ∉ K.S.ad → s.heap.get? c = some o → h'.get? c = some o := fun c o hc e => by
    rw [hs.2 c (fun q => hc (q ▸ hb))]; exact e
  exact { aok := F.aok, eok := F.eok, nd := F.nd, g0 := F.g0, pp := F.pp, pw := F.pw
          sd := fun a ha => by
            by_cases hab : a = b
            · subst hab; exact hl
            · obtain ⟨o, ho⟩ := F.sd a ha; exact ⟨o, (hs.2 a hab).trans ho⟩
          sim := F.sim.chg hk
          fr := F.fr, sub := F.sub, hL := F.hL, hC := F.hC, len := hlen.trans F.len
          ic := let ⟨m, cm, I, q⟩ := ic; ⟨m, cm, I, fun i x v e1 e2 => let ⟨rv, h1, h2⟩ := q i x v e1 e2; ⟨rv, h1, h2.chg hk⟩⟩
          hh := fun i rv v e1 e2 => (F.hh i rv v e1 (by rw [← hhid]; exact e2)).chg hk }

theorem Mvd.own {env : Env} {b : Addr} (hs : Heap.SameBut b s.heap h') (hl : ∃ o, h'.get? b = some o) (hb : b = env.locals ∨ ∃ n, (n, b) ∈ env.cells) : Mvd env ρ s ρ { s with heap := h', toks := tk } where
  same := ⟨h', tk, rfl⟩
  mv := fun c o h1 h2 _ e => by
    show h'.get? c = some o
    rw [hs.2 c ?_]; exact e
    rintro rfl
    rcases hb with q | ⟨n, q⟩
    · exact h1 q
    · exact h2 n c q rfl
  sub := fun _ ha => .inl ha
  alive := fun c o e => by
    by_cases hcb : c = b
    · subst hcb; exact hl
    · exact ⟨o, (hs.2 c hcb).trans e⟩

/-- a name is bound -/
theorem store_ok {x : Str} {i : Nat} {v : AV} {rv : Value} (F : Fr K ρ loc H s) (hx : slotOf K.env.kindOf K.names x = some i) (V : VRel K.S ρ s.heap v rv) :
    wpAny (model K.P.prog K.P.w) K.A (storeName K.env x rv) (fun _ s' => Mvd K.env ρ s ρ s' ∧ Fr K ρ (loc.set i (some v)) H s') E s := by
  obtain ⟨m, cm, I, q⟩ := F.ic
  unfold slotOf at hx
  split at hx
  · rename_i hc
    simp only [Bool.and_eq_true] at hc
    have hi := idxOf_get hx
    have hil : i < K.names.length := (List.getElem?_eq_some_iff.mp hi).1
    have hil2 : i < loc.length := by rw [F.len]; omega
    have hhid : ∀ j, (loc.set i (some v))[K.names.length + j]? = loc[K.names.length + j]? := fun j => by
      rw [List.getElem?_set_ne (by omega)]
    have hget : ∀ (j : Nat) (y : Str) (u : AV), K.names[j]? = some y → (loc.set i (some v))[j]?.join = some u → (j = i ∧ y = x ∧ u = v) ∨ (y ≠ x ∧ loc[j]?.join = some u) := fun j y u e1 e2 => by
      by_cases hj : i = j
      · subst hj
        rw [hi] at e1; cases e1
        rw [List.getElem?_set_self hil2] at e2
        simp at e2
        exact .inl ⟨rfl, rfl, e2.symm⟩
      · rw [List.getElem?_set_ne hj] at e2
        refine .inr ⟨fun hyx => hj ?_, e2⟩
        subst hyx
        exact ((List.getElem?_inj hil F.nd).mp (hi.trans e1.symm))
    have hkind : K.env.kindOf x = some .local ∨ K.env.kindOf x = some .cell := by
      have := hc.1
      cases hk : K.env.kindOf x with
      | none => rw [hk] at this; cases this
      | some k => rw [hk] at this; cases k <;> simp_all [isLoc]
    rcases hkind with hk | hk
    · refine wpAny_storeName_local hk I.toInCall.ns (fun h' hn' hs' => ?_) (by rw [F.eok.1]; rfl)
      have hl : ∃ o, h'.get? K.env.locals = some o := let ⟨o, _, _, ho, _⟩ := hn'; ⟨o, ho⟩
      refine ⟨Mvd.own hs' hl (.inl rfl), F.own F.hL hs' hl (by simp) hhid ⟨_, cm, ⟨⟨let ⟨_, _, e⟩ := I.toInCall.same; ⟨h', _, by rw [e]⟩, hn', fun b o e => ?_, I.toInCall.fresh⟩, fun k c hc => ?_, I.apart, I.above⟩, fun j y u e1 e2 => ?_⟩⟩
      · exact hs'.extBut b o (Nat.ne_of_lt (Nat.lt_of_lt_of_le (Heap.lt_size e) I.toInCall.fresh)) (I.toInCall.keep b o e)
      · exact (I.cell k c hc).sameBut hs' (Nat.ne_of_gt (I.above k c (mem_of_lookup hc)))
      · rcases hget j y u e1 e2 with ⟨rfl, rfl, rfl⟩ | ⟨hy, e3⟩
        · exact ⟨rv, .inl ⟨hk, by simp⟩, V⟩
        · obtain ⟨ru, h1, h2⟩ := q j y u e1 e3
          refine ⟨ru, ?_, h2⟩
          simpa [hy] using h1
    · obtain ⟨c, hcc⟩ := F.eok.2.2.2 x hk
      have hLc := I.above x c (mem_of_lookup hcc)
      refine wpAny_storeName_cell F.eok.1 hk hcc (I.cell x c hcc) fun h' hc' hs' => ?_
      have hl : ∃ o, h'.get? c = some o := let ⟨o, ho, _⟩ := hc'; ⟨o, ho⟩
      refine ⟨Mvd.own (tk := s.toks) hs' hl (.inr ⟨x, mem_of_lookup hcc⟩), F.own (tk := s.toks) (F.hC x c (mem_of_lookup hcc)) hs' hl (by simp) hhid ⟨m, (fun y => if y = x then some rv else cm y), ⟨⟨let ⟨_, _, e⟩ := I.toInCall.same; ⟨h', s.toks, by rw [e]⟩, I.toInCall.ns.sameBut hs' (Nat.ne_of_lt hLc), fun b o e => ?_, I.toInCall.fresh⟩, fun k c' hk' => ?_, I.apart, I.above⟩, fun j y u e1 e2 => ?_⟩⟩
      · exact hs'.extBut b o (Nat.ne_of_lt (Nat.lt_trans (Nat.lt_of_lt_of_le (Heap.lt_size e) I.toInCall.fresh) hLc)) (I.toInCall.keep b o e)
      · by_cases hkn : k = x
        · subst hkn
          rw [hcc] at hk'; cases hk'
          simpa using hc'
        · rw [if_neg hkn]
          exact (I.cell k c' hk').sameBut hs' fun e => hkn (name_of_addr I.apart (mem_of_lookup hk') (e ▸ mem_of_lookup hcc))
      · rcases hget j y u e1 e2 with ⟨rfl, rfl, rfl⟩ | ⟨hy, e3⟩
        · exact ⟨rv, .inr ⟨hk, by simp⟩, V⟩
        · obtain ⟨ru, h1, h2⟩ := q j y u e1 e3
          refine ⟨ru, ?_, h2⟩
          simpa [hy] using h1
  · cases hx

/-- a list is changed -/
theorem HSim.set {S : Sx} {h h' : Heap} {i : Nat} {a : Addr} {items : Array Value} {vs : List AV} (X : HSim S ρ H h) (ha : ρ[i]? = some a) (hs : Heap.SameBut a h h') (p : h'.PlainList a items) (V : VRels S ρ h vs items.toList) : HSim S ρ (H.set i vs) h' where
  len := by simpa using X.len
  nodup := X.nodup
  off := X.off
  obj := fun j ws e => by
    have hm : ∀ b o, b ∉ ρ → h.get? b = some o → h'.get? b = some o := fun b o hb e => by
      rw [hs.2 b (fun q => hb (q ▸ List.mem_of_getElem? ha))]; exact e
    have hi : i < H.length := by rw [← X.len]; exact (List.getElem?_eq_some_iff.mp ha).1
    by_cases hj : i = j
    · subst hj
      rw [List.getElem?_set_self hi] at e
      cases e
      exact ⟨a, items, ha, p, by simpa using V.mono hm (Fresh.nil h)⟩
    · rw [List.getElem?_set_ne hj] at e
      obtain ⟨a', its, e1, p1, v1⟩ := X.obj j ws e
      have hne : a' ≠ a := fun q => by
        subst q
        have hil : i < ρ.length := by rw [X.len]; exact hi
        exact hj ((List.getElem?_inj hil X.nodup).mp (ha.trans e1.symm))
      exact ⟨a', its, e1, PlainList.at' p1 fun o q => (hs.2 a' hne).trans q, by simpa using v1.mono hm (Fresh.nil h)⟩

theorem Fr.set {i : Nat} {a : Addr} {items : Array Value} {vs : List AV} (F : Fr K ρ loc H s) (ha : ρ[i]? = some a) (hs : Heap.SameBut a s.heap h') (p : h'.PlainList a items) (V : VRels K.S ρ s.heap vs items.toList) : Fr K ρ loc (H.set i vs) { s with heap := h', toks := tk } := by
  have hmem := List.mem_of_getElem? ha
  have hoff := F.sim.off a hmem
  have hm : ∀ b o, b ∉ ρ → s.heap.get? b = some o → h'.get? b = some o := fun b o hb e => by
    rw [hs.2 b (fun q => hb (q ▸ hmem))]; exact e
  have ch : ∀ {v : AV} {x : Value}, VRel K.S ρ s.heap v x → VRel K.S ρ h' v x := fun V => by simpa using V.mono hm (Fresh.nil s.heap)
  exact { aok := F.aok, eok := F.eok, nd := F.nd, g0 := F.g0, pp := F.pp, pw := F.pw
          sd := fun b hb => by
            obtain ⟨o, ho⟩ := F.sd b hb
            exact ⟨o, (hs.2 b fun q => hoff (q ▸ hb)).trans ho⟩
          sim := F.sim.set ha hs p V
          fr := F.fr, sub := F.sub, hL := F.hL, hC := F.hC, len := F.len
          ic := by
            obtain ⟨m, cm, I, q⟩ := F.ic
            refine ⟨m, cm, ⟨⟨let ⟨_, _, e⟩ := I.toInCall.same; ⟨h', tk, by rw [e]⟩, I.toInCall.ns.sameBut hs (fun q => hoff (q ▸ F.hL)), fun b o e => ?_, I.toInCall.fresh⟩, fun n c hc => (I.cell n c hc).sameBut hs (fun q => hoff (q ▸ F.hC n c (mem_of_lookup hc))), I.apart, I.above⟩, fun i x v e1 e2 => let ⟨rv, h1, h2⟩ := q i x v e1 e2; ⟨rv, h1, ch h2⟩⟩
            exact (hs.2 b fun q => by rw [q, F.fr a hmem] at e; cases e).trans (I.toInCall.keep b o e)
          hh := fun i rv v e1 e2 => ch (F.hh i rv v e1 e2) }
theorem Mvd.set {env : Env} {i : Nat} {a : Addr} {items : Array Value} (ha : ρ[i]? = some a) (hs : Heap.SameBut a s.heap h') (p : h'.PlainList a items) : Mvd env ρ s ρ { s with heap := h', toks := tk } where
  same := ⟨h', tk, rfl⟩
  mv := fun b o _ _ h3 e => (hs.2 b fun q => h3 (q ▸ List.mem_of_getElem? ha)).trans e
  sub := fun _ h => .inl h
  alive := fun b o e => by
    by_cases hb : b = a
    · subst hb; obtain ⟨n, e⟩ := p; exact ⟨_, e⟩
    · exact ⟨o, (hs.2 b hb).trans e⟩
end

open PySem PyProof.Rows PySem.SeqAt

inductive RenLs (φ : List Nat) (H : AH) : Loc → Loc → Prop
  | nil : RenLs φ H [] []
  | keep {v v' : AV} {r r' : Loc} : Ren φ H v v' → RenLs φ H r r' → RenLs φ H (some v :: r) (some v' :: r')
  | drop {o : Option AV} {r r' : Loc} : RenLs φ H r r' → RenLs φ H (o :: r) (none :: r')
/-- the lists that may change get new numbers, or are frozen; names may be forgotten -/
noncomputable def RenL (loc : Loc) (H : AH) (loc' : Loc) (H' : AH) : Prop := (loc = loc' ∧ H = H') ∨ ∃ φ, RenH φ H H' ∧ RenLs φ H loc loc'
noncomputable def Cut (R : Loc → AH → Prop) (loc : Loc) (H : AH) : Prop := ∃ loc' H', RenL loc H loc' H' ∧ R loc' H'
theorem Cut.here {R : Loc → AH → Prop} {loc : Loc} {H : AH} (h : R loc H) : Cut R loc H := ⟨loc, H, .inl ⟨rfl, rfl⟩, h⟩

noncomputable def insAt (xs : List AV) (k : Int) (v : AV) : List AV := let j := if k < 0 then (k + (xs.length : Int)).toNat else min k.toNat xs.length; xs.take j ++ v :: xs.drop j
noncomputable def mut0 (vs : List AV) (k : Option (List AV)) : Option (List AV) := match vs with
  | [] => k
  | _ => Option.none
noncomputable def mut1 (vs : List AV) (k : AV → Option (List AV)) : Option (List AV) := match vs with
  | [v] => k v
  | _ => Option.none
noncomputable def mut2 (vs : List AV) (k : Int → AV → Option (List AV)) : Option (List AV) := match vs with
  | [u, v] => (match u with
    | .int i => k i v
    | _ => Option.none)
  | _ => Option.none
/-- a list is changed -/
noncomputable def opMut (H : AH) (m : Mu) (xs vs : List AV) : Option (List AV) := match m with
  | .append => mut1 vs fun v => if xs.length < smallN then some (xs ++ [v]) else Option.none
  | .insert => mut2 vs fun k v => if xs.length < smallN ∧ -1000000 < k ∧ k < 1000000 then some (insAt xs k v) else Option.none
  | .clear => mut0 vs (if xs.length ≤ smallN then some [] else Option.none)
  | .reverse => mut0 vs (if xs.length ≤ smallN then some xs.reverse else Option.none)
  | .extend => mut1 vs fun v => match v.items? H with
    | some ys => if xs.length + ys.length ≤ smallN then some (xs ++ ys) else Option.none
    | Option.none => Option.none
  | .pop => mut0 vs (if xs.length ≤ smallN ∧ 0 < xs.length then some (xs.eraseIdx (xs.length - 1)) else Option.none)
/-- the sort of iterator -/
noncomputable def AV.ik : AV → AV
  | .rng i j k => .rng i j k
  | .tup _ => .tup []
  | .fl _ => .fl []
  | .ref _ => .fl []
  | _ => .none
noncomputable def setAll (loc : Loc) : List Nat → List AV → Loc
  | x :: xs, v :: vs => setAll (loc.set x (some v)) xs vs
  | _, _ => loc
theorem setAll_nil (loc : Loc) (vs : List AV) : setAll loc [] vs = loc := rfl
theorem setAll_cons (loc : Loc) (x : Nat) (xs : List Nat) (v : AV) (vs : List AV) : setAll loc (x :: xs) (v :: vs) = setAll (loc.set x (some v)) xs vs := rfl
noncomputable def setAllO (loc : Loc) : List Nat → List AV → Option Loc
  | [], [] => some loc
  | x :: xs, v :: vs => setAllO (loc.set x (some v)) xs vs
  | _, _ => Option.none
theorem setAllO_nil (loc : Loc) : setAllO loc [] [] = some loc := rfl
theorem setAllO_cons (loc : Loc) (x : Nat) (xs : List Nat) (v : AV) (vs : List AV) : setAllO loc (x :: xs) (v :: vs) = setAllO (loc.set x (some v)) xs vs := rfl
theorem setAllO_of : ∀ (xs : List Nat) (vs : List AV) {loc loc' : Loc}, setAllO loc xs vs = some loc' → vs.length = xs.length ∧ loc' = setAll loc xs vs
  | [], [], _, _, e => ⟨rfl, (Option.some.inj e).symm⟩
  | x :: xs, v :: vs, loc, _, e => let ⟨a, b⟩ := setAllO_of xs vs (loc := loc.set x (some v)) e; ⟨congrArg (· + 1) a, b⟩
/-- the turns of enumerate and zip -/
noncomputable def turnsOf (H : AH) (k : It) (vs : List AV) : Option (List (List AV)) := match k with
  | .enumerate => (match vs with
    | [v] => (v.items? H).map fun xs => xs.zipIdx.map fun p => [AV.int (p.2 : Int), p.1]
    | _ => Option.none)
  | .zip => Option.none
  | .rows => Option.none

mutual
noncomputable def wpS (P : PC) (l : Lv) : CS → Loc → AH → (Loc → AH → Prop) → (AV → AH → Prop) → (Str → Loc → AH → Prop) → Prop
  | .assign x e, loc, H, Qn, _, Qx => wpE P l (fun c => Qx c loc H) e loc H fun v H₁ => Qn (loc.set x (some v)) H₁
  | .assignT xs e, loc, H, Qn, _, Qx => l.q = true ∧ wpE P l (fun c => Qx c loc H) e loc H fun v H₁ => opt (v.seq? H₁) fun vs => opt (setAllO loc xs vs) fun loc' => Qn loc' H₁
  | .setIdx o i e, loc, H, Qn, _, Qx => wpE P l (fun c => Qx c loc H) e loc H fun v H₁ => wpE P l (fun c => Qx c loc H) o loc H₁ fun u H₂ => wpE P l (fun c => Qx c loc H) i loc H₂ fun j H₃ =>
      ∃ r k vs, u = .ref r ∧ j = .int k ∧ H₃[r]? = some vs ∧ 0 ≤ k ∧ k < vs.length ∧ vs.length ≤ smallN ∧ Qn loc (H₃.set r (vs.set k.toNat v))
  | .mut m o es, loc, H, Qn, _, Qx => wpE P l (fun c => Qx c loc H) o loc H fun u H₁ => onL u <| wpEs P l (fun c => Qx c loc H) es loc H₁ fun vs H₂ =>
      ∃ r xs ys, u = .ref r ∧ H₂[r]? = some xs ∧ opMut H₂ m xs vs = some ys ∧ (∀ v, vs = [v] → m = .extend → v ≠ u) ∧ Qn loc (H₂.set r ys)
  | .popTo x o es, loc, H, Qn, _, Qx => wpE P l (fun c => Qx c loc H) o loc H fun u H₁ => onL u <| wpEs P l (fun c => Qx c loc H) es loc H₁ fun vs H₂ =>
      ∃ r k xs y, u = .ref r ∧ H₂[r]? = some xs ∧ vs = [.int k] ∧ 0 ≤ k ∧ k < xs.length ∧ xs.length ≤ smallN ∧ xs[k.toNat]? = some y ∧ Qn (loc.set x (some y)) (H₂.set r (xs.eraseIdx k.toNat))
  | .expr e, loc, H, Qn, _, Qx => wpE P l (fun c => Qx c loc H) e loc H fun _ H₁ => Qn loc H₁
  | .ite c a b, loc, H, Qn, Qr, Qx => ∃ R : Loc → AH → Prop, (∀ loc' H', R loc' H' → Qn loc' H') ∧ wpE P l (fun c => Qx c loc H) c loc H fun v H₁ => onBool v fun t =>
      if t = true then wpSs P l a loc H₁ (Cut R) Qr Qx else wpSs P l b loc H₁ (Cut R) Qr Qx
  | .for1 x it body, loc, H, Qn, Qr, Qx => l.q = true ∧ wpE P l (fun c => Qx c loc H) it loc H fun v H₁ => ∃ (n : Nat) (κ : AV) (Inv : Nat → AV → Loc → AH → Prop),
      (∃ v' loc' H', RenL (loc ++ [some v]) H₁ (loc' ++ [some v']) H' ∧ loc'.length = loc.length ∧ Inv 0 v' loc' H') ∧
      (∀ k v loc H, k ≤ n → Inv k v loc H → v.ik = κ ∧ ∃ its, iterOf H v = some its ∧ its.length = n) ∧ n ≤ smallN ∧
      (∀ k v loc' H its u, k < n → loc'.length = loc.length → Inv k v loc' H → iterOf H v = some its → its[k]? = some u → wpSs P l body (loc'.set x (some u) ++ [some v]) H
        (fun loc₂ H₂ => ∃ v₃ loc₃ H₃, RenL loc₂ H₂ (loc₃ ++ [some v₃]) H₃ ∧ loc₃.length = loc.length ∧ Inv (k + 1) v₃ loc₃ H₃) Qr (fun c loc₂ H₂ => Qx c loc₂.dropLast H₂)) ∧
      (∀ v loc H, Inv n v loc H → Qn loc H)
  | .forT xs kd es body, loc, H, Qn, Qr, Qx => l.q = true ∧ wpEs P l (fun c => Qx c loc H) es loc H fun vs H₁ => ∃ (n : Nat) (Inv : Nat → List AV → Loc → AH → Prop),
      (∃ vs' loc' H', RenL (loc ++ vs.map some) H₁ (loc' ++ vs'.map some) H' ∧ loc'.length = loc.length ∧ vs'.length = vs.length ∧ Inv 0 vs' loc' H') ∧
      (∀ k vs loc H, k ≤ n → Inv k vs loc H → ∃ its, turnsOf H kd vs = some its ∧ its.length = n) ∧ n ≤ smallN ∧
      (∀ k vs loc' H its us, k < n → loc'.length = loc.length → Inv k vs loc' H → turnsOf H kd vs = some its → its[k]? = some us → us.length = xs.length ∧ wpSs P l body (setAll loc' xs us ++ vs.map some) H
        (fun loc₂ H₂ => ∃ vs₃ loc₃ H₃, RenL loc₂ H₂ (loc₃ ++ vs₃.map some) H₃ ∧ loc₃.length = loc.length ∧ vs₃.length = es.length ∧ Inv (k + 1) vs₃ loc₃ H₃) Qr (fun c loc₂ H₂ => Qx c (loc₂.take loc.length) H₂)) ∧
      (∀ vs loc H, Inv n vs loc H → Qn loc H)
  | .while c body, loc, H, Qn, Qr, Qx => ∃ (Inv : Loc → AH → Prop) (μ : Loc → AH → Nat), Cut Inv loc H ∧
      ∀ loc H, Inv loc H → wpE P l (fun c => Qx c loc H) c loc H fun v H₁ => onBool v fun t =>
        if t = true then wpSs P l body loc H₁ (Cut fun loc₂ H₂ => Inv loc₂ H₂ ∧ μ loc₂ H₂ < μ loc H) Qr Qx else Cut Qn loc H₁
  | .ret e, loc, H, _, Qr, Qx => wpE P l (fun c => Qx c loc H) e loc H Qr
  | .pass, loc, H, Qn, _, _ => Qn loc H
  | .raise _, _, _, _, _, _ => False
  | .try _ _ _ _, _, _, _, _, _ => False
noncomputable def wpSs (P : PC) (l : Lv) : List CS → Loc → AH → (Loc → AH → Prop) → (AV → AH → Prop) → (Str → Loc → AH → Prop) → Prop
  | [], loc, H, Qn, _, _ => Qn loc H
  | c :: r, loc, H, Qn, Qr, Qx => wpS P l c loc H (fun loc' H' => wpSs P l r loc' H' Qn Qr Qx) Qr Qx
end

section
variable {P : PC} {l : Lv} {loc : Loc} {H : AH} {Qn : Loc → AH → Prop} {Qr : AV → AH → Prop} {Qx : Str → Loc → AH → Prop}
theorem q_assign (x : Nat) (e : CE) : wpS P l (.assign x e) loc H Qn Qr Qx = (wpE P l (fun c => Qx c loc H) e loc H fun v H₁ => Qn (loc.set x (some v)) H₁) := rfl
theorem q_assignT (xs : List Nat) (e : CE) : wpS P l (.assignT xs e) loc H Qn Qr Qx = (l.q = true ∧ wpE P l (fun c => Qx c loc H) e loc H fun v H₁ => opt (v.seq? H₁) fun vs => opt (setAllO loc xs vs) fun loc' => Qn loc' H₁) := rfl
theorem q_setIdx (o i e : CE) : wpS P l (.setIdx o i e) loc H Qn Qr Qx = (wpE P l (fun c => Qx c loc H) e loc H fun v H₁ => wpE P l (fun c => Qx c loc H) o loc H₁ fun u H₂ => wpE P l (fun c => Qx c loc H) i loc H₂ fun j H₃ =>
   ∃ r k vs, u = .ref r ∧ j = .int k ∧ H₃[r]? = some vs ∧ 0 ≤ k ∧ k < vs.length ∧ vs.length ≤ smallN ∧ Qn loc (H₃.set r (vs.set k.toNat v))) := rfl
theorem q_mut (m : Mu) (o : CE) (es : List CE) : wpS P l (.mut m o es) loc H Qn Qr Qx = (wpE P l (fun c => Qx c loc H) o loc H fun u H₁ => onL u <| wpEs P l (fun c => Qx c loc H) es loc H₁ fun vs H₂ =>
   ∃ r xs ys, u = .ref r ∧ H₂[r]? = some xs ∧ opMut H₂ m xs vs = some ys ∧ (∀ v, vs = [v] → m = .extend → v ≠ u) ∧ Qn loc (H₂.set r ys)) := rfl
theorem q_popTo (x : Nat) (o : CE) (es : List CE) : wpS P l (.popTo x o es) loc H Qn Qr Qx = (wpE P l (fun c => Qx c loc H) o loc H fun u H₁ => onL u <| wpEs P l (fun c => Qx c loc H) es loc H₁ fun vs H₂ =>
   ∃ r k xs y, u = .ref r ∧ H₂[r]? = some xs ∧ vs = [.int k] ∧ 0 ≤ k ∧ k < xs.length ∧ xs.length ≤ smallN ∧ xs[k.toNat]? = some y ∧ Qn (loc.set x (some y)) (H₂.set r (xs.eraseIdx k.toNat))) := rfl
theorem q_expr (e : CE) : wpS P l (.expr e) loc H Qn Qr Qx = (wpE P l (fun c => Qx c loc H) e loc H fun _ H₁ => Qn loc H₁) := rfl
theorem q_ite (c : CE) (a b : List CS) : wpS P l (.ite c a b) loc H Qn Qr Qx = (∃ R : Loc → AH → Prop, (∀ loc' H', R loc' H' → Qn loc' H') ∧ wpE P l (fun c => Qx c loc H) c loc H fun v H₁ => onBool v fun t =>
   if t = true then wpSs P l a loc H₁ (Cut R) Qr Qx else wpSs P l b loc H₁ (Cut R) Qr Qx) := rfl
theorem q_for1 (x : Nat) (it : CE) (body : List CS) : wpS P l (.for1 x it body) loc H Qn Qr Qx = (l.q = true ∧ wpE P l (fun c => Qx c loc H) it loc H fun v H₁ => ∃ (n : Nat) (κ : AV) (Inv : Nat → AV → Loc → AH → Prop),
   (∃ v' loc' H', RenL (loc ++ [some v]) H₁ (loc' ++ [some v']) H' ∧ loc'.length = loc.length ∧ Inv 0 v' loc' H') ∧
   (∀ k v loc H, k ≤ n → Inv k v loc H → v.ik = κ ∧ ∃ its, iterOf H v = some its ∧ its.length = n) ∧ n ≤ smallN ∧
   (∀ k v loc' H its u, k < n → loc'.length = loc.length → Inv k v loc' H → iterOf H v = some its → its[k]? = some u → wpSs P l body (loc'.set x (some u) ++ [some v]) H
    (fun loc₂ H₂ => ∃ v₃ loc₃ H₃, RenL loc₂ H₂ (loc₃ ++ [some v₃]) H₃ ∧ loc₃.length = loc.length ∧ Inv (k + 1) v₃ loc₃ H₃) Qr (fun c loc₂ H₂ => Qx c loc₂.dropLast H₂)) ∧
   (∀ v loc H, Inv n v loc H → Qn loc H)) := rfl
theorem q_forT (xs : List Nat) (kd : It) (es : List CE) (body : List CS) : wpS P l (.forT xs kd es body) loc H Qn Qr Qx = (l.q = true ∧ wpEs P l (fun c => Qx c loc H) es loc H fun vs H₁ => ∃ (n : Nat) (Inv : Nat → List AV → Loc → AH → Prop),
   (∃ vs' loc' H', RenL (loc ++ vs.map some) H₁ (loc' ++ vs'.map some) H' ∧ loc'.length = loc.length ∧ vs'.length = vs.length ∧ Inv 0 vs' loc' H') ∧
   (∀ k vs loc H, k ≤ n → Inv k vs loc H → ∃ its, turnsOf H kd vs = some its ∧ its.length = n) ∧ n ≤ smallN ∧
   (∀ k vs loc' H its us, k < n → loc'.length = loc.length → Inv k vs loc' H → turnsOf H kd vs = some its → its[k]? = some us → us.length = xs.length ∧ wpSs P l body (setAll loc' xs us ++ vs.map some) H
    (fun loc₂ H₂ => ∃ vs₃ loc₃ H₃, RenL loc₂ H₂ (loc₃ ++ vs₃.map some) H₃ ∧ loc₃.length = loc.length ∧ vs₃.length = es.length ∧ Inv (k + 1) vs₃ loc₃ H₃) Qr (fun c loc₂ H₂ => Qx c (loc₂.take loc.length) H₂)) ∧
   (∀ vs loc H, Inv n vs loc H → Qn loc H)) := rfl
theorem q_while (c : CE) (body : List CS) : wpS P l (.while c body) loc H Qn Qr Qx = (∃ (Inv : Loc → AH → Prop) (μ : Loc → AH → Nat), Cut Inv loc H ∧
   ∀ loc H, Inv loc H → wpE P l (fun c => Qx c loc H) c loc H fun v H₁ => onBool v fun t =>
    if t = true then wpSs P l body loc H₁ (Cut fun loc₂ H₂ => Inv loc₂ H₂ ∧ μ loc₂ H₂ < μ loc H) Qr Qx else Cut Qn loc H₁) := rfl
theorem q_ret (e : CE) : wpS P l (.ret e) loc H Qn Qr Qx = (wpE P l (fun c => Qx c loc H) e loc H Qr) := rfl
theorem q_pass : wpS P l (.pass) loc H Qn Qr Qx = (Qn loc H) := rfl
theorem q_nil : wpSs P l [] loc H Qn Qr Qx = Qn loc H := rfl
theorem q_cons (c : CS) (r : List CS) : wpSs P l (c :: r) loc H Qn Qr Qx = wpS P l c loc H (fun loc' H' => wpSs P l r loc' H' Qn Qr Qx) Qr Qx := rfl
end

noncomputable def isComp : PySem.Expr → Bool
  | .ListComp .. => true
  | .SetComp .. => true
  | .DictComp .. => true
  | _ => false
noncomputable def isTup : PySem.Expr → Bool
  | .Tuple .. => true
  | _ => false
noncomputable def methOf (e : PySem.Expr) : Option (PySem.Expr × Str × List PySem.Expr × Pos × Pos) := (callOf e).bind fun c => if c.2.2.1 = true then (attrOf c.1).map fun q => (q.1, q.2.1, c.2.1, q.2.2, c.2.2.2) else Option.none
theorem methOf_some {e : PySem.Expr} {q : PySem.Expr × Str × List PySem.Expr × Pos × Pos} (h : methOf e = some q) : e = .Call (.Attribute q.1 q.2.1 q.2.2.2.1) q.2.2.1 [] q.2.2.2.2 := by
  obtain ⟨c, e1, h⟩ := Option.bind_eq_some_iff.mp h
  split at h
  · rename_i hb
    obtain ⟨z, e2, rfl⟩ := Option.map_eq_some_iff.mp h
    rw [callOf_some e1 hb, attrOf_some e2]
  · cases h
noncomputable def mutOf (e : PySem.Expr) : Option (PySem.Expr × Mu × List PySem.Expr × Pos × Pos) := (methOf e).bind fun q => (muNames.lookup q.2.1).map fun mu => (q.1, mu, q.2.2.1, q.2.2.2.1, q.2.2.2.2)

noncomputable def two (es : List PySem.Expr) : Option (Str × Str) := match es with
  | [a, b] => do
    let x ← nameOf a
    let y ← nameOf b
    some (x, y)
  | _ => Option.none
noncomputable def tgt2 (t : PySem.Expr) : Option (Str × Str) := (tupOf t).bind fun q => two q.1
noncomputable def plainCall (e : PySem.Expr) : Option (Str × List PySem.Expr) := (callOf e).bind fun c => if c.2.2.1 = true then (nameOf c.1).map fun x => (x, c.2.1) else Option.none
noncomputable def compForT (r : PySem.Expr → Option CE) (q : PySem.Stmt → Option CS) (kd : Str → Option NameKind) (names : List Str) (t it : PySem.Expr) (body : List PySem.Stmt) : Option CS := do
  let xy ← tgt2 t
  let fa ← plainCall it
  let i ← slotOf kd names xy.1
  let j ← slotOf kd names xy.2
  let l ← allSome (fa.2.map r)
  let b ← allSome (body.map q)
  if isGlob kd fa.1 && xy.1 != xy.2 then
    if fa.1 = ("enumerate" : Str) ∧ l.length = 1 then some (.forT [i, j] .enumerate l b)
    else Option.none
  else Option.none
noncomputable def compFor (r : PySem.Expr → Option CE) (q : PySem.Stmt → Option CS) (kd : Str → Option NameKind) (names : List Str) (t it : PySem.Expr) (body : List PySem.Stmt) : Option CS := match nameOf t with
  | some x => do
    let i ← slotOf kd names x
    let c ← r it
    let b ← allSome (body.map q)
    some (.for1 i c b)
  | Option.none => compForT r q kd names t it body
noncomputable def compAsg (r : PySem.Expr → Option CE) (kd : Str → Option NameKind) (names : List Str) (x : Str) (v : PySem.Expr) : Option CS := do
  let i ← slotOf kd names x
  (r v).map (.assign i)
noncomputable def compAsgT (r : PySem.Expr → Option CE) (kd : Str → Option NameKind) (names : List Str) (es : List PySem.Expr) (v : PySem.Expr) : Option CS := do
  let xs ← allSome (es.map fun e => (nameOf e).bind (slotOf kd names))
  let c ← r v
  if isTup v || isComp v then Option.none else some (.assignT xs c)
noncomputable def compSet (r : PySem.Expr → Option CE) (o i v : PySem.Expr) : Option CS := do
  let a ← r v
  let b ← r o
  let c ← r i
  some (.setIdx b c a)
noncomputable def compAs1 (r : PySem.Expr → Option CE) (kd : Str → Option NameKind) (names : List Str) (t v : PySem.Expr) : Option CS := match t with
  | .Name x _ => compAsg r kd names x v
  | .Tuple es _ _ => compAsgT r kd names es v
  | .Subscript o i _ => compSet r o i v
  | _ => Option.none
noncomputable def compAs (r : PySem.Expr → Option CE) (kd : Str → Option NameKind) (names : List Str) (ts : List PySem.Expr) (v : PySem.Expr) : Option CS := match ts with
  | [t] => compAs1 r kd names t v
  | _ => Option.none
noncomputable def compEx (r : PySem.Expr → Option CE) (e : PySem.Expr) : Option CS := match mutOf e with
  | some (o, mu, args, ap, p) => do
    let a ← r o
    let l ← allSome (args.map r)
    if ap.endLine == p.line && l.length ≤ 2 then some (.mut mu a l) else Option.none
  | Option.none => if isComp e then Option.none else (r e).map .expr
noncomputable def compS1 (r : PySem.Expr → Option CE) (q : PySem.Stmt → Option CS) (kd : Str → Option NameKind) (names : List Str) (st : PySem.Stmt) : Option CS := match st with
  | .Pass _ => some .pass
  | .Return e _ => e.bind fun e => (r e).map .ret
  | .If t a b _ => do
    let c ← r t
    let x ← allSome (a.map q)
    let y ← allSome (b.map q)
    some (.ite c x y)
  | .For t it body els _ => if els.isEmpty then compFor r q kd names t it body else Option.none
  | .Assign ts v _ => compAs r kd names ts v
  | .Expr e _ => compEx r e
  | .Raise _ _ _ => some (.raise "")
  | _ => Option.none
noncomputable def compS (nt : NT) : Nat → (Str → Option NameKind) → List Str → PySem.Stmt → Option CS
  | 0, _, _, _ => Option.none
  | n + 1, kd, names, st => compS1 (compE nt n kd names) (compS nt n kd names) kd names st

theorem tgt2_some {t : PySem.Expr} {xy : Str × Str} (h : tgt2 t = some xy) : ∃ px py kk pt, t = .Tuple [.Name xy.1 px, .Name xy.2 py] kk pt := by
  obtain ⟨⟨es, kk, pt⟩, e0, h⟩ := Option.bind_eq_some_iff.mp h
  rw [tupOf_some e0]
  replace h : two es = some xy := h
  clear e0
  rcases es with _ | ⟨a, _ | ⟨b, _ | ⟨d, r⟩⟩⟩
  · cases h
  · cases h
  · obtain ⟨x, e1, h1⟩ := Option.bind_eq_some_iff.mp h
    obtain ⟨y, e2, h1⟩ := Option.bind_eq_some_iff.mp h1
    clear h
    cases h1
    obtain ⟨px, rfl⟩ := nameOf_some e1
    obtain ⟨py, rfl⟩ := nameOf_some e2
    exact ⟨px, py, kk, pt, rfl⟩
  · cases h
theorem plainCall_some {e : PySem.Expr} {fa : Str × List PySem.Expr} (h : plainCall e = some fa) : ∃ pf pc, e = .Call (.Name fa.1 pf) fa.2 [] pc := by
  obtain ⟨c, e1, h⟩ := Option.bind_eq_some_iff.mp h
  split at h
  · rename_i hb
    obtain ⟨z, e2, rfl⟩ := Option.map_eq_some_iff.mp h
    obtain ⟨pf, e3⟩ := nameOf_some e2
    exact ⟨pf, c.2.2.2, by rw [callOf_some e1 hb, e3]⟩
  · cases h
/-- how a block may end -/
noncomputable def SP (K : FC) (ρ : List Addr) (s : Shared) (Qn : Loc → AH → Prop) (Qr : AV → AH → Prop) (f : Flow) (s' : Shared) : Prop :=
  match f with
  | .next => ∃ ρ' loc' H', Mvd K.env ρ s ρ' s' ∧ Fr K ρ' loc' H' s' ∧ Qn loc' H'
  | .ret rv => ∃ ρ' loc' H' v, Mvd K.env ρ s ρ' s' ∧ Fr K ρ' loc' H' s' ∧ VRel K.S ρ' s'.heap v rv ∧ Qr v H'
  | _ => False
noncomputable def XOk (K : FC) (ρ : List Addr) (s : Shared) (Qx : Str → Loc → AH → Prop) (E : Value → Shared → Prop) : Prop :=
  ∀ ρ' loc' H' s1 e s', Mvd K.env ρ s ρ' s1 → Fr K ρ' loc' H' s1 → ExcC K.P K.A s1 (fun c => Qx c loc' H') e s' → E e s'
noncomputable def StOk (P : PC) (l : Lv) (env : Env) (names : List Str) (m : Sem Flow) (wp : Loc → AH → (Loc → AH → Prop) → (AV → AH → Prop) → (Str → Loc → AH → Prop) → Prop) : Prop :=
  ∀ (A : Around) (S₀ : Sx) (s₀ : Shared) (hid : List Value) (S : Sx) (ρ : List Addr) (loc : Loc) (H : AH) (s : Shared) (Qn : Loc → AH → Prop) (Qr : AV → AH → Prop) (Qx : Str → Loc → AH → Prop) (E : Value → Shared → Prop),
    Fr ⟨P, l, A, env, names, S₀, s₀, hid, S⟩ ρ loc H s → XOk ⟨P, l, A, env, names, S₀, s₀, hid, S⟩ ρ s Qx E → wp loc H Qn Qr Qx →
    wpAny (model P.prog P.w) A m (SP ⟨P, l, A, env, names, S₀, s₀, hid, S⟩ ρ s Qn Qr) E s

section
variable {K : FC} {ρ ρ₁ : List Addr} {loc loc' : Loc} {H H' : AH} {s s₁ : Shared} {h' : Heap} {tk : Nat} {Qx : Str → Loc → AH → Prop} {Qn : Loc → AH → Prop} {Qr : AV → AH → Prop} {E : Value → Shared → Prop}

theorem XOk.after (x : XOk K ρ s Qx E) (m : Mvd K.env ρ s ρ₁ s₁) : XOk K ρ₁ s₁ Qx E := fun ρ' loc' H' s2 e s' m2 F q => x ρ' loc' H' s2 e s' (m.trans m2) F q
theorem xOk_any : XOk K ρ s Qx E := fun _ _ _ _ _ _ _ _ q => (excC_false q).elim
theorem XOk.ex (x : XOk K ρ s Qx E) (F : Fr K ρ loc H s) : ExOk K.P K.A (fun c => Qx c loc H) E s := fun h tk e s' k q => x ρ loc H _ e s' (Mvd.kp0 k) (F.kp0 k) q
theorem SP.after {f : Flow} {s₂ : Shared} (m : Mvd K.env ρ s ρ₁ s₁) (h : SP K ρ₁ s₁ Qn Qr f s₂) : SP K ρ s Qn Qr f s₂ := by
  cases f with
  | next => obtain ⟨ρ', loc', H', m', F, q⟩ := h; exact ⟨ρ', loc', H', m.trans m', F, q⟩
  | ret v => obtain ⟨ρ', loc', H', v, m', F, V, q⟩ := h; exact ⟨ρ', loc', H', v, m.trans m', F, V, q⟩
  | _ => exact h.elim
theorem SP.mono {f : Flow} {s₂ : Shared} {Qn' : Loc → AH → Prop} (h : SP K ρ s Qn Qr f s₂) (hq : ∀ loc H, Qn loc H → Qn' loc H) : SP K ρ s Qn' Qr f s₂ := by
  cases f with
  | next => obtain ⟨ρ', loc', H', m', F, q⟩ := h; exact ⟨ρ', loc', H', m', F, hq _ _ q⟩
  | ret v => exact h
  | _ => exact h.elim

theorem RenLs.length {φ : List Nat} {a b : Loc} (r : RenLs φ H a b) : a.length = b.length := by
  induction r with
  | nil => rfl
  | keep _ _ ih => simp [ih]
  | drop _ ih => simp [ih]
theorem RenLs.get {φ : List Nat} {a b : Loc} (r : RenLs φ H a b) (i : Nat) (v' : AV) (e : b[i]?.join = some v') : ∃ v, a[i]?.join = some v ∧ Ren φ H v v' := by
  induction r generalizing i with
  | nil => simp at e
  | keep q _ ih =>
    cases i with
    | zero => simp at e; subst e; exact ⟨_, rfl, q⟩
    | succ i => simpa using ih i (by simpa using e)
  | drop _ ih =>
    cases i with
    | zero => simp at e
    | succ i => simpa using ih i (by simpa using e)
/-- the frame, with new numbers -/
theorem Fr.ren (F : Fr K ρ loc H s) (r : RenL loc H loc' H') : ∃ ρ', (∀ a ∈ ρ', a ∈ ρ) ∧ Fr K ρ' loc' H' s := by
  rcases r with ⟨rfl, rfl⟩ | ⟨φ, R, L⟩
  · exact ⟨ρ, fun _ h => h, F⟩
  · have hp : ∀ a ∈ pick ρ φ, a ∈ ρ := fun a ha => by obtain ⟨j, _, e⟩ := pick_mem ha; exact List.mem_of_getElem? e
    refine ⟨pick ρ φ, hp, { aok := F.aok, eok := F.eok, nd := F.nd, g0 := F.g0, pp := F.pp, pw := F.pw, sd := F.sd, sim := F.sim.ren R, fr := fun a ha => F.fr a (hp a ha), sub := F.sub, hL := F.hL, hC := F.hC, len := L.length ▸ F.len, ic := ?_, hh := ?_ }⟩
    · obtain ⟨m, cm, I, q⟩ := F.ic
      refine ⟨m, cm, I, fun i x v e1 e2 => ?_⟩
      obtain ⟨u, e3, r⟩ := L.get i v e2
      obtain ⟨rv, h1, h2⟩ := q i x u e1 e3
      exact ⟨rv, h1, VRel.ren' F.sim R.dom r h2⟩
    · intro i rv v e1 e2
      obtain ⟨u, e3, r⟩ := L.get _ v e2
      exact VRel.ren' F.sim R.dom r (F.hh i rv u e1 e3)
theorem Mvd.sub' {env : Env} {ρ' : List Addr} (h : ∀ a ∈ ρ', a ∈ ρ) : Mvd env ρ s ρ' s := ⟨⟨s.heap, s.toks, rfl⟩, fun _ _ _ _ _ e => e, fun a ha => .inl (h a ha), fun _ o e => ⟨o, e⟩⟩
theorem SP.cut {f : Flow} {s₂ : Shared} {R : Loc → AH → Prop} (h : SP K ρ s (Cut R) Qr f s₂) : SP K ρ s R Qr f s₂ := by
  cases f with
  | next =>
    obtain ⟨ρ', loc', H', m', F, loc₂, H₂, r, q⟩ := h
    obtain ⟨ρ₂, hs, F₂⟩ := F.ren r
    exact ⟨ρ₂, loc₂, H₂, m'.trans (Mvd.sub' hs), F₂, q⟩
  | ret v => exact h
  | _ => exact h.elim
end

open PySem PyProof.Rows PySem.SeqAt
section
variable {P : PC} {l : Lv} {env : Env} {names : List Str} {nt : NT} {n : Nat}

theorem pass_ok {p : Pos} : StOk P l env names (exec (.Pass p) env) (wpS P l .pass) := by
  intro A S₀ s₀ hid S ρ loc H s Qn Qr Qx E F hX h
  simp only [q_assign, q_assignT, q_setIdx, q_mut, q_popTo, q_expr, q_ite, q_for1, q_forT, q_while, q_ret, q_pass] at h
  exact wpAny_Pass ⟨ρ, loc, H, Mvd.refl, F, h⟩
theorem ret_ok {e : PySem.Expr} {p : Pos} {c : CE} (ie : EvOk P l env names e c) : StOk P l env names (exec (.Return (some e) p) env) (wpS P l (.ret c)) := by
  intro A S₀ s₀ hid S ρ loc H s Qn Qr Qx E F hX h
  simp only [q_assign, q_assignT, q_setIdx, q_mut, q_popTo, q_expr, q_ite, q_for1, q_forT, q_while, q_ret, q_pass] at h
  refine wpAny_Return_some (wpAny_mono (ie A S ρ loc H s _ _ E F.cx (hX.ex F) h) (fun x s₁ hx => ?_) fun _ _ y => y)
  obtain ⟨h1, tk1, n1, v1, G1, rfl, k1, f1, X1, V1, q1⟩ := hx
  exact ⟨_, loc, _, v1, Mvd.kp k1 f1, F.kp k1 f1 X1, V1, q1⟩
theorem if_ok {t : PySem.Expr} {a b : List PySem.Stmt} {p : Pos} {c : CE} {x y : List CS} (it : TrOk P l env names t c) (ia : StOk P l env names (execs a env) (wpSs P l x)) (ib : StOk P l env names (execs b env) (wpSs P l y)) :
    StOk P l env names (exec (.If t a b p) env) (wpS P l (.ite c x y)) := by
  intro A S₀ s₀ hid S ρ loc H s Qn Qr Qx E F hX h
  simp only [q_assign, q_assignT, q_setIdx, q_mut, q_popTo, q_expr, q_ite, q_for1, q_forT, q_while, q_ret, q_pass] at h
  obtain ⟨R, hR, h⟩ := h
  refine wpAny_If (wpAny_mono (it A S ρ loc H s (fun t H₁ => if t = true then wpSs P l x loc H₁ (Cut R) Qr Qx else wpSs P l y loc H₁ (Cut R) Qr Qx) _ E F.cx (hX.ex F) h) (fun t s₁ hx => ?_) fun _ _ y => y)
  obtain ⟨h1, tk1, n1, G1, rfl, k1, f1, X1, q1⟩ := hx
  have m : Mvd env ρ s (ρ ++ n1) { s with heap := h1, toks := tk1 } := Mvd.kp k1 f1
  cases t with
  | true =>
    simp only [if_true] at q1 ⊢
    exact wpAny_mono (ia A S₀ s₀ hid S _ loc _ _ (Cut R) Qr Qx E (F.kp k1 f1 X1) (hX.after m) q1) (fun f s₂ hf => (SP.after m (SP.cut hf)).mono hR) fun _ _ y => y
  | false =>
    simp only [Bool.false_eq_true, if_false] at q1 ⊢
    exact wpAny_mono (ib A S₀ s₀ hid S _ loc _ _ (Cut R) Qr Qx E (F.kp k1 f1 X1) (hX.after m) q1) (fun f s₂ hf => (SP.after m (SP.cut hf)).mono hR) fun _ _ y => y
theorem seq_ok (ih : ∀ (st : PySem.Stmt) (c : CS), compS nt n env.kindOf names st = some c → StOk P l env names (exec st env) (wpS P l c)) : ∀ (b : List PySem.Stmt) (cs : List CS), allSome (b.map (compS nt n env.kindOf names)) = some cs → StOk P l env names (execs b env) (wpSs P l cs)
  | [], cs, hc => by
    cases hc
    intro A S₀ s₀ hid S ρ loc H s Qn Qr Qx E F hX h
    simp only [q_nil, q_cons] at h
    exact wpAny_execs_nil ⟨ρ, loc, H, Mvd.refl, F, h⟩
  | st :: r, cs, hc => by
    obtain ⟨c, t, e1, e2, rfl⟩ := allSome_cons hc
    intro A S₀ s₀ hid S ρ loc H s Qn Qr Qx E F hX h
    simp only [q_nil, q_cons] at h
    refine wpAny_execs_cons (wpAny_mono (ih st c e1 A S₀ s₀ hid S ρ loc H s _ Qr Qx E F hX h) (fun f s₁ hf => ?_) fun _ _ y => y)
    cases f with
    | next =>
      obtain ⟨ρ₁, loc₁, H₁, m, F₁, q⟩ := hf
      exact wpAny_mono (seq_ok ih r t e2 A S₀ s₀ hid S ρ₁ loc₁ H₁ s₁ Qn Qr Qx E F₁ (hX.after m) q) (fun f s₂ hf => SP.after m hf) fun _ _ y => y
    | ret v => exact hf
    | _ => exact hf.elim

theorem swaps_false {v : PySem.Expr} {t : Option PySem.Expr} {k : Nat} (h : isComp v = false) : swapsWith v t k env = pure false := by
  cases v <;> first | rfl | cases h
/-- x = e -/
theorem assign_ok (ho : EnvOk env) {x : Str} {i : Nat} {v : PySem.Expr} {px p : Pos} {c : CE} (hx : slotOf env.kindOf names x = some i) (ie : EvOk P l env names v c) (hs : swapsWith v (some (.Name x px)) p.line env = pure false) :
    StOk P l env names (exec (.Assign [.Name x px] v p) env) (wpS P l (.assign i c)) := by
  intro A S₀ s₀ hid S ρ loc H s Qn Qr Qx E F hX h
  simp only [q_assign, q_assignT, q_setIdx, q_mut, q_popTo, q_expr, q_ite, q_for1, q_forT, q_while, q_ret, q_pass] at h
  refine wpAny_Assign_Name (wpAny_mono (ie A S ρ loc H s _ _ E F.cx (hX.ex F) h) (fun y s₁ hy => ?_) fun _ _ y => y) hs
  obtain ⟨h1, tk1, n1, v1, G1, rfl, k1, f1, X1, V1, q1⟩ := hy
  refine wpAny_mono (store_ok (K := ⟨P, l, A, env, names, S₀, s₀, hid, S⟩) (F.kp (tk := tk1) k1 f1 X1) hx V1) (fun _ s₂ h2 => ?_) fun _ _ y => y
  exact ⟨_, _, _, (Mvd.kp k1 f1).trans h2.1, h2.2, q1⟩
theorem expr_st_ok (ho : EnvOk env) {e : PySem.Expr} {p : Pos} {c : CE} (ie : EvOk P l env names e c) (hs : isComp e = false) : StOk P l env names (exec (.Expr e p) env) (wpS P l (.expr c)) := by
  intro A S₀ s₀ hid S ρ loc H s Qn Qr Qx E F hX h
  simp only [q_assign, q_assignT, q_setIdx, q_mut, q_popTo, q_expr, q_ite, q_for1, q_forT, q_while, q_ret, q_pass] at h
  refine wpAny_Expr_any (wpAny_mono (ie A S ρ loc H s _ _ E F.cx (hX.ex F) h) (fun y s₁ hy => ?_) fun _ _ y => y) (by unfold interactive; rw [ho.1]; rfl) (swaps_false hs)
  obtain ⟨h1, tk1, n1, v1, G1, rfl, k1, f1, X1, V1, q1⟩ := hy
  exact ⟨_, _, _, Mvd.kp k1 f1, F.kp k1 f1 X1, q1⟩

/-- o[i] = e -/
theorem set_vrels {S : Sx} {ρ : List Addr} {h : Heap} : ∀ {vs : List AV} {xs : List Value} {k : Nat} {v : AV} {x : Value}, VRels S ρ h vs xs → VRel S ρ h v x → VRels S ρ h (vs.set k v) (xs.set k x)
  | _, _, _, _, _, .nil, _ => .nil
  | _, _, 0, _, _, .cons _ r, V => .cons V r
  | _, _, k + 1, _, _, .cons a r, V => .cons a (set_vrels r V)
theorem PL.upd {h : Heap} {a : Addr} {items : Array Value} {m : Nat} (hp : h.get? a = some { cls := .type "list", data := .seq items m }) (f : Array Value → Array Value) : (h.update a (Obj.mapSeq f)).PlainList a (f items) := ⟨_, IsL.update hp f⟩
theorem setidx_ok {o i v : PySem.Expr} {sp p : Pos} {ca cb cc : CE} (iv : EvOk P l env names v ca) (io : EvOk P l env names o cb) (ii : EvOk P l env names i cc) :
    StOk P l env names (exec (.Assign [.Subscript o i sp] v p) env) (wpS P l (.setIdx cb cc ca)) := by
  intro A S₀ s₀ hid S ρ loc H s Qn Qr Qx E F hX h
  simp only [q_assign, q_assignT, q_setIdx, q_mut, q_popTo, q_expr, q_ite, q_for1, q_forT, q_while, q_ret, q_pass] at h
  have hs : swapsWith v (some (.Subscript o i sp)) p.line env = pure false := by cases v <;> rfl
  refine wpAny_Assign_Subscript (wpAny_mono (iv A S ρ loc H s _ _ E F.cx (hX.ex F) h) (fun y s₁ hy => ?_) fun _ _ y => y) hs
  obtain ⟨h1, tk1, n1, v1, G1, rfl, k1, f1, X1, V1, q1⟩ := hy
  have C1 := F.cx.kp (tk := tk1) k1 f1 X1
  refine wpAny_mono (io A S _ loc _ _ _ _ E C1 ((hX.ex F).kp k1) q1) (fun y s₁ hy => ?_) fun _ _ y => y
  obtain ⟨h2, tk2, n2, v2, G2, rfl, k2, f2, X2, V2, q2⟩ := hy
  have C2 := C1.kp (tk := tk2) k2 f2 X2
  refine wpAny_mono (ii A S _ loc _ _ _ _ E C2 (((hX.ex F).kp k1).kp k2) q2) (fun y s₁ hy => ?_) fun _ _ y => y
  obtain ⟨h3, tk3, n3, v3, G3, rfl, k3, f3, X3, V3, q3⟩ := hy
  obtain ⟨r, k, vs, rfl, rfl, e1, e2, e3, e4, q⟩ := q3
  have V1' := (V1.kp k2 f2).kp k3 f3
  have V2' := V2.kp k3 f3
  have F3 := F.kp (tk := tk3) (e := n1 ++ n2 ++ n3) (G := G1 ++ G2 ++ G3) ((k1.trans k2).trans k3) (fresh_trans (k1.trans k2) (fresh_trans k1 f1 f2) f3) (by simpa [List.append_assoc] using X3)
  have m3 : Mvd env ρ s (ρ ++ (n1 ++ n2 ++ n3)) { s with heap := h3, toks := tk3 } := Mvd.kp ((k1.trans k2).trans k3) (fresh_trans (k1.trans k2) (fresh_trans k1 f1 f2) f3)
  cases V3
  cases V2' with
  | ref ha =>
  rename_i a
  obtain ⟨items, ⟨mm, hp⟩, vv⟩ := X3.get e1 ha
  have hl := vv.length
  simp only [Array.length_toList] at hl
  unfold smallN at e4
  refine PySem.W.ki_setAt (n := mm) hp e2 (by omega) (by omega) ?_
  have ha' : (ρ ++ (n1 ++ n2 ++ n3))[r]? = some a := by simpa [List.append_assoc] using ha
  have pl := PL.upd hp (·.setIfInBounds k.toNat y)
  have V' : VRels S (ρ ++ (n1 ++ n2 ++ n3)) h3 (vs.set k.toNat v1) (items.setIfInBounds k.toNat y).toList := by
    have := set_vrels (k := k.toNat) vv V1'
    rw [Array.toList_setIfInBounds]
    simpa [List.append_assoc] using this
  refine ⟨_, loc, _, m3.trans (Mvd.set (tk := tk3) ha' (Heap.SameBut.update ..) pl), F3.set (tk := tk3) ha' (Heap.SameBut.update ..) pl V', ?_⟩
  simpa [List.append_assoc] using q
end

open PySem PyProof.Rows PySem.SeqAt
section
variable {K : FC} {ρ : List Addr} {loc : Loc} {H : AH} {s : Shared} {h' : Heap} {tk : Nat} {E : Value → Shared → Prop}

/-- more addresses are protected, and lists are new -/
theorem Fr.guardG {x' e : List Addr} {G : AH} (F : Fr K ρ loc H s) (hx : ∀ b ∈ x', s.heap.get? b = none) (k : Kp s.heap h') (hd : ∀ b ∈ x', ∃ o, h'.get? b = some o) (f : Fresh s.heap e) (X : HSim ⟨K.S.ad ++ x', K.S.prog, K.S.w⟩ (ρ ++ e) (H ++ G) h') :
    Fr { K with S := ⟨K.S.ad ++ x', K.S.prog, K.S.w⟩ } (ρ ++ e) loc (H ++ G) { s with heap := h', toks := tk } where
  aok := F.aok
  eok := F.eok
  nd := F.nd
  g0 := F.g0
  pp := F.pp
  pw := F.pw
  sd := fun b hb => (List.mem_append.mp hb).elim (F.sd.kp k b) (hd b)
  sim := X
  fr := fun a ha => (List.mem_append.mp ha).elim (F.fr a) fun q => by
    cases q0 : K.s₀.heap.get? a with
    | none => rfl
    | some o => have := f a q; rw [F.keep a o q0] at this; cases this
  sub := fun b hb => List.mem_append_left _ (F.sub b hb)
  hL := List.mem_append_left _ F.hL
  hC := fun n c hc => List.mem_append_left _ (F.hC n c hc)
  len := F.len
  ic := let ⟨m, cm, I, q⟩ := F.ic; ⟨m, cm, InCallC.kp I k, fun i x v e1 e2 => let ⟨rv, h1, h2⟩ := q i x v e1 e2; ⟨rv, h1, (h2.avoid hx).kp k f⟩⟩
  hh := fun i rv v e1 e2 => ((F.hh i rv v e1 e2).avoid hx).kp k f
theorem Fr.guard {x' : List Addr} (F : Fr K ρ loc H s) (hx : ∀ b ∈ x', s.heap.get? b = none) (k : Kp s.heap h') (hd : ∀ b ∈ x', ∃ o, h'.get? b = some o) : Fr { K with S := ⟨K.S.ad ++ x', K.S.prog, K.S.w⟩ } ρ loc H { s with heap := h', toks := tk } := by
  have := F.guardG (e := []) (G := []) (tk := tk) hx k hd (Fresh.nil _) (by simpa using (F.sim.avoid hx).kp k)
  simpa using this
/-- the protected addresses that were added are given up, in whatever state -/
theorem Fr.unguard {x' : List Addr} {S : Sx} (F : Fr K ρ loc H s) (hS : K.S = ⟨S.ad ++ x', S.prog, S.w⟩) (hk : ∀ c o, c ∉ x' → s.heap.get? c = some o → h'.get? c = some o)
    (hf : ∀ b ∈ x', b ∉ S.ad ∧ K.s₀.heap.get? b = none) (hs : ∀ b ∈ K.S₀.ad, b ∈ S.ad) (hL : K.env.locals ∈ S.ad) (hC : ∀ n c, (n, c) ∈ K.env.cells → c ∈ S.ad) : Fr { K with S := S } ρ loc H { s with heap := h', toks := tk } := by
  have hx : ∀ b ∈ x', b ∈ K.S.ad := fun b hb => by rw [hS]; exact List.mem_append_right _ hb
  have hc : ∀ c o, c ∉ K.S.ad → s.heap.get? c = some o → h'.get? c = some o := fun c o hc e => hk c o (fun q => hc (hx c q)) e
  have hsub : ∀ b ∈ S.ad, b ∈ K.S.ad := fun b hb => by rw [hS]; exact List.mem_append_left _ hb
  have hp : K.S.prog = S.prog := by rw [hS]
  have hw : K.S.w = S.w := by rw [hS]
  have hn : ∀ b ∈ S.ad, b ∉ x' := fun b hb q => (hf b q).1 hb
  have ch : ∀ {v : AV} {x : Value}, VRel K.S ρ s.heap v x → VRel S ρ h' v x := fun V => VRel.sub hp hw hsub (V.chg hc)
  exact { aok := F.aok, eok := F.eok, nd := F.nd, g0 := F.g0, pp := hp.symm.trans F.pp, pw := hw.symm.trans F.pw
          sd := fun a ha => let ⟨o, ho⟩ := F.sd a (hsub a ha); ⟨o, hk a o (hn a ha) ho⟩
          sim := HSim.sub hp hw hsub (F.sim.chg hc)
          fr := F.fr, sub := hs, hL := hL, hC := hC, len := F.len
          ic := by
            obtain ⟨m, cm, I, q⟩ := F.ic
            refine ⟨m, cm, ⟨⟨let ⟨_, _, e⟩ := I.toInCall.same; ⟨h', tk, by rw [e]⟩, I.toInCall.ns.at' fun o e => hk _ o (hn _ hL) e, fun b o e => hk b o (fun q => by rw [(hf b q).2] at e; cases e) (I.toInCall.keep b o e), I.toInCall.fresh⟩, fun n c hc => ?_, I.apart, I.above⟩, fun i x v e1 e2 => let ⟨rv, h1, h2⟩ := q i x v e1 e2; ⟨rv, h1, ch h2⟩⟩
            obtain ⟨o, ho, hd⟩ := I.cell n c hc
            exact ⟨o, hk c o (hn c (hC n c (mem_of_lookup hc))) ho, hd⟩
          hh := fun i rv v e1 e2 => ch (F.hh i rv v e1 e2) }
theorem Mvd.junk {env : Env} {x' ρ' : List Addr} {s₂ : Shared} (m : Mvd env ρ s ρ' s₂) (hk : ∀ c o, c ∉ x' → s₂.heap.get? c = some o → h'.get? c = some o) (hx : ∀ b ∈ x', s.heap.get? b = none) : Mvd env ρ s ρ' { s₂ with heap := h', toks := tk } where
  same := by obtain ⟨h, t, rfl⟩ := m.same; exact ⟨h', tk, rfl⟩
  mv := fun b o h1 h2 h3 e => hk b o (fun q => by rw [hx b q] at e; cases e) (m.mv b o h1 h2 h3 e)
  sub := m.sub
  alive := fun b o e => by
    obtain ⟨o', e'⟩ := m.alive b o e
    exact ⟨o', hk b o' (fun q => by rw [hx b q] at e; cases e) e'⟩
end
section
variable {P : PC} {l : Lv} {env : Env} {names : List Str} {nt : NT} {n : Nat}

/-- x = [...], where the store comes before the comprehension's names are let go -/
theorem assign_comp_ok (ho : EnvOk env) {x : Str} {i : Nat} {py p : Pos} {scope : Scope} {cap : List Nat} {tgt : PySem.Expr} {nv : Nat} {txs : List Str} {pos : Pos} {elt it : PySem.Expr} {ifs : List PySem.Expr} {ce ci : CE} {cs : List CE}
    (hx : slotOf env.kindOf names x = some i)
    (ih : ∀ (env : Env) (names : List Str), EnvOk env → ∀ (e : PySem.Expr) (c : CE), compE nt n env.kindOf names e = some c → EvOk P l env names e c ∧ TrOk P l env names e c)
    (hi : compE nt n env.kindOf names it = some ci) (hcap : allSome ((freeNames scope).map fun x => idxOf x names) = some cap) (he : compE nt n (compKd scope env.kindOf) (freeNames scope ++ txs) elt = some ce)
    (hc : allSome (ifs.map (compE nt n (compKd scope env.kindOf) (freeNames scope ++ txs))) = some cs) (hok : compOk scope env.kindOf txs = true) (htg : tgtNames tgt = some (nv, txs)) (hnd : txs.Nodup) (hcs : cs.length ≤ 1)
    (hs : swapsWith (.ListComp elt [⟨tgt, it, ifs, 0⟩] scope pos) (some (.Name x py)) p.line env = pure true) :
    StOk P l env names (exec (.Assign [.Name x py] (.ListComp elt [⟨tgt, it, ifs, 0⟩] scope pos) p) env) (wpS P l (.assign i (.comp ce cs cap nv ci))) := by
  intro A S₀ s₀ hid S ρ loc H s Qn Qr Qx E F hX h
  simp only [q_assign, q_assignT, q_setIdx, q_mut, q_popTo, q_expr, q_ite, q_for1, q_forT, q_while, q_ret, q_pass] at h
  rw [exec_Assign_Name_used _ _ _ _ hs]
  refine wpAny_bind (wpAny_standAt (wpAny_bind ?_))
  show wpAny _ A (do let _ ← comprehension (.ListComp elt [⟨tgt, it, ifs, 0⟩] scope pos) scope env (firstIterPos [⟨tgt, it, ifs, 0⟩] pos) (newList []) false (eval it env) (some (assign (.Name x py) env))) _ _ s
  refine wpAny_bind (wpAny_mono (comp_run (QQ := fun _ s' => SP ⟨P, l, A, env, names, S₀, s₀, hid, S⟩ ρ s Qn Qr .next s') ho ih hi hcap he hc hok htg hnd hcs F.cx (hX.ex F) h ?_) (fun _ s' hq => wpAny_pure (wpAny_pure hq)) fun _ _ e => e)
  intro h₁ tk₁ e₁ G₁ D Cc h' tk m ys vs k1 f1 C1 hD hCc hDC hn hp hV hl k' q
  show wpAny _ A (assign (.Name x py) env (.ref D)) _ _ _
  obtain ⟨Sp, hp1, hp2, hp3, hp4, hp5, hV⟩ := hV
  have F1 := F.kp (tk := tk₁) k1 f1 C1.sim
  have hCo : ∃ o, h'.get? Cc = some o := let ⟨o, _, _, ho, _⟩ := hn; ⟨o, ho⟩
  have hDS : D ∉ S.ad ++ [Cc] := fun hm => by
    rcases List.mem_append.mp hm with q | q
    · obtain ⟨o, ho⟩ := C1.sd D q; rw [hD] at ho; cases ho
    · simp at q; exact hDC q
  have fD : Fresh h₁ [D] := fun a ha => by simp at ha; subst ha; exact hD
  have X2 : HSim ⟨S.ad ++ [Cc], S.prog, S.w⟩ (ρ ++ e₁ ++ [D]) (H ++ G₁ ++ [vs]) h' := by
    refine (HSim.avoid (x' := [Cc]) C1.sim (fun b hb => by simp at hb; subst hb; exact hCc)).pushO k' hD hDS hp ?_
    exact VRels.own (S := ⟨S.ad ++ [Cc], S.prog, S.w⟩) hp1 hp2 (fun b hb => (List.mem_append.mp hb).elim (hp3 b) fun q => by simp at q; subst q; exact hp5) (fun b hb => by simp at hb; subst hb; exact hp4) hV
  have F2 := F1.guardG (x' := [Cc]) (e := [D]) (G := [vs]) (tk := tk) (fun b hb => by simp at hb; subst hb; exact hCc) k' (fun b hb => by simp at hb; subst hb; exact hCo) fD X2
  have VD : VRel ⟨S.ad ++ [Cc], S.prog, S.w⟩ (ρ ++ e₁ ++ [D]) h' (.ref (H ++ G₁).length) (.ref D) := .ref (by rw [← C1.sim.len]; simp)
  have hCL : Cc ≠ env.locals := fun q => by obtain ⟨o, ho⟩ := F1.sd _ F1.hL; rw [← q, hCc] at ho; cases ho
  have hCC : ∀ n c, (n, c) ∈ env.cells → Cc ≠ c := fun n c hm q => by obtain ⟨o, ho⟩ := F1.sd _ (F1.hC n c hm); rw [← q, hCc] at ho; cases ho
  refine wpAny_assign_Name (wpAny_mono (store_ok F2 hx VD) (fun _ s₂ h2 => ?_) fun _ _ y => y)
  obtain ⟨M2, F3⟩ := h2
  have hCr : Cc ∉ ρ ++ e₁ ++ [D] := fun hm => by
    rcases List.mem_append.mp hm with q | q
    · obtain ⟨o, ho⟩ := C1.sim.mem q; rw [hCc] at ho; cases ho
    · simp at q; exact hDC q.symm
  have hn2 : s₂.heap.Ns Cc m := hn.at' fun o e => M2.mv Cc o hCL hCC hCr e
  refine ⟨m, hn2, fun h3 hs3 => ?_⟩
  have hk3 : ∀ c o, c ∉ [Cc] → s₂.heap.get? c = some o → h3.get? c = some o := fun c o hc e => hs3.extBut c o (fun q => hc (by simp [q])) e
  have F4 := F3.unguard (x' := [Cc]) (S := S) (h' := h3) (tk := s₂.toks) rfl hk3
    (fun b hb => by
      simp at hb; rw [hb]
      refine ⟨fun q => ?_, ?_⟩
      · obtain ⟨o, ho⟩ := F1.sd _ q; rw [hCc] at ho; cases ho
      · cases q0 : s₀.heap.get? Cc with
        | none => rfl
        | some o => have := F1.keep _ _ q0; rw [hCc] at this; cases this) F.sub F.hL F.hC
  have m1 : Mvd env ρ s (ρ ++ e₁) { s with heap := h₁, toks := tk₁ } := Mvd.kp k1 f1
  have m2 : Mvd env (ρ ++ e₁) { s with heap := h₁, toks := tk₁ } (ρ ++ e₁ ++ [D]) { s with heap := h', toks := tk } := Mvd.kp k' fD
  exact ⟨_, _, _, m1.trans ((m2.trans M2).junk (x' := [Cc]) (tk := s₂.toks) hk3 fun b hb => by simp at hb; subst hb; exact hCc), F4, q⟩
end

open PySem PyProof.Rows PySem.SeqAt
section
variable {prog : Program} {w : World} {A : Around} {S : Sx} {ρ : List Addr} {H : AH} {s : Shared} {E : Value → Shared → Prop} {v : AV} {x : Value}

theorem VRel.mono2 {h h' : Heap} (hk : ∀ b o, b ∉ ρ → b ∉ S.ad → h.get? b = some o → h'.get? b = some o) {v : AV} {x : Value} (V : VRel S ρ h v x) : VRel S ρ h' v x :=
  VRel.rec (motive_1 := fun v x _ => VRel S ρ h' v x) (motive_2 := fun v x _ => VRels S ρ h' v x)
    (.none)
    (fun b => .bool b)
    (fun i t => .int i t)
    (fun x t => .str x t)
    (fun ha hs hi hv ih => .tup ha hs (hi.at fun o e => hk _ o ha hs e) ih)
    (fun ha hs hi hv ih => .fl ha hs (PlainList.at' hi fun o e => hk _ o ha hs e) ih)
    (fun hi => .ref hi)
    (fun hr ha hs hi => .rng hr ha hs (hk _ _ ha hs hi))
    (fun ha hs hm he hv ih => .dict ha hs (MapOf.at hm fun o e => hk _ o ha hs e) he ih)
    (fun ha hs hi => .exc ha hs (hi.at fun o e => hk _ o ha hs e))
    .nil (fun _ _ i1 i2 => .cons i1 i2) V
theorem VRels.mono2 {h h' : Heap} (hk : ∀ b o, b ∉ ρ → b ∉ S.ad → h.get? b = some o → h'.get? b = some o) {v : List AV} {x : List Value} (V : VRels S ρ h v x) : VRels S ρ h' v x :=
  VRels.ind (M := fun v x => VRels S ρ h' v x) .nil (fun _ _ _ _ a _ i2 => .cons (VRel.mono2 hk a) i2) V
end
section
variable {P : PC} {l : Lv} {env : Env} {names : List Str} {nt : NT} {n : Nat}

theorem stores_ok {K : FC} {E : Value → Shared → Prop} : ∀ (es : List PySem.Expr) (xs : List Nat) (vs : List AV) (ys : List Value) {ρ : List Addr} {loc : Loc} {H : AH} {s : Shared}, allSome (es.map fun e => (nameOf e).bind (slotOf K.env.kindOf K.names)) = some xs → VRels K.S ρ s.heap vs ys → vs.length = xs.length → Fr K ρ loc H s →
    wpAny (model K.P.prog K.P.w) K.A (assignInOrder ((assignEach es K.env).map (·.2)) ys) (fun _ s' => Mvd K.env ρ s ρ s' ∧ Fr K ρ (setAll loc xs vs) H s') E s
  | [], xs, vs, ys, ρ, loc, H, s, hc, V, hl, F => by
    cases hc
    have : vs = [] := List.length_eq_zero_iff.mp hl
    subst this
    exact wpAny_pure ⟨Mvd.refl, F⟩
  | e :: r, xs, vs, ys, ρ, loc, H, s, hc, V, hl, F => by
    obtain ⟨a, t, e1, e2, rfl⟩ := allSome_cons hc
    obtain ⟨x, ex, ea⟩ := Option.bind_eq_some_iff.mp e1
    cases V with
    | nil => simp at hl
    | cons V Vr =>
    rename_i v vs y ys
    cases e <;> first | (cases ex; done) | skip
    cases ex
    rename_i p
    show wpAny _ _ (do holding ys (assign (.Name x p) K.env y); assignInOrder ((assignEach r K.env).map (·.2)) ys) _ _ s
    refine wpAny_bind (wpAny_holding (wpAny_assign_Name (wpAny_mono (store_ok F ea V) (fun _ s₁ h₁ => ?_) fun _ _ y => y)))
    obtain ⟨m1, F1⟩ := h₁
    have Vr' : VRels K.S ρ s₁.heap vs ys := by
      exact Vr.mono2 fun b o hb hs e => m1.mv b o (fun q => hs (q ▸ F.hL)) (fun n c hc q => hs (q ▸ F.hC n c hc)) hb e
    refine wpAny_mono (stores_ok r t vs ys e2 Vr' (by simpa using hl) F1) (fun _ s₂ h₂ => ?_) fun _ _ y => y
    exact ⟨m1.trans h₂.1, h₂.2⟩

theorem each_map : ∀ (es : List PySem.Expr) (xs : List Nat), allSome (es.map fun e => (nameOf e).bind (slotOf env.kindOf names)) = some xs → (assignEach es env).length = xs.length ∧ (assignEach es env).findIdx? (·.1) = none
  | [], xs, hc => by cases hc; exact ⟨rfl, rfl⟩
  | e :: r, xs, hc => by
    obtain ⟨a, t, e1, e2, rfl⟩ := allSome_cons hc
    obtain ⟨x, ex, ea⟩ := Option.bind_eq_some_iff.mp e1
    cases e <;> first | (cases ex; done) | skip
    cases ex
    rename_i p
    have q := each_map r t e2
    have e0 : assignEach (.Name x p :: r) env = (false, assign (.Name x p) env) :: assignEach r env := rfl
    rw [e0]
    refine ⟨by simp [q.1], ?_⟩
    rw [List.findIdx?_cons]
    simp [q.2]
/-- a, b = e -/
theorem assignT_ok (ho : EnvOk env) {es : List PySem.Expr} {xs : List Nat} {v : PySem.Expr} {kk : Nat} {tp p : Pos} {c : CE} (hx : allSome (es.map fun e => (nameOf e).bind (slotOf env.kindOf names)) = some xs) (ie : EvOk P l env names v c) (ht : isTup v = false) (hc : isComp v = false) :
    StOk P l env names (exec (.Assign [.Tuple es kk tp] v p) env) (wpS P l (.assignT xs c)) := by
  intro A S₀ s₀ hid S ρ loc H s Qn Qr Qx E F hX h
  simp only [q_assign, q_assignT, q_setIdx, q_mut, q_popTo, q_expr, q_ite, q_for1, q_forT, q_while, q_ret, q_pass] at h
  obtain ⟨hq, h⟩ := h
  have hm := each_map (env := env) (names := names) es xs hx
  refine Assign_Tuple (wpAny_mono (ie A S ρ loc H s _ _ E F.cx (hX.ex F) h) (fun y s₁ hy => ?_) fun _ _ y => y) (by unfold swapsWithSole; exact swaps_false hc) (by cases v <;> first | rfl | cases ht)
  obtain ⟨h1, tk1, n1, v1, G1, rfl, k1, f1, X1, V1, qz⟩ := hy
  obtain ⟨vs, e1, qy⟩ := opt_of qz
  obtain ⟨loc', ez, q1⟩ := opt_of qy
  obtain ⟨e2, rfl⟩ := setAllO_of xs vs ez
  rw [show assign (.Tuple es kk tp) env y = (do standAt tp; unpack y (assignEach es env)) from rfl]
  refine wpAny_bind (wpAny_standAt ?_)
  unfold unpack
  rw [hm.1, hm.2, ← e2]
  refine wpAny_bind (wpAny_holding (unpack_real (F.aok.1 hq) X1 V1 e1 fun ys h2 tk2 k2 V2 => ?_))
  have F1 := F.kp (tk := tk1) k1 f1 X1
  have F2 := F1.kp0 (tk := tk2) k2
  refine wpAny_mono (stores_ok (K := ⟨P, l, A, env, names, S₀, s₀, hid, S⟩) es xs vs ys hx (V2.kp0 k2) e2 F2) (fun _ s₂ h₂ => ?_) fun _ _ y => y
  exact ⟨_, _, _, ((Mvd.kp k1 f1).trans (Mvd.kp0 (s := { s with heap := h1, toks := tk1 }) k2)).trans h₂.1, h₂.2, q1⟩
end

open PySem PyProof.Rows PySem.SeqAt
section
variable {K : FC} {ρ : List Addr} {loc : Loc} {H : AH} {s : Shared} {tk : Nat} {Qn : Loc → AH → Prop} {Qr : AV → AH → Prop}
theorem mut_fin {r m : Nat} {a : Addr} {items : Array Value} {ys : List AV} (F : Fr K ρ loc H s) (ha : ρ[r]? = some a) (hp : s.heap.get? a = some { cls := .type "list", data := .seq items m }) (f : Array Value → Array Value) (V : VRels K.S ρ s.heap ys (f items).toList) (q : Qn loc (H.set r ys)) :
    SP K ρ s Qn Qr .next { s with heap := s.heap.update a (Obj.mapSeq f), toks := tk } :=
  ⟨ρ, loc, _, Mvd.set ha (Heap.SameBut.update ..) (PL.upd hp f), F.set ha (Heap.SameBut.update ..) (PL.upd hp f) V, q⟩
end
section
variable {P : PC} {l : Lv} {env : Env} {names : List Str} {nt : NT} {n : Nat}

theorem opMut1 {vs : List AV} {k : AV → Option (List AV)} {ys : List AV} (h : mut1 vs k = some ys) : ∃ v, vs = [v] ∧ k v = some ys := by
  rcases vs with _ | ⟨v, _ | ⟨u, r⟩⟩
  · cases h
  · exact ⟨v, rfl, h⟩
  · cases h
theorem opMut0 {vs : List AV} {k : Option (List AV)} {ys : List AV} (h : mut0 vs k = some ys) : vs = [] ∧ k = some ys := by
  rcases vs with _ | ⟨v, r⟩
  · exact ⟨rfl, h⟩
  · cases h
theorem opMut2 {vs : List AV} {k : Int → AV → Option (List AV)} {ys : List AV} (h : mut2 vs k = some ys) : ∃ i v, vs = [.int i, v] ∧ k i v = some ys := by
  rcases vs with _ | ⟨v, _ | ⟨u, _ | ⟨u2, r⟩⟩⟩
  · cases h
  · cases h
  · cases v <;> first | (cases h; done) | exact ⟨_, _, rfl, h⟩
  · cases h
theorem meth_arg {m : Mu} {r : Nat} {H : AH} {xs ys vs : List AV} (h0 : opMut H m xs vs = some ys) :
    (m = .append ∧ ∃ v, vs = [v] ∧ xs.length < smallN ∧ ys = xs ++ [v]) ∨ (m = .insert ∧ ∃ k v, vs = [.int k, v] ∧ xs.length < smallN ∧ -1000000 < k ∧ k < 1000000 ∧ ys = insAt xs k v) ∨ (m = .clear ∧ vs = [] ∧ xs.length ≤ smallN ∧ ys = []) ∨
    (m = .extend ∧ ∃ v zs, vs = [v] ∧ v.items? H = some zs ∧ xs.length + zs.length ≤ smallN ∧ ys = xs ++ zs) ∨ (m = .reverse ∧ vs = [] ∧ xs.length ≤ smallN ∧ ys = xs.reverse) ∨ (m = .pop ∧ vs = [] ∧ xs.length ≤ smallN ∧ 0 < xs.length ∧ ys = xs.eraseIdx (xs.length - 1)) := by
  cases m with
  | append =>
    obtain ⟨v, rfl, h⟩ := opMut1 h0
    clear h0
    refine .inl ⟨rfl, v, rfl, ?_⟩
    split at h
    · rename_i hh; cases h; exact ⟨hh, rfl⟩
    · cases h
  | insert =>
    obtain ⟨k, v, rfl, h⟩ := opMut2 h0
    clear h0
    refine .inr (.inl ⟨rfl, k, v, rfl, ?_⟩)
    split at h
    · rename_i hh; cases h; exact ⟨hh.1, hh.2.1, hh.2.2, rfl⟩
    · cases h
  | clear =>
    obtain ⟨rfl, h⟩ := opMut0 h0
    clear h0
    refine .inr (.inr (.inl ⟨rfl, rfl, ?_⟩))
    split at h
    · rename_i hh; cases h; exact ⟨hh, rfl⟩
    · cases h
  | extend =>
    obtain ⟨v, rfl, h⟩ := opMut1 h0
    clear h0
    refine .inr (.inr (.inr (.inl ⟨rfl, v, ?_⟩)))
    split at h
    · rename_i zs hz
      split at h
      · rename_i hh; cases h; exact ⟨zs, rfl, hz, hh, rfl⟩
      · cases h
    · cases h
  | reverse =>
    obtain ⟨rfl, h⟩ := opMut0 h0
    clear h0
    refine .inr (.inr (.inr (.inr (.inl ⟨rfl, rfl, ?_⟩))))
    split at h
    · rename_i hh; cases h; exact ⟨hh, rfl⟩
    · cases h
  | pop =>
    obtain ⟨rfl, h⟩ := opMut0 h0
    clear h0
    refine .inr (.inr (.inr (.inr (.inr ⟨rfl, rfl, ?_⟩))))
    split at h
    · rename_i hh; cases h; exact ⟨hh.1, hh.2, rfl⟩
    · cases h

theorem mut_ok (ho : EnvOk env) {o : PySem.Expr} {name : Str} {ap p pos : Pos} {es : List PySem.Expr} {c : CE} {cs : List CE} {m : Mu}
    (ih : ∀ (e : PySem.Expr) (c : CE), compE nt n env.kindOf names e = some c → EvOk P l env names e c) (e1 : compE nt n env.kindOf names o = some c) (e2 : allSome (es.map (compE nt n env.kindOf names)) = some cs) (hl : (ap.endLine == p.line) = true) (hlen : cs.length ≤ 2) (hm : muNames.lookup name = some m) :
    StOk P l env names (exec (.Expr (.Call (.Attribute o name ap) es [] p) pos) env) (wpS P l (.mut m c cs)) := by
  intro A S₀ s₀ hid S ρ loc H s Qn Qr Qx E Fm hX h
  simp only [q_assign, q_assignT, q_setIdx, q_mut, q_popTo, q_expr, q_ite, q_for1, q_forT, q_while, q_ret, q_pass] at h
  refine wpAny_Expr_any ?_ (by unfold interactive; rw [ho.1]; rfl) rfl
  have hmem := lookup_mem hm
  simp only [muNames, List.mem_cons, Prod.mk.injEq, List.not_mem_nil, or_false] at hmem
  have hX' := hX.ex Fm
  have sl : sizeLine = 2 ^ 24 := rfl
  -- what is common to all
  have go : ∀ {h' : Heap} {tk : Nat} {e : List Addr} {G : AH} {u : AV} {vs : List AV} {x : Value}, Kp s.heap h' → Fresh s.heap e → Cx P l A env names S (ρ ++ e) loc (H ++ G) { s with heap := h', toks := tk } → VRel S (ρ ++ e) h' u x →
      (∃ r xs ys, u = .ref r ∧ (H ++ G)[r]? = some xs ∧ opMut (H ++ G) m xs vs = some ys ∧ (∀ v, vs = [v] → m = .extend → v ≠ u) ∧ Qn loc ((H ++ G).set r ys)) →
      ∃ r xs ys a items mm, u = .ref r ∧ x = .ref a ∧ h'.get? a = some { cls := .type "list", data := .seq items mm } ∧ VRels S (ρ ++ e) h' xs items.toList ∧ opMut (H ++ G) m xs vs = some ys ∧ (∀ v, vs = [v] → m = .extend → v ≠ u) ∧
        ∀ (f : Array Value → Array Value) (tk' : Nat), VRels S (ρ ++ e) h' ys (f items).toList → SP ⟨P, l, A, env, names, S₀, s₀, hid, S⟩ ρ s Qn Qr .next { s with heap := h'.update a (Obj.mapSeq f), toks := tk' } := by
    intro h' tk e G u vs x k fr C V hq
    obtain ⟨r, xs, ys, rfl, er, eo, hne, q⟩ := hq
    cases V with
    | ref ha =>
    rename_i a
    obtain ⟨items, ⟨mm, hp⟩, vv⟩ := C.sim.get er ha
    refine ⟨r, xs, ys, a, items, mm, rfl, rfl, hp, vv, eo, hne, fun f tk' V => ?_⟩
    have F' := Fm.kp (tk := tk) k fr C.sim
    exact SP.after (Mvd.kp (tk := tk) k fr) (mut_fin (tk := tk') F' ha hp f V q)
  rcases hmem with ⟨rfl, rfl⟩ | ⟨rfl, rfl⟩
  · refine meth_run ih e1 e2 hl (by omega) F.slot_list_append F.type_list_append Fm.cx hX' h ?_
    intro h' tk e G v vs x xs k fr C' V Vs hL q
    obtain ⟨r, as, ys, a, items, mm, rfl, rfl, hp, vv, eo, hne, fin⟩ := go k fr C' V q
    rcases meth_arg (r := r) eo with ⟨_, u, rfl, hs, rfl⟩ | ⟨hh, _⟩ | ⟨hh, _⟩ | ⟨hh, _⟩ | ⟨hh, _⟩ | ⟨hh, _⟩ <;> try cases hh
    have hz := vv.length
    simp only [Array.length_toList] at hz
    unfold smallN at hs
    obtain ⟨y, ey, Vu⟩ := Vs.of1
    subst ey
    · skip
      refine call_meets F.slot_list_append ⟨_, hp, rfl⟩ F.entry_list_append (F.args_list_append_2 _ _) (list_append a items mm y (by omega)) ⟨hp, ?_⟩
      exact fin (·.push y) tk (by simpa using vv.app (.cons Vu .nil))
  · refine meth_run ih e1 e2 hl (by omega) F.slot_list_insert F.type_list_insert Fm.cx hX' h ?_
    intro h' tk e G v vs x xs k fr C' V Vs hL q
    obtain ⟨r, as, ys, a, items, mm, rfl, rfl, hp, vv, eo, hne, fin⟩ := go k fr C' V q
    rcases meth_arg (r := r) eo with ⟨hh, _⟩ | ⟨_, j, u, rfl, hs, h1, h2, rfl⟩ | ⟨hh, _⟩ | ⟨hh, _⟩ | ⟨hh, _⟩ | ⟨hh, _⟩ <;> try cases hh
    have hz := vv.length
    simp only [Array.length_toList] at hz
    unfold smallN at hs
    obtain ⟨y0, y, ey, Vi, Vu⟩ := Vs.of2
    subst ey
    obtain ⟨t, ei⟩ := Vi.ofInt
    subst ei
    · skip
      have hfit : ¬(!Builtin.List.listFitsIndex j) = true := by
        simp only [Builtin.List.listFitsIndex]
        simp
        omega
      refine call_meets F.slot_list_insert ⟨_, hp, rfl⟩ F.entry_list_insert (F.args_list_insert_3 _ _ _) (AutoSeq1.list_insert_list_int_val_1 a items mm j t y hfit (by omega)) ⟨hp, ?_⟩
      refine fin _ tk ?_
      have hk : (if j < 0 then (j + (items.size : Int)).toNat else min j.toNat items.size) = (if j < 0 then (j + (as.length : Int)).toNat else min j.toNat as.length) := by rw [hz]
      simp only [insAt]
      rw [← hk]
      generalize (if j < 0 then (j + (items.size : Int)).toNat else min j.toNat items.size) = q
      have := (vv.take q).app (.cons Vu (vv.drop q))
      simpa [List.take_of_length_le] using this
end

open PySem PyProof.Rows PySem.SeqAt

/-- an iterator at its place -/
noncomputable def ItAt (h : Heap) (I : Addr) (x : Value) (n k : Nat) : AV → Prop
  | .rng i _ st => IsRangeIter h I (i + (k : Nat) * st) ((n : Int) - (k : Nat)) st
  | .tup _ => ∃ l, x = .ref l ∧ h.IsTupleIter I l k ∧ l ≠ I
  | .fl _ => ∃ l, x = .ref l ∧ h.IsListIter I l k ∧ l ≠ I
  | _ => False
theorem ItAt.at {h h' : Heap} {I : Addr} {x : Value} {n k : Nat} {κ : AV} (t : ItAt h I x n k κ) (hk : ∀ o, h.get? I = some o → h'.get? I = some o) : ItAt h' I x n k κ := by
  cases κ with
  | rng i j st => exact hk _ t
  | tup _ => obtain ⟨l, e, t, hne⟩ := t; exact ⟨l, e, t.at fun o q => hk o q, hne⟩
  | fl _ => obtain ⟨l, e, t, hne⟩ := t; exact ⟨l, e, t.at fun o q => hk o q, hne⟩
  | _ => exact t.elim
theorem ItAt.alive {h : Heap} {I : Addr} {x : Value} {n k : Nat} {κ : AV} (t : ItAt h I x n k κ) : ∃ o, h.get? I = some o := by
  cases κ with
  | rng i j st => exact ⟨_, t⟩
  | tup _ => obtain ⟨l, e, ⟨o, t, _⟩, hne⟩ := t; exact ⟨o, t⟩
  | fl _ => obtain ⟨l, e, ⟨o, t, _⟩, hne⟩ := t; exact ⟨o, t⟩
  | _ => exact t.elim
section
variable {prog : Program} {w : World} {A : Around} {S : Sx} {ρ : List Addr} {H : AH} {s : Shared} {E : Value → Shared → Prop} {v : AV} {x : Value} {its : List AV}

theorem iter_start {QQ : Value → Shared → Prop} (X : HSim S ρ H s.heap) (V : VRel S ρ s.heap v x) (e : iterOf H v = some its)
    (h : ∀ (I : Addr) (h₂ : Heap), ItAt h₂ I x its.length 0 v.ik → Kp s.heap h₂ → s.heap.get? I = none → QQ (.ref I) { s with heap := h₂ }) : wpAny (model prog w) A (pyIter x) QQ E s := by
  cases V with
  | rng hr ha hs0 hi =>
    rename_i a i j k t u u'
    simp [iterOf] at e
    have hs := rng_size hr
    refine wpAny_pyIter_range hi (rng_small hr) (h _ _ ?_ (push_kp _ _) (size_none _))
    have el : its.length = (Builtin.Range.rangeSize i j k).toNat := by rw [← e]; simp [rngList]
    have e0 : i + ((0 : Nat) : Int) * k = i := by simp
    have e1 : ((its.length : Nat) : Int) - ((0 : Nat) : Int) = Builtin.Range.rangeSize i j k := by rw [el]; omega
    show IsRangeIter _ _ (i + ((0 : Nat) : Int) * k) (((its.length : Nat) : Int) - ((0 : Nat) : Int)) k
    rw [e0, e1]
    exact Heap.get?_push_size _ rfl
  | tup ha hs hi hv =>
    refine wpAny_pyIter_tuple hi.isTuple (h _ _ ⟨_, rfl, ⟨_, Heap.get?_push_size _ rfl, rfl, rfl⟩, ?_⟩ (push_kp _ _) (size_none _))
    obtain ⟨n, hl⟩ := hi; exact Nat.ne_of_lt (Heap.lt_size hl)
  | fl ha hs hi hv =>
    refine wpAny_pyIter_list (PL.isList hi) (h _ _ ⟨_, rfl, ⟨_, Heap.get?_push_size _ rfl, rfl, rfl⟩, ?_⟩ (push_kp _ _) (size_none _))
    obtain ⟨n, hl⟩ := hi; exact Nat.ne_of_lt (Heap.lt_size hl)
  | ref hr =>
    obtain ⟨items, hi, _⟩ := X.mem' hr
    refine wpAny_pyIter_list (PL.isList hi) (h _ _ ⟨_, rfl, ⟨_, Heap.get?_push_size _ rfl, rfl, rfl⟩, ?_⟩ (push_kp _ _) (size_none _))
    obtain ⟨n, hl⟩ := hi; exact Nat.ne_of_lt (Heap.lt_size hl)
  | _ => simp [iterOf, AV.seq?, AV.items?] at e

theorem seq_kind (X : HSim S ρ H s.heap) (V : VRel S ρ s.heap v x) (e : v.seq? H = some its) : ∃ l items, x = .ref l ∧ VRels S ρ s.heap its items.toList ∧ ((v.ik = .tup [] ∧ PT s.heap l items) ∨ (v.ik = .fl [] ∧ s.heap.PlainList l items)) := by
  cases V with
  | tup ha hs hi hv => simp [AV.seq?, AV.items?] at e; subst e; exact ⟨_, _, rfl, hv, .inl ⟨rfl, hi⟩⟩
  | fl ha hs hi hv => simp [AV.seq?, AV.items?] at e; subst e; exact ⟨_, _, rfl, hv, .inr ⟨rfl, hi⟩⟩
  | ref hr =>
    simp [AV.seq?, AV.items?] at e
    obtain ⟨items, hi, hv⟩ := X.get e hr
    exact ⟨_, _, rfl, hv, .inr ⟨rfl, hi⟩⟩
  | _ => simp [AV.seq?, AV.items?] at e

theorem iter_item {I : Addr} {k : Nat} {u : AV} {QQ : Option Value → Shared → Prop} (hh : A.handled = none) (X : HSim S ρ H s.heap) (V : VRel S ρ s.heap v x) (e : iterOf H v = some its) (ei : its[k]? = some u) (t : ItAt s.heap I x its.length k v.ik)
    (h : ∀ y h' tk, VRel S ρ s.heap u y → ItAt h' I x its.length (k + 1) v.ik → (∀ b o, b ≠ I → s.heap.get? b = some o → h'.get? b = some o) → QQ (some y) { s with heap := h', toks := tk }) : wpAny (model prog w) A (pyNext (.ref I)) QQ E s := by
  have hk : k < its.length := (List.getElem?_eq_some_iff.mp ei).1
  have seqc : v.seq? H = some its → wpAny (model prog w) A (pyNext (.ref I)) QQ E s := fun es => by
    obtain ⟨l, items, rfl, vv, q⟩ := seq_kind X V es
    have hz := vv.length
    simp only [Array.length_toList] at hz
    rcases q with ⟨eκ, hp⟩ | ⟨eκ, hp⟩
    · rw [eκ] at t h
      obtain ⟨l', e', t, hne⟩ := t
      cases e'
      refine (Walks.tuple (prog := prog) (w := w) hh I l hne items).item k s _ E (by omega) ⟨t, hp.isTuple⟩ fun y h' tk hy st hkeep => ?_
      obtain ⟨u', eu, Vu⟩ := vv.getR (by simpa using hy)
      rw [ei] at eu; cases eu
      exact h y h' tk Vu ⟨l, rfl, st.1, hne⟩ fun b o hb eb => hkeep b o (by simpa using hb) eb
    · rw [eκ] at t h
      obtain ⟨l', e', t, hne⟩ := t
      cases e'
      refine (Walks.list (prog := prog) (w := w) hh I l hne items).item k s _ E (by omega) ⟨t, PL.isList hp⟩ fun y h' tk hy st hkeep => ?_
      obtain ⟨u', eu, Vu⟩ := vv.getR (by simpa using hy)
      rw [ei] at eu; cases eu
      exact h y h' tk Vu ⟨l, rfl, st.1, hne⟩ fun b o hb eb => hkeep b o (by simpa using hb) eb
  cases v with
  | rng i j st =>
    simp [iterOf] at e
    refine (Walks.range (prog := prog) (w := w) hh I i st its.length).item k s _ E hk t fun y h' tk hy st' hkeep => ?_
    obtain ⟨t', rfl⟩ := hy
    have hu : u = .int (i + (k : Int) * st) := by
      rw [← e] at ei
      simp [rngList] at ei
      obtain ⟨a, ha, ea⟩ := ei
      rw [List.getElem?_eq_some_iff] at ha
      obtain ⟨h1, h2⟩ := ha
      simp at h2
      rw [← ea, ← h2]
    subst hu
    exact h _ h' tk (.int _ _) st' fun b o hb eb => hkeep b o (by simpa using hb) eb
  | _ => exact seqc (by simpa [iterOf] using e)
theorem iter_done {I : Addr} {QQ : Option Value → Shared → Prop} (hh : A.handled = none) (X : HSim S ρ H s.heap) (V : VRel S ρ s.heap v x) (e : iterOf H v = some its) (t : ItAt s.heap I x its.length its.length v.ik)
    (h : ∀ h' tk, (∀ b o, b ≠ I → s.heap.get? b = some o → h'.get? b = some o) → QQ none { s with heap := h', toks := tk }) : wpAny (model prog w) A (pyNext (.ref I)) QQ E s := by
  have seqc : v.seq? H = some its → wpAny (model prog w) A (pyNext (.ref I)) QQ E s := fun es => by
    obtain ⟨l, items, rfl, vv, q⟩ := seq_kind X V es
    have hz := vv.length
    simp only [Array.length_toList] at hz
    rcases q with ⟨eκ, hp⟩ | ⟨eκ, hp⟩
    · rw [eκ] at t
      obtain ⟨l', e', t, hne⟩ := t
      cases e'
      exact (Walks.tuple (prog := prog) (w := w) hh I l hne items).done s _ E ⟨hz ▸ t, hp.isTuple⟩ fun h' tk hkeep => h h' tk fun b o hb eb => hkeep b o (by simpa using hb) eb
    · rw [eκ] at t
      obtain ⟨l', e', t, hne⟩ := t
      cases e'
      exact (Walks.list (prog := prog) (w := w) hh I l hne items).done s _ E ⟨hz ▸ t, PL.isList hp⟩ fun h' tk hkeep => h h' tk fun b o hb eb => hkeep b o (by simpa using hb) eb
  cases v with
  | rng i j st => exact (Walks.range (prog := prog) (w := w) hh I i st its.length).done s _ E t fun h' tk hkeep => h h' tk fun b o hb eb => hkeep b o (by simpa using hb) eb
  | _ => exact seqc (by simpa [iterOf] using e)
end

open PySem PyProof.Rows PySem.SeqAt
section
variable {K : FC} {ρ : List Addr} {loc : Loc} {H : AH} {s : Shared} {h' : Heap} {tk : Nat} {E : Value → Shared → Prop}

/-- protected addresses that are not the frame's own are changed -/
theorem Fr.junk {x' : List Addr} (F : Fr K ρ loc H s) (hb : ∀ b ∈ x', b ∈ K.S.ad) (hk : ∀ c o, c ∉ x' → s.heap.get? c = some o → h'.get? c = some o) (hl : ∀ b ∈ x', ∃ o, h'.get? b = some o)
    (hf : ∀ b ∈ x', b ≠ K.env.locals ∧ (∀ n c, (n, c) ∈ K.env.cells → b ≠ c) ∧ K.s₀.heap.get? b = none) : Fr K ρ loc H { s with heap := h', toks := tk } := by
  have hc : ∀ c o, c ∉ K.S.ad → s.heap.get? c = some o → h'.get? c = some o := fun c o hc e => hk c o (fun q => hc (hb c q)) e
  exact { aok := F.aok, eok := F.eok, nd := F.nd, g0 := F.g0, pp := F.pp, pw := F.pw
          sd := fun a ha => by
            by_cases hx : a ∈ x'
            · exact hl a hx
            · obtain ⟨o, ho⟩ := F.sd a ha; exact ⟨o, hk a o hx ho⟩
          sim := F.sim.chg hc
          fr := F.fr, sub := F.sub, hL := F.hL, hC := F.hC, len := F.len
          ic := by
            obtain ⟨m, cm, I, q⟩ := F.ic
            refine ⟨m, cm, ⟨⟨let ⟨_, _, e⟩ := I.toInCall.same; ⟨h', tk, by rw [e]⟩, I.toInCall.ns.at' fun o e => hk _ o (fun q => (hf _ q).1 rfl) e, fun b o e => hk b o (fun q => by rw [(hf b q).2.2] at e; cases e) (I.toInCall.keep b o e), I.toInCall.fresh⟩, fun n c hc => ?_, I.apart, I.above⟩, fun i x v e1 e2 => let ⟨rv, h1, h2⟩ := q i x v e1 e2; ⟨rv, h1, h2.chg hc⟩⟩
            obtain ⟨o, ho, hd⟩ := I.cell n c hc
            exact ⟨o, hk c o (fun q => (hf c q).2.1 n c (mem_of_lookup hc) rfl) ho, hd⟩
          hh := fun i rv v e1 e2 => (F.hh i rv v e1 e2).chg hc }
/-- the iterables are kept beside the names -/
theorem Fr.hide {vs : List AV} {xs : List Value} (F : Fr K ρ loc H s) (V : VRels K.S ρ s.heap vs xs) : Fr { K with hid := K.hid ++ xs } ρ (loc ++ vs.map some) H s where
  aok := F.aok
  eok := F.eok
  nd := F.nd
  g0 := F.g0
  pp := F.pp
  pw := F.pw
  sd := F.sd
  sim := F.sim
  fr := F.fr
  sub := F.sub
  hL := F.hL
  hC := F.hC
  len := by have := F.len; have := V.length; simp only [List.length_append, List.length_map]; omega
  ic := let ⟨m, cm, I, q⟩ := F.ic; ⟨m, cm, I, fun i x v e1 e2 => q i x v e1 (by
    have hi : i < K.names.length := (List.getElem?_eq_some_iff.mp e1).1
    have := F.len
    rw [List.getElem?_append_left (by omega)] at e2
    exact e2)⟩
  hh := fun i rv v e1 e2 => by
    have hl := F.len
    by_cases hi : i < K.hid.length
    · refine F.hh i rv v (by rw [← e1]; exact (List.getElem?_append_left hi).symm) ?_
      rw [List.getElem?_append_left (by show K.names.length + i < _; omega)] at e2
      exact e2
    · rw [List.getElem?_append_right (Nat.le_of_not_lt hi)] at e1
      rw [List.getElem?_append_right (by show _ ≤ K.names.length + i; omega)] at e2
      have e3 : K.names.length + i - loc.length = i - K.hid.length := by omega
      have e2' : (vs.map some)[i - K.hid.length]?.join = some v := by rw [← e3]; exact e2
      obtain ⟨u, eu, V'⟩ := V.getR e1
      simp [eu] at e2'
      rw [← e2']; exact V'
theorem Fr.unhide {xs : List Value} {loc' : Loc} (F : Fr { K with hid := K.hid ++ xs } ρ loc H s) (hl : loc'.length + xs.length = loc.length) (hg : ∀ i, i < loc'.length → loc'[i]? = loc[i]?) : Fr K ρ loc' H s where
  aok := F.aok
  eok := F.eok
  nd := F.nd
  g0 := F.g0
  pp := F.pp
  pw := F.pw
  sd := F.sd
  sim := F.sim
  fr := F.fr
  sub := F.sub
  hL := F.hL
  hC := F.hC
  len := by have := F.len; simp only [List.length_append] at this; omega
  ic := let ⟨m, cm, I, q⟩ := F.ic; ⟨m, cm, I, fun i x v e1 e2 => q i x v e1 (by
    have hi : i < loc'.length := by
      cases hh : loc'[i]? with
      | none => rw [hh] at e2; cases e2
      | some o => exact (List.getElem?_eq_some_iff.mp hh).1
    rw [← hg i hi]; exact e2)⟩
  hh := fun i rv v e1 e2 => by
    have hi : K.names.length + i < loc'.length := by
      cases hh : loc'[K.names.length + i]? with
      | none => rw [hh] at e2; cases e2
      | some o => exact (List.getElem?_eq_some_iff.mp hh).1
    have hi2 : i < K.hid.length := (List.getElem?_eq_some_iff.mp e1).1
    exact F.hh i rv v (by show (K.hid ++ xs)[i]? = _; rw [List.getElem?_append_left hi2]; exact e1) (by show loc[K.names.length + i]?.join = _; rw [← hg _ hi]; exact e2)
theorem Fr.hidden {xs : List Value} {vs : List AV} {loc' : Loc} (F : Fr { K with hid := K.hid ++ xs } ρ (loc' ++ vs.map some) H s) (hl : loc'.length = K.names.length + K.hid.length) (hl2 : vs.length = xs.length) : VRels K.S ρ s.heap vs xs := by
  refine vrels_of_get hl2 fun j y e => ?_
  have hj : j < vs.length := by rw [hl2]; exact (List.getElem?_eq_some_iff.mp e).1
  refine ⟨vs[j], by simp [hj], F.hh (K.hid.length + j) y vs[j] ?_ ?_⟩
  · show (K.hid ++ xs)[K.hid.length + j]? = _
    rw [List.getElem?_append_right (by omega)]; simpa using e
  · show (loc' ++ vs.map some)[K.names.length + (K.hid.length + j)]?.join = _
    rw [List.getElem?_append_right (by omega)]
    have : K.names.length + (K.hid.length + j) - loc'.length = j := by omega
    rw [this]
    simp [hj]
end
section
variable {P : PC} {l : Lv} {env : Env} {names : List Str} {nt : NT} {n : Nat}

theorem set_app {α : Type} {a b : List α} {i : Nat} {x : α} (h : i < a.length) : (a ++ b).set i x = a.set i x ++ b := by rw [List.set_append_left _ _ h]

theorem next_turn {k m N : Nat} (hkm : k + m = N) (hkn : k < N) : ∃ m', m = m' + 1 :=
  Nat.exists_eq_add_one_of_ne_zero fun q => Nat.lt_irrefl k (by rw [q] at hkm; exact Nat.lt_of_lt_of_le hkn (Nat.le_of_eq hkm.symm))

theorem last_turn {k m N : Nat} (hkm : k + m = N) (hkn : ¬ k < N) : k = N :=
  Nat.le_antisymm (Nat.le_trans (Nat.le_add_right k m) (Nat.le_of_eq hkm)) (Nat.le_of_not_lt hkn)

theorem take_last {α : Type} {l : List α} {c : Nat} (h : c ≤ l.length) : (l.take (l.length - c)).length + c = l.length := by
  rw [List.length_take, Nat.min_eq_left (Nat.sub_le _ _), Nat.sub_add_cancel h]

theorem take_get {α : Type} {l : List α} {k i : Nat} (hi : i < (l.take k).length) : (l.take k)[i]? = l[i]? :=
  List.getElem?_take_of_lt (Nat.lt_of_lt_of_le hi (by rw [List.length_take]; exact Nat.min_le_left _ _))

/-- for x in it -/
theorem for1_ok {x : Str} {i : Nat} {px p : Pos} {it : PySem.Expr} {body : List PySem.Stmt} {c : CE} {b : List CS} (hx : slotOf env.kindOf names x = some i) (hit : compE nt n env.kindOf names it = some c) (ie : EvOk P l env names it c) (ib : StOk P l env names (execs body env) (wpSs P l b)) :
    StOk P l env names (exec (.For (.Name x px) it body [] p) env) (wpS P l (.for1 i c b)) := by
  intro A S₀ s₀ hid S ρ loc H s Qn Qr Qx E Fm hX h
  simp only [q_assign, q_assignT, q_setIdx, q_mut, q_popTo, q_expr, q_ite, q_for1, q_forT, q_while, q_ret, q_pass] at h
  obtain ⟨hq, h⟩ := h
  have hh := Fm.aok.1 hq
  refine wpAny_For (wpAny_mono (ie A S ρ loc H s _ _ E Fm.cx (hX.ex Fm) h) (fun y s₁ hy => ?_) fun _ _ y => y) (fun y => folded_id hit y)
  obtain ⟨h1, tk1, n1, v1, G1, rfl, k1, f1, X1, V1, N, κ, Inv, ⟨v0, loc0, H0, R0, hl0, I0⟩, hI, hN, hB, hE⟩ := hy
  have F1 := Fm.kp (tk := tk1) k1 f1 X1
  have F1' := F1.hide (vs := [v1]) (xs := [y]) (.cons V1 .nil)
  obtain ⟨ρ2, hs2, F2⟩ := F1'.ren R0
  have hlen : loc.length = names.length + hid.length := Fm.len
  have il : i < names.length := by
    unfold slotOf at hx
    split at hx
    · exact (List.getElem?_eq_some_iff.mp (idxOf_get hx)).1
    · cases hx
  have gv : ∀ {ρ' : List Addr} {v' : AV} {loc' : Loc} {H' : AH} {s' : Shared} {S' : Sx}, Fr ⟨P, l, A, env, names, S₀, s₀, hid ++ [y], S'⟩ ρ' (loc' ++ [some v']) H' s' → loc'.length = loc.length → VRel S' ρ' s'.heap v' y := by
    intro ρ' v' loc' H' s' S' F hl
    have := Fr.hidden (K := ⟨P, l, A, env, names, S₀, s₀, hid, S'⟩) (vs := [v']) (xs := [y]) F (by rw [hl]; exact hlen) rfl
    cases this with
    | cons V _ => exact V
  obtain ⟨eκ, its, ei, el⟩ := hI 0 v0 loc0 H0 (Nat.zero_le _) I0
  refine iter_start (s := { s with heap := h1, toks := tk1 }) F2.sim (gv F2 hl0) ei fun I h₂ t0 k₂ hIn => ?_
  rw [el, eκ] at t0
  have F3 := F2.guard (x' := [I]) (tk := tk1) (fun b hb => by simp at hb; subst hb; exact hIn) k₂ (fun b hb => by simp at hb; subst hb; exact t0.alive)
  have hIL : I ≠ env.locals := fun q => by obtain ⟨o, ho⟩ := F2.sd _ F2.hL; rw [← q, hIn] at ho; cases ho
  have hIC : ∀ n c, (n, c) ∈ env.cells → I ≠ c := fun n c hm q => by obtain ⟨o, ho⟩ := F2.sd _ (F2.hC n c hm); rw [← q, hIn] at ho; cases ho
  have hIS : I ∉ S.ad := fun q => by obtain ⟨o, ho⟩ := F2.sd _ q; rw [hIn] at ho; cases ho
  have hI0 : s₀.heap.get? I = none := by
    cases q0 : s₀.heap.get? I with
    | none => rfl
    | some o => have := F2.keep _ _ q0; rw [hIn] at this; cases this
  have m1 : Mvd env ρ s ρ2 { s with heap := h1, toks := tk1 } := (Mvd.kp k1 f1).trans (Mvd.sub' hs2)
  have m2 : Mvd env ρ2 { s with heap := h1, toks := tk1 } ρ2 { s with heap := h₂, toks := tk1 } := Mvd.kp0 k₂
  -- the end of the loop, seen from the frame
  have back : ∀ {ρ' : List Addr} {loc' loc'' : Loc} {H' : AH} {s' : Shared} {h' : Heap} {tk' : Nat}, Fr ⟨P, l, A, env, names, S₀, s₀, hid ++ [y], ⟨S.ad ++ [I], S.prog, S.w⟩⟩ ρ' loc' H' s' → loc''.length + 1 = loc'.length → (∀ i, i < loc''.length → loc''[i]? = loc'[i]?) → (∀ b o, b ≠ I → s'.heap.get? b = some o → h'.get? b = some o) →
      Fr ⟨P, l, A, env, names, S₀, s₀, hid, S⟩ ρ' loc'' H' { s' with heap := h', toks := tk' } := by
    intro ρ' loc' loc'' H' s' h' tk' F hl hg hk
    exact Fr.unhide (K := ⟨P, l, A, env, names, S₀, s₀, hid, S⟩) (xs := [y]) (F.unguard (x' := [I]) (S := S) rfl (fun c o hc e => hk c o (by simpa using hc) e) (fun b hb => by simp at hb; subst hb; exact ⟨hIS, hI0⟩) Fm.sub Fm.hL Fm.hC) hl hg
  let J : Nat → Shared → Prop := fun m s' => ∃ (k : Nat) (ρk : List Addr) (v : AV) (lock : Loc) (Hk : AH), k + m = N ∧ Mvd env ρ2 { s with heap := h1, toks := tk1 } ρk s' ∧ Fr ⟨P, l, A, env, names, S₀, s₀, hid ++ [y], ⟨S.ad ++ [I], S.prog, S.w⟩⟩ ρk (lock ++ [some v]) Hk s' ∧ lock.length = loc.length ∧ Inv k v lock Hk ∧ ItAt s'.heap I y N k κ
  refine codeAny_forLoop J (fun m s' hJ => ?_) N ⟨0, ρ2, v0, loc0, H0, Nat.zero_add N, m2, F3, hl0, I0, t0⟩
  obtain ⟨k, ρk, v, lock, Hk, hkm, mk, Fk, hlk, Ik, tk⟩ := hJ
  obtain ⟨eκ', its', ei', el'⟩ := hI k v lock Hk (Nat.le_trans (Nat.le_add_right k m) (Nat.le_of_eq hkm)) Ik
  have Vk := gv Fk hlk
  have hIr : I ∉ ρk := fun q => Fk.sim.off I q (List.mem_append_right _ (List.mem_singleton.mpr rfl))
  obtain ⟨hs', tks', es'⟩ := mk.same
  by_cases hkn : k < N
  · obtain ⟨u, eu⟩ : ∃ u, its'[k]? = some u := ⟨its'[k]'(Nat.lt_of_lt_of_le hkn (Nat.le_of_eq el'.symm)), List.getElem?_eq_getElem _⟩
    refine iter_item hh Fk.sim Vk ei' eu (by rw [el', eκ']; exact tk) fun z h3 tk3 Vu t3 hk3 => ?_
    rw [el', eκ'] at t3
    have Fk3 := Fk.junk (x' := [I]) (h' := h3) (tk := tk3) (fun b hb => List.mem_append_right _ hb) (fun c o hc e => hk3 c o (by simpa using hc) e) (fun b hb => by simp at hb; subst hb; exact t3.alive) (fun b hb => by simp at hb; subst hb; exact ⟨hIL, hIC, hI0⟩)
    have mk3 : Mvd env ρ2 { s with heap := h1, toks := tk1 } ρk { s' with heap := h3, toks := tk3 } := mk.junk (x' := [I]) (fun c o hc e => hk3 c o (by simpa using hc) e) fun b hb => by simp at hb; subst hb; exact hIn
    have Vu3 : VRel ⟨S.ad ++ [I], S.prog, S.w⟩ ρk h3 u z := Vu.mono2 fun b o _ hb e => hk3 b o (fun q => hb (List.mem_append_right _ (by simp [q]))) e
    refine wpAny_assign_Name (wpAny_mono (store_ok Fk3 hx Vu3) (fun _ s4 h4 => ?_) fun _ _ y => y)
    obtain ⟨m4, F4⟩ := h4
    rw [set_app (Nat.lt_of_lt_of_le il (Nat.le_trans (Nat.le_add_right _ _) (Nat.le_of_eq (hlk.trans hlen).symm)))] at F4
    refine wpAny_mono (ib A S₀ s₀ (hid ++ [y]) _ ρk _ Hk s4 _ Qr _ _ F4 xOk_any (hB k v lock Hk its' u hkn hlk Ik ei' eu)) (fun f s5 hf => ?_) fun _ _ y => y
    cases f with
    | next =>
      obtain ⟨ρ5, loc5, H5, m5, F5, v6, loc6, H6, R6, hl6, I6⟩ := hf
      obtain ⟨ρ6, hs6, F6⟩ := F5.ren R6
      obtain ⟨m', rfl⟩ := next_turn hkm hkn
      refine ⟨m', Nat.lt_succ_self _, k + 1, ρ6, v6, loc6, H6, (Nat.succ_add_eq_add_succ k m').trans hkm, ((mk3.trans m4).trans m5).trans (Mvd.sub' hs6), F6, hl6, I6, ?_⟩
      exact t3.at fun o e => m5.mv I o hIL hIC hIr (m4.mv I o hIL hIC hIr e)
    | ret rv =>
      obtain ⟨ρ5, loc5, H5, v5, m5, F5, V5, q5⟩ := hf
      have hl5 : loc5.length = names.length + (hid ++ [y]).length := F5.len
      rw [List.length_append, ← Nat.add_assoc] at hl5
      have F7 := back (loc'' := loc5.take (loc5.length - 1)) (h' := s5.heap) (tk' := s5.toks) F5 (take_last (hl5 ▸ Nat.le_add_left _ _)) (fun i hi => take_get hi) (fun b o _ e => e)
      refine ⟨ρ5, _, H5, v5, m1.trans ((mk3.trans m4).trans m5), F7, ?_, q5⟩
      exact VRel.sub (S := S) (S' := ⟨S.ad ++ [I], S.prog, S.w⟩) rfl rfl (fun b hb => List.mem_append_left _ hb) V5
    | _ => exact hf.elim
  · have hkN : k = N := last_turn hkm hkn
    subst hkN
    refine iter_done hh Fk.sim Vk ei' (by rw [el', eκ']; exact tk) fun h3 tk3 hk3 => ?_
    refine wpAny_execs_nil ?_
    have F7 := back (loc'' := lock) (h' := h3) (tk' := tk3) Fk (by rw [List.length_append]; rfl) (fun i hi => (List.getElem?_append_left hi).symm) hk3
    exact ⟨ρk, lock, Hk, m1.trans (mk.junk (x' := [I]) (fun c o hc e => hk3 c o (by simpa using hc) e) fun b hb => by simp at hb; subst hb; exact hIn), F7, hE v lock Hk Ik⟩

end

open PySem PyProof.Rows PySem.SeqAt

/-- an iterator of enumerate or zip at its place -/
noncomputable def TAt (h : Heap) (J : Addr) (aux : List Addr) (xs : List Value) (k : Nat) : It → Prop
  | .enumerate => ∃ it l old, aux = [J, it] ∧ xs = [.ref l] ∧ IsEnum h J it (k : Int) old ∧ h.IsListIter it l k ∧ J ≠ it ∧ l ≠ J ∧ l ≠ it
  | .zip => False
  | .rows => False
theorem TAt.at {h h' : Heap} {J : Addr} {aux : List Addr} {xs : List Value} {k : Nat} {kd : It} (t : TAt h J aux xs k kd) (hk : ∀ b ∈ aux, ∀ o, h.get? b = some o → h'.get? b = some o) : TAt h' J aux xs k kd := by
  cases kd with
  | enumerate =>
    obtain ⟨it, l, old, rfl, rfl, he, hi, r⟩ := t
    exact ⟨it, l, old, rfl, rfl, hk J (by simp) _ he, hi.at fun o e => hk it (by simp) o e, r⟩
  | zip => exact False.elim t
  | rows => exact t.elim
theorem TAt.alive {h : Heap} {J : Addr} {aux : List Addr} {xs : List Value} {k : Nat} {kd : It} (t : TAt h J aux xs k kd) : ∀ b ∈ aux, ∃ o, h.get? b = some o := by
  intro b hb
  cases kd with
  | enumerate =>
    obtain ⟨it, l, old, rfl, rfl, he, ⟨o, hi, _⟩, r⟩ := t
    simp at hb
    rcases hb with rfl | rfl
    · exact ⟨_, he⟩
    · exact ⟨_, hi⟩
  | zip => exact False.elim t
  | rows => exact t.elim
noncomputable def It.val : It → Value
  | .enumerate => .type "enumerate"
  | _ => .type "zip"
section
variable {prog : Program} {w : World} {A : Around} {S : Sx} {ρ : List Addr} {H : AH} {s : Shared} {E : Value → Shared → Prop} {vs : List AV} {xs : List Value} {its : List (List AV)} {kd : It}

theorem turns_enum {H : AH} {vs : List AV} {its : List (List AV)} (e : turnsOf H .enumerate vs = some its) : ∃ v ws, vs = [v] ∧ v.items? H = some ws ∧ (ws.zipIdx.map fun p => [AV.int (p.2 : Int), p.1]) = its := by
  rcases vs with _ | ⟨v, _ | ⟨u, r⟩⟩
  · cases e
  · obtain ⟨ws, ew, eu⟩ := Option.map_eq_some_iff.mp e
    exact ⟨v, ws, rfl, ew, eu⟩
  · cases e
theorem tat_start {QQ : Value → Shared → Prop} (X : HSim S ρ H s.heap) (V : VRels S ρ s.heap vs xs) (e : turnsOf H kd vs = some its)
    (h : ∀ J aux h', TAt h' J aux xs 0 kd → Kp s.heap h' → (∀ b ∈ aux, s.heap.get? b = none) → wpAny (model prog w) A (pyIter (.ref J)) QQ E { s with heap := h' }) :
    wpAny (model prog w) A (call kd.val xs) (fun v s₁ => wpAny (model prog w) A (pyIter v) QQ E s₁) E s := by
  have nn : ∀ j, s.heap.objs.size ≤ j → s.heap.get? j = none := fun j hj => Heap.get?_none_of_le hj
  cases kd with
  | enumerate =>
    obtain ⟨v, ws, ev, ew, eu⟩ := turns_enum e
    subst ev
    obtain ⟨y, ey, V'⟩ := V.of1
    clear V
    cases ey
    have V := V'
    · skip
      obtain ⟨l, items, rfl, hp, vv⟩ := items_real X V ew
      have hlt : l < s.heap.objs.size := by obtain ⟨m, hl⟩ := hp; exact Heap.lt_size hl
      refine call_enumerate_list (PL.isList hp) fun h' he hi hsz hk => h _ [s.heap.objs.size + 1, s.heap.objs.size] h' ⟨_, l, .none, rfl, rfl, he, hi, Nat.succ_ne_self _, Nat.ne_of_lt (Nat.lt_succ_of_lt hlt), Nat.ne_of_lt hlt⟩ hk fun b hb => ?_
      simp at hb
      rcases hb with rfl | rfl <;> exact nn _ (by omega)
  | zip => cases e
  | rows => simp [turnsOf] at e

theorem tat_self {J : Addr} {aux : List Addr} {k : Nat} {QQ : Value → Shared → Prop} (hh : A.handled = none) (X : HSim S ρ H s.heap) (V : VRels S ρ s.heap vs xs) (e : turnsOf H kd vs = some its) (t : TAt s.heap J aux xs k kd) (h : QQ (.ref J) s) : wpAny (model prog w) A (pyIter (.ref J)) QQ E s := by
  cases kd with
  | enumerate =>
    obtain ⟨it, l, old, rfl, rfl, he, hi, n1, n2, n3⟩ := t
    obtain ⟨v, ws, ev, ew, eu⟩ := turns_enum e
    subst ev
    obtain ⟨y, ey, V'⟩ := V.of1
    clear V
    cases ey
    have V := V'
    · skip
      obtain ⟨l', items, el, hp, vv⟩ := items_real X V ew
      cases el
      exact (WalksT.enumerate (prog := prog) (w := w) hh J it l n1 n2 n3 items).self k s _ E ⟨⟨old, he⟩, hi, PL.isList hp⟩ h
  | zip => exact False.elim t
  | rows => exact t.elim

theorem tat_item {J : Addr} {aux : List Addr} {k kk : Nat} {us : List AV} {elts : List PySem.Expr} {pos : Pos} {QQ : Value → Shared → Prop} (hh : A.handled = none) (X : HSim S ρ H s.heap) (V : VRels S ρ s.heap vs xs) (e : turnsOf H kd vs = some its) (ei : its[k]? = some us) (t : TAt s.heap J aux xs k kd)
    (h : ∀ T ys h' tk, h'.IsTuple T ys → VRels S ρ s.heap us ys.toList → TAt h' J aux xs (k + 1) kd → (∀ b o, b ∉ aux → s.heap.get? b = some o → h'.get? b = some o) → QQ (.ref T) { s with heap := h', toks := tk }) :
    wpAny (model prog w) A (pyNext (.ref J)) (fun r s₁ => ∃ v, r = some v ∧ wpAny (model prog w) A (letOwnedTupleGo (.Tuple elts kk pos) (.ref J) v) (fun _ s₂ => QQ v s₂) E s₁) E s := by
  cases kd with
  | enumerate =>
    obtain ⟨it, l, old, rfl, rfl, he, hi, n1, n2, n3⟩ := t
    obtain ⟨v, ws, ev, ew, eu⟩ := turns_enum e
    subst ev eu
    obtain ⟨y, ey, V'⟩ := V.of1
    clear V
    cases ey
    have V := V'
    · skip
      obtain ⟨l', items, el, hp, vv⟩ := items_real X V ew
      cases el
      have hz := vv.length
      simp only [Array.length_toList] at hz
      simp only [List.getElem?_map, Option.map_eq_some_iff, List.getElem?_zipIdx] at ei
      obtain ⟨⟨a, j⟩, ⟨c, ec, eq1⟩, rfl⟩ := ei
      cases eq1
      have hk : k < items.size := by rw [← hz]; exact (List.getElem?_eq_some_iff.mp ec).1
      have W := WalksT.enumerate (prog := prog) (w := w) hh J it l n1 n2 n3 items
      refine W.item k s _ E hk ⟨⟨old, he⟩, hi, PL.isList hp⟩ fun T vals h' tk hv _ hT hM hk' => ⟨.ref T, rfl, W.go elts kk pos k T _ _ E hM fun h2 st2 hk2 => ?_⟩
      obtain ⟨t, x, ex, rfl⟩ := hv
      obtain ⟨o, ho, r⟩ := hT
      obtain ⟨u', eu', Vu⟩ := vv.getR (by simpa using ex)
      rw [ec] at eu'; cases eu'
      obtain ⟨⟨old2, he2⟩, hi2, hl2⟩ := st2
      refine h T _ h2 tk ⟨o, hk2 T o (W.apart _ _ _ hM) ho, r⟩ (.cons ?_ (.cons Vu .nil)) ⟨it, l, old2, rfl, rfl, ?_, hi2, n1, n2, n3⟩ (fun b o hb e => hk2 b o hb (hk' b o hb e))
      · simpa using VRel.int (S := S) (ρ := ρ) (h := s.heap) (k : Int) t
      · simpa using he2
  | zip => exact False.elim t
  | rows => exact t.elim

theorem tat_done {J : Addr} {aux : List Addr} {QQ : Option Value → Shared → Prop} (hh : A.handled = none) (X : HSim S ρ H s.heap) (V : VRels S ρ s.heap vs xs) (e : turnsOf H kd vs = some its) (t : TAt s.heap J aux xs its.length kd)
    (h : ∀ h' tk, (∀ b o, b ∉ aux → s.heap.get? b = some o → h'.get? b = some o) → QQ none { s with heap := h', toks := tk }) : wpAny (model prog w) A (pyNext (.ref J)) QQ E s := by
  cases kd with
  | enumerate =>
    obtain ⟨it, l, old, rfl, rfl, he, hi, n1, n2, n3⟩ := t
    obtain ⟨v, ws, ev, ew, eu⟩ := turns_enum e
    subst ev eu
    obtain ⟨y, ey, V'⟩ := V.of1
    clear V
    cases ey
    have V := V'
    · skip
      obtain ⟨l', items, el, hp, vv⟩ := items_real X V ew
      cases el
      have hz := vv.length
      simp only [Array.length_toList] at hz
      simp only [List.length_map, List.length_zipIdx, hz] at he hi
      exact (WalksT.enumerate (prog := prog) (w := w) hh J it l n1 n2 n3 items).done s _ E ⟨⟨old, he⟩, hi, PL.isList hp⟩ fun h' tk hk => h h' tk hk
  | zip => exact False.elim t
  | rows => exact t.elim
end

open PySem PyProof.Rows PySem.SeqAt
section
variable {P : PC} {l : Lv} {env : Env} {names : List Str} {nt : NT} {n : Nat}

theorem two_lt {i j q n : Nat} (h1 : i < n) (h2 : j < n) (hq : q ∈ [i, j]) : q < n := by
  rcases List.mem_cons.mp hq with rfl | hq
  · exact h1
  · rw [List.mem_singleton.mp hq]; exact h2
theorem slot_lt {kd : Str → Option NameKind} {x : Str} {i : Nat} (hx : slotOf kd names x = some i) : i < names.length := by
  unfold slotOf at hx
  split at hx
  · exact (List.getElem?_eq_some_iff.mp (idxOf_get hx)).1
  · cases hx
theorem setAll_app {a b : Loc} : ∀ {xs : List Nat} {vs : List AV} {a : Loc}, (∀ i ∈ xs, i < a.length) → setAll (a ++ b) xs vs = setAll a xs vs ++ b
  | [], _, _, _ => rfl
  | x :: xs, [], _, _ => rfl
  | x :: xs, v :: vs, a, h => by
    simp only [setAll_cons]
    rw [set_app (h x (.head _))]
    exact setAll_app (a := a) fun i hi => by simpa using h i (.tail _ hi)
theorem turns_len {H : AH} {kd : It} {vs : List AV} {its : List (List AV)} (h : turnsOf H kd vs = some its) : (kd = .enumerate ∧ vs.length = 1) ∨ (kd = .zip ∧ vs.length = 2) := by
  cases kd with
  | enumerate => obtain ⟨_, _, rfl, _⟩ := turns_enum h; exact .inl ⟨rfl, rfl⟩
  | zip => cases h
  | rows => cases h
theorem turns_two {H : AH} {kd : It} {vs us : List AV} {its : List (List AV)} {k : Nat} (h : turnsOf H kd vs = some its) (e : its[k]? = some us) : us.length = 2 := by
  cases kd with
  | enumerate =>
    obtain ⟨_, _, _, _, rfl⟩ := turns_enum h
    simp only [List.getElem?_map, Option.map_eq_some_iff] at e
    obtain ⟨_, _, rfl⟩ := e; rfl
  | zip => cases h
  | rows => cases h

/-- for x, y in enumerate(..), zip(..) -/
theorem forT_ok (ho : EnvOk env) {kd : It} {f : Str} {x y : Str} {i j kk : Nat} {px py pt pf pc p : Pos} {args : List PySem.Expr} {body : List PySem.Stmt} {cs : List CE} {b : List CS} (hx : slotOf env.kindOf names x = some i) (hy : slotOf env.kindOf names y = some j)
    (hg : isGlob env.kindOf f = true) (hf : biOf f = some kd.val) (ih : ∀ (e : PySem.Expr) (c : CE), compE nt n env.kindOf names e = some c → EvOk P l env names e c) (ha : allSome (args.map (compE nt n env.kindOf names)) = some cs)
    (hcs : (kd = .enumerate ∧ cs.length = 1) ∨ (kd = .zip ∧ cs.length = 2)) (ib : StOk P l env names (execs body env) (wpSs P l b)) :
    StOk P l env names (exec (.For (.Tuple [.Name x px, .Name y py] kk pt) (.Call (.Name f pf) args [] pc) body [] p) env) (wpS P l (.forT [i, j] kd cs b)) := by
  intro A S₀ s₀ hid S ρ loc H s Qn Qr Qx E Fm hX h
  simp only [q_assign, q_assignT, q_setIdx, q_mut, q_popTo, q_expr, q_ite, q_for1, q_forT, q_while, q_ret, q_pass] at h
  obtain ⟨hq, h⟩ := h
  have hh := Fm.aok.1 hq
  have hlen : loc.length = names.length + hid.length := Fm.len
  cases args with
  | nil => cases ha; rcases hcs with ⟨_, q⟩ | ⟨_, q⟩ <;> simp at q
  | cons e0 r0 =>
  obtain ⟨c0, t0, e1, e2, rfl⟩ := allSome_cons ha
  refine wpAny_For ?_ (fun y => rfl)
  refine Call_ (bi_ok ho Fm.cx.gok hg hf ?_)
  have fin : wpAny (model P.prog P.w) A (spliced (backTo pc (starEach (e0 :: r0) env))) (fun xs s₁ => wpAny (model P.prog P.w) A (call kd.val xs) (fun z s₁ => wpAny (model P.prog P.w) A (pyIter z) (fun it s₂ => codeAny (model P.prog P.w) A (.forLoop (.Tuple [.Name x px, .Name y py] kk pt) it body [] env)
      (fun r s' => match r with | .ok f => SP ⟨P, l, A, env, names, S₀, s₀, hid, S⟩ ρ s Qn Qr f s' | .error e => cameBackBy (model P.prog P.w) A env E e s') s₂) E s₁) E s₁) E s := by
    refine wpAny_mono (args_ok ih (e0 :: r0) (c0 :: t0) ha Fm.cx (hX.ex Fm) h) (fun xs s₁ hxs => ?_) fun _ _ y => y
    obtain ⟨h1, tk1, n1, vs1, G1, rfl, k1, f1, X1, V1, N, Inv, ⟨vs0, loc0, H0, R0, hl0, hv0, I0⟩, hI, hN, hB, hE⟩ := hxs
    have F1 := Fm.kp (tk := tk1) k1 f1 X1
    have F1' := F1.hide V1
    obtain ⟨ρ2, hs2, F2⟩ := F1'.ren R0
    have hxl : xs.length = vs1.length := V1.length.symm
    obtain ⟨its, ei, el⟩ := hI 0 vs0 loc0 H0 (Nat.zero_le _) I0
    have hcl : (c0 :: t0).length = xs.length := by
      rcases turns_len ei with ⟨q1, q2⟩ | ⟨q1, q2⟩ <;> rcases hcs with ⟨q3, q4⟩ | ⟨q3, q4⟩
      · exact q4.trans (q2.symm.trans (hv0.trans hxl.symm))
      · rw [q1] at q3; cases q3
      · rw [q1] at q3; cases q3
      · exact q4.trans (q2.symm.trans (hv0.trans hxl.symm))
    have gv : ∀ {ρ' : List Addr} {vs' : List AV} {loc' : Loc} {H' : AH} {s' : Shared} {S' : Sx}, Fr ⟨P, l, A, env, names, S₀, s₀, hid ++ xs, S'⟩ ρ' (loc' ++ vs'.map some) H' s' → loc'.length = loc.length → vs'.length = xs.length → VRels S' ρ' s'.heap vs' xs := by
      intro ρ' v' loc' H' s' S' F hl hl2
      exact Fr.hidden (K := ⟨P, l, A, env, names, S₀, s₀, hid, S'⟩) F (by rw [hl]; exact hlen) hl2
    have V0 := gv F2 hl0 (hv0.trans hxl.symm)
    refine tat_start (s := { s with heap := h1, toks := tk1 }) F2.sim V0 ei fun J aux h₂ t0' k₂ hJn => ?_
    have F3 := F2.guard (x' := aux) (tk := tk1) hJn k₂ t0'.alive
    have hx1 : ∀ b ∈ aux, b ≠ env.locals := fun b hb q => by obtain ⟨o, ho⟩ := F2.sd _ F2.hL; rw [← q, hJn b hb] at ho; cases ho
    have hx2 : ∀ b ∈ aux, ∀ n c, (n, c) ∈ env.cells → b ≠ c := fun b hb n c hm q => by obtain ⟨o, ho⟩ := F2.sd _ (F2.hC n c hm); rw [← q, hJn b hb] at ho; cases ho
    have hx3 : ∀ b ∈ aux, b ∉ S.ad := fun b hb q => by obtain ⟨o, ho⟩ := F2.sd _ q; rw [hJn b hb] at ho; cases ho
    have hx4 : ∀ b ∈ aux, s₀.heap.get? b = none := fun b hb => by
      cases q0 : s₀.heap.get? b with
      | none => rfl
      | some o => have := F2.keep _ _ q0; rw [hJn b hb] at this; cases this
    have m1 : Mvd env ρ s ρ2 { s with heap := h1, toks := tk1 } := (Mvd.kp k1 f1).trans (Mvd.sub' hs2)
    have m2 : Mvd env ρ2 { s with heap := h1, toks := tk1 } ρ2 { s with heap := h₂, toks := tk1 } := Mvd.kp0 k₂
    have back : ∀ {ρ' : List Addr} {loc' loc'' : Loc} {H' : AH} {s' : Shared} {h' : Heap} {tk' : Nat}, Fr ⟨P, l, A, env, names, S₀, s₀, hid ++ xs, ⟨S.ad ++ aux, S.prog, S.w⟩⟩ ρ' loc' H' s' → loc''.length + xs.length = loc'.length → (∀ i, i < loc''.length → loc''[i]? = loc'[i]?) → (∀ b o, b ∉ aux → s'.heap.get? b = some o → h'.get? b = some o) →
        Fr ⟨P, l, A, env, names, S₀, s₀, hid, S⟩ ρ' loc'' H' { s' with heap := h', toks := tk' } := by
      intro ρ' loc' loc'' H' s' h' tk' F hl hg hk
      exact Fr.unhide (K := ⟨P, l, A, env, names, S₀, s₀, hid, S⟩) (xs := xs) (F.unguard (x' := aux) (S := S) rfl hk (fun b hb => ⟨hx3 b hb, hx4 b hb⟩) Fm.sub Fm.hL Fm.hC) hl hg
    let JJ : Nat → Shared → Prop := fun m s' => ∃ (k : Nat) (ρk : List Addr) (vs : List AV) (lock : Loc) (Hk : AH), k + m = N ∧ Mvd env ρ2 { s with heap := h1, toks := tk1 } ρk s' ∧ Fr ⟨P, l, A, env, names, S₀, s₀, hid ++ xs, ⟨S.ad ++ aux, S.prog, S.w⟩⟩ ρk (lock ++ vs.map some) Hk s' ∧ lock.length = loc.length ∧ vs.length = xs.length ∧ Inv k vs lock Hk ∧ TAt s'.heap J aux xs k kd
    refine tat_self hh F3.sim (gv F3 hl0 (hv0.trans hxl.symm)) ei t0' ?_
    refine codeAny_forLoop_any JJ (fun m s' hJ => ?_) N ⟨0, ρ2, vs0, loc0, H0, Nat.zero_add N, m2, F3, hl0, hv0.trans hxl.symm, I0, t0'⟩
    obtain ⟨k, ρk, vs, lock, Hk, hkm, mk, Fk, hlk, hvk, Ik, tk⟩ := hJ
    obtain ⟨its', ei', el'⟩ := hI k vs lock Hk (Nat.le_trans (Nat.le_add_right k m) (Nat.le_of_eq hkm)) Ik
    have Vk := gv Fk hlk hvk
    have hJr : ∀ b ∈ aux, b ∉ ρk := fun b hb q => Fk.sim.off b q (List.mem_append_right _ hb)
    by_cases hkn : k < N
    · obtain ⟨us, eu⟩ : ∃ us, its'[k]? = some us := ⟨its'[k]'(Nat.lt_of_lt_of_le hkn (Nat.le_of_eq el'.symm)), List.getElem?_eq_getElem _⟩
      obtain ⟨hul, hw⟩ := hB k vs lock Hk its' us hkn hlk Ik ei' eu
      refine wpAny_mono (tat_item (elts := [.Name x px, .Name y py]) (kk := kk) (pos := pt) (QQ := fun v s₂ => wpAny (model P.prog P.w) A (assign (.Tuple [.Name x px, .Name y py] kk pt) env v) (fun _ s₂ => wpAny (model P.prog P.w) A (execs body env) (fun f s₃ => match f with
          | .next | .cont => ∃ m', m' < m ∧ JJ m' s₃
          | .brk => SP ⟨P, l, A, env, names, S₀, s₀, hid, S⟩ ρ s Qn Qr .next s₃
          | .ret v => SP ⟨P, l, A, env, names, S₀, s₀, hid, S⟩ ρ s Qn Qr (.ret v) s₃) (notedBy (model P.prog P.w) A env fun e s' => cameBackBy (model P.prog P.w) A env E e s') s₂) (notedBy (model P.prog P.w) A env fun e s' => cameBackBy (model P.prog P.w) A env E e s') s₂) hh Fk.sim Vk ei' eu tk fun T ys h3 tk3 hT Vu t3 hk3 => ?_) (fun r s₁ hr => ?_) fun _ _ y => y
      · have Fk3 := Fk.junk (x' := aux) (h' := h3) (tk := tk3) (fun b hb => List.mem_append_right _ hb) hk3 t3.alive (fun b hb => ⟨hx1 b hb, hx2 b hb, hx4 b hb⟩)
        have mk3 : Mvd env ρ2 { s with heap := h1, toks := tk1 } ρk { s' with heap := h3, toks := tk3 } := mk.junk (x' := aux) hk3 hJn
        have Vu3 : VRels ⟨S.ad ++ aux, S.prog, S.w⟩ ρk h3 us ys.toList := Vu.mono2 fun b o _ hb e => hk3 b o (fun q => hb (List.mem_append_right _ q)) e
        have hyl : ys.size = 2 := by have := Vu3.length; rw [turns_two ei' eu] at this; simpa using this.symm
        have hall : allSome ([PySem.Expr.Name x px, .Name y py].map fun e => (nameOf e).bind (slotOf env.kindOf names)) = some [i, j] := by
          simp [nameOf_name, hx, hy, allSome]
        have hm := each_map (env := env) (names := names) _ _ hall
        refine wpAny_assign_Tuple hh hT (by rw [hm.1]; simp [hyl]) hm.2 fun h4 he4 => ?_
        have k4 : Kp h3 h4 := fun b o e => he4 b o (fun q => by rw [q] at e; have := Heap.lt_size e; exact Nat.lt_irrefl _ this) e
        have Fk4 := Fk3.kp0 (tk := tk3) k4
        refine wpAny_mono (stores_ok (K := ⟨P, l, A, env, names, S₀, s₀, hid ++ xs, ⟨S.ad ++ aux, S.prog, S.w⟩⟩) _ [i, j] us ys.toList hall (Vu3.kp0 k4) (turns_two ei' eu) Fk4) (fun _ s5 h5 => ?_) fun _ _ y => y
        obtain ⟨m5, F5⟩ := h5
        have m45 : Mvd env ρk { s' with heap := h3, toks := tk3 } ρk s5 := (Mvd.kp0 (s := { s' with heap := h3, toks := tk3 }) k4).trans m5
        rw [setAll_app (a := lock) (fun q hq => Nat.lt_of_lt_of_le (two_lt (slot_lt hx) (slot_lt hy) hq) (Nat.le_trans (Nat.le_add_right _ _) (Nat.le_of_eq (hlk.trans hlen).symm)))] at F5
        refine wpAny_mono (ib A S₀ s₀ (hid ++ xs) _ ρk _ Hk s5 _ Qr _ _ F5 xOk_any hw) (fun f s6 hf => ?_) fun _ _ y => y
        cases f with
        | next =>
          obtain ⟨ρ6, loc6, H6, m6, F6, vs7, loc7, H7, R7, hl7, hv7, I7⟩ := hf
          obtain ⟨ρ7, hs7, F7⟩ := F6.ren R7
          obtain ⟨m', rfl⟩ := next_turn hkm hkn
          refine ⟨m', Nat.lt_succ_self _, k + 1, ρ7, vs7, loc7, H7, (Nat.succ_add_eq_add_succ k m').trans hkm, ((mk3.trans m45).trans m6).trans (Mvd.sub' hs7), F7, hl7, hv7.trans hcl, I7, ?_⟩
          exact t3.at fun b hb o e => m6.mv b o (hx1 b hb) (hx2 b hb) (hJr b hb) (m45.mv b o (hx1 b hb) (hx2 b hb) (hJr b hb) e)
        | ret rv =>
          obtain ⟨ρ6, loc6, H6, v6, m6, F6, V6, q6⟩ := hf
          have hl6 : loc6.length = names.length + (hid ++ xs).length := F6.len
          rw [List.length_append, ← Nat.add_assoc] at hl6
          have F8 := back (loc'' := loc6.take (loc6.length - xs.length)) (h' := s6.heap) (tk' := s6.toks) F6 (take_last (hl6 ▸ Nat.le_add_left _ _)) (fun i hi => take_get hi) (fun b o _ e => e)
          refine ⟨ρ6, _, H6, v6, m1.trans ((mk3.trans m45).trans m6), F8, ?_, q6⟩
          exact VRel.sub (S := S) (S' := ⟨S.ad ++ aux, S.prog, S.w⟩) rfl rfl (fun b hb => List.mem_append_left _ hb) V6
        | _ => exact hf.elim
      · obtain ⟨v, rfl, hr⟩ := hr
        exact hr
    · have hkN : k = N := last_turn hkm hkn
      subst hkN
      refine tat_done hh Fk.sim Vk ei' (by rw [el']; exact tk) fun h3 tk3 hk3 => ?_
      refine wpAny_execs_nil ?_
      have F8 := back (loc'' := lock) (h' := h3) (tk' := tk3) Fk (by rw [List.length_append, List.length_map, hvk]) (fun i hi => (List.getElem?_append_left hi).symm) hk3
      exact ⟨ρk, lock, Hk, m1.trans (mk.junk (x' := aux) hk3 hJn), F8, hE vs lock Hk Ik⟩
  have hp := star_any (env := env) (pos := pc) r0 t0 e2
  cases kd with
  | enumerate => exact PyProof.Rows.callWith_type1 fin (not_starred e1 r0) hp
  | zip => exact PyProof.Rows.callWith_type1 fin (not_starred e1 r0) hp
  | rows => rcases hcs with ⟨q, _⟩ | ⟨q, _⟩ <;> cases q
end

open PySem PyProof.Rows PySem.SeqAt
section
variable {P : PC} {l : Lv} {env : Env} {names : List Str} {nt : NT} {n : Nat}

/-- x = e, whatever e is -/
theorem assign_any_ok (ho : EnvOk env) {x : Str} {i : Nat} {v : PySem.Expr} {px p : Pos} {c : CE} (hx : slotOf env.kindOf names x = some i)
    (ih : ∀ (n : Nat) (env : Env) (names : List Str), EnvOk env → ∀ (e : PySem.Expr) (c : CE), compE nt n env.kindOf names e = some c → EvOk P l env names e c ∧ TrOk P l env names e c) (hv : compE nt n env.kindOf names v = some c) :
    StOk P l env names (exec (.Assign [.Name x px] v p) env) (wpS P l (.assign i c)) := by
  have ie := (ih n env names ho v c hv).1
  by_cases hc : isComp v = true
  · cases n with
    | zero => cases hv
    | succ n =>
    cases v <;> first | (cases hc; done) | skip
    · -- a list's comprehension
      rename_i elt gens scope pos
      have hs : ∃ b, swapsWith (.ListComp elt gens scope pos) (some (.Name x px)) p.line env = pure b := ⟨_, rfl⟩
      obtain ⟨b, hs⟩ := hs
      cases b with
      | false => exact assign_ok ho hx ie hs
      | true =>
        obtain ⟨g, e0, h1⟩ := Option.bind_eq_some_iff.mp hv
        obtain ⟨c1, e1, h1⟩ := Option.bind_eq_some_iff.mp h1
        obtain ⟨cap, e2, h1⟩ := Option.bind_eq_some_iff.mp h1
        obtain ⟨c2, e3, h1⟩ := Option.bind_eq_some_iff.mp h1
        obtain ⟨l1, e4, h1⟩ := Option.bind_eq_some_iff.mp h1
        clear hv ie
        obtain ⟨rfl, htg, hnd⟩ := genOf_some e0
        split at h1
        · rename_i hc
          cases h1
          simp only [Bool.and_eq_true, decide_eq_true_eq] at hc
          exact assign_comp_ok ho hx (ih n) e1 e2 e3 e4 hc.1 htg hnd hc.2 hs
        · cases h1
    · cases hv
    · cases hv
  · exact assign_ok ho hx ie (swaps_false (by simpa using hc))

/-- every statement that is compiled runs as its form says -/
theorem stmt_ok (hnt : P.nt = nt) (ho : EnvOk env) : ∀ (n : Nat) (st : PySem.Stmt) (c : CS), compS nt n env.kindOf names st = some c → StOk P l env names (exec st env) (wpS P l c)
  | 0, _, _, h => by cases h
  | n + 1, st, c, h => by
    have ih := stmt_ok hnt ho n
    have ie0 := fun n env names ho => expr_ok (P := P) (l := l) hnt n env names ho
    have ie : ∀ (e : PySem.Expr) (c : CE), compE nt n env.kindOf names e = some c → EvOk P l env names e c := fun e c h => (ie0 n env names ho e c h).1
    have it : ∀ (e : PySem.Expr) (c : CE), compE nt n env.kindOf names e = some c → TrOk P l env names e c := fun e c h => (ie0 n env names ho e c h).2
    have ib := fun b cs h => seq_ok (P := P) (l := l) ih b cs h
    cases st with
    | Pass p => cases h; exact pass_ok
    | Return e p =>
      obtain ⟨e, rfl, h⟩ := Option.bind_eq_some_iff.mp h
      obtain ⟨c1, e1, rfl⟩ := Option.map_eq_some_iff.mp h
      exact ret_ok (ie e c1 e1)
    | If t a b p =>
      obtain ⟨c1, e1, h⟩ := Option.bind_eq_some_iff.mp h
      obtain ⟨x, e2, h⟩ := Option.bind_eq_some_iff.mp h
      obtain ⟨y, e3, h⟩ := Option.bind_eq_some_iff.mp h
      cases h
      exact if_ok (it t c1 e1) (ib a x e2) (ib b y e3)
    | For t itr body els p =>
      rcases els with _ | ⟨a, r⟩
      · replace h : compFor (compE nt n env.kindOf names) (compS nt n env.kindOf names) env.kindOf names t itr body = some c := h
        unfold compFor at h
        cases hn : nameOf t with
        | some x =>
          simp only [hn] at h
          obtain ⟨px, rfl⟩ := nameOf_some hn
          obtain ⟨i, e1, h⟩ := Option.bind_eq_some_iff.mp h
          obtain ⟨c1, e2, h⟩ := Option.bind_eq_some_iff.mp h
          obtain ⟨b, e3, h⟩ := Option.bind_eq_some_iff.mp h
          cases h
          exact for1_ok e1 e2 (ie itr c1 e2) (ib body b e3)
        | none =>
          simp only [hn] at h
          obtain ⟨xy, g1, h2⟩ := Option.bind_eq_some_iff.mp h
          obtain ⟨fa, g2, h3⟩ := Option.bind_eq_some_iff.mp h2
          obtain ⟨i, e1, h4⟩ := Option.bind_eq_some_iff.mp h3
          obtain ⟨j, e2, h5⟩ := Option.bind_eq_some_iff.mp h4
          obtain ⟨l1, e3, h6⟩ := Option.bind_eq_some_iff.mp h5
          obtain ⟨b, e4, h1⟩ := Option.bind_eq_some_iff.mp h6
          clear h hn h2 h3 h4 h5 h6
          obtain ⟨px, py, kk, pt, rfl⟩ := tgt2_some g1
          obtain ⟨pf, pc, rfl⟩ := plainCall_some g2
          split at h1
          · rename_i hg
            simp only [Bool.and_eq_true] at hg
            split at h1
            · rename_i hf
              cases h1
              have hb : biOf fa.1 = some It.enumerate.val := by rw [hf.1]; decide +kernel
              exact forT_ok ho e1 e2 hg.1 hb ie e3 (.inl ⟨rfl, hf.2⟩) (ib body b e4)
            · cases h1
          · cases h1
      · cases h
    | Assign ts v p =>
      rcases ts with _ | ⟨t, _ | ⟨t', r⟩⟩
      · cases h
      · cases t with
        | Name x px =>
          obtain ⟨i, e1, h⟩ := Option.bind_eq_some_iff.mp h
          obtain ⟨c1, e2, rfl⟩ := Option.map_eq_some_iff.mp h
          exact assign_any_ok ho e1 ie0 e2
        | Tuple es kk tp =>
          obtain ⟨xs, e1, h⟩ := Option.bind_eq_some_iff.mp h
          obtain ⟨c1, e2, h⟩ := Option.bind_eq_some_iff.mp h
          split at h
          · cases h
          · rename_i hc
            cases h
            simp only [Bool.or_eq_true, not_or, Bool.not_eq_true] at hc
            exact assignT_ok ho e1 (ie v c1 e2) hc.1 hc.2
        | Subscript o i sp =>
          obtain ⟨c1, e1, h⟩ := Option.bind_eq_some_iff.mp h
          obtain ⟨c2, e2, h⟩ := Option.bind_eq_some_iff.mp h
          obtain ⟨c3, e3, h⟩ := Option.bind_eq_some_iff.mp h
          cases h
          exact setidx_ok (ie v c1 e1) (ie o c2 e2) (ie i c3 e3)
        | _ => cases h
      · cases h
    | Expr e p =>
      replace h : compEx (compE nt n env.kindOf names) e = some c := h
      unfold compEx at h
      cases hm : mutOf e with
      | some q =>
        simp only [hm] at h
        obtain ⟨c1, e2, h2⟩ := Option.bind_eq_some_iff.mp h
        obtain ⟨l1, e3, h1⟩ := Option.bind_eq_some_iff.mp h2
        clear h h2
        obtain ⟨z, g1, g2⟩ := Option.bind_eq_some_iff.mp hm
        obtain ⟨mu', e4, e5⟩ := Option.map_eq_some_iff.mp g2
        clear hm g2
        have ee := methOf_some g1
        subst ee
        subst e5
        split at h1
        · rename_i hc
          cases h1
          simp only [Bool.and_eq_true, decide_eq_true_eq] at hc
          exact mut_ok ho ie e2 e3 hc.1 hc.2 e4
        · cases h1
      | none =>
        simp only [hm] at h
        split at h
        · cases h
        · rename_i hc
          obtain ⟨c1, e2, rfl⟩ := Option.map_eq_some_iff.mp h
          exact expr_st_ok ho (ie e c1 e2) (by simpa using hc)
    | Raise a b p =>
      cases h
      intro A S₀ s₀ hid S ρ loc H s Qn Qr Qx E F hx hw
      exact False.elim hw
    | _ => cases h
theorem body_ok (hnt : P.nt = nt) (ho : EnvOk env) {n : Nat} {b : List PySem.Stmt} {cs : List CS} (h : allSome (b.map (compS nt n env.kindOf names)) = some cs) : StOk P l env names (execs b env) (wpSs P l cs) :=
  seq_ok (stmt_ok hnt ho n) b cs h
end

open PySem PyProof.Rows PySem.SeqAt

theorem cells_names : ∀ (names : List (Str × NameKind)) (n : Nat) (acc : List (Str × Addr)), (cellsFrom n names acc).map (·.1) = ((names.filter fun p => p.2 == .cell).map (·.1)).reverse ++ acc.map (·.1)
  | [], _, _ => rfl
  | (x, k) :: r, n, acc => by
    unfold cellsFrom
    by_cases hk : (k == .cell) = true
    · rw [if_pos hk, cells_names r]
      simp [hk]
    · rw [if_neg hk, cells_names r]
      simp [hk]
theorem mem_lookup {α : Type} : ∀ {l : List (Str × α)} {x : Str} {c : α}, (l.map (·.1)).Nodup → (x, c) ∈ l → l.lookup x = some c
  | (y, d) :: r, x, c, h, hm => by
    rw [List.lookup_cons]
    rw [List.map_cons, List.nodup_cons] at h
    rcases List.mem_cons.mp hm with e | hm
    · cases e; simp
    · have : x ≠ y := fun e => h.1 (e ▸ List.mem_map.mpr ⟨_, hm, rfl⟩)
      have hb : (x == y) = false := by simpa using this
      rw [hb]
      exact mem_lookup h.2 hm
theorem bindL_not {kd : Str → Option NameKind} {x : Str} : ∀ {binds : List (Str × Value)} {m : Str → Option Value}, x ∉ binds.map (·.1) → bindL kd binds m x = m x
  | [], _, _ => rfl
  | (n, v) :: r, m, h => by
    simp only [List.map_cons, List.mem_cons, not_or] at h
    unfold bindL
    rw [bindL_not h.2]
    split
    · simp [h.1]
    · rfl
theorem bindC_not {kd : Str → Option NameKind} {x : Str} : ∀ {binds : List (Str × Value)} {m : Str → Option Value}, x ∉ binds.map (·.1) → bindC kd binds m x = m x
  | [], _, _ => rfl
  | (n, v) :: r, m, h => by
    simp only [List.map_cons, List.mem_cons, not_or] at h
    unfold bindC
    rw [bindC_not h.2]
    split
    · rfl
    · simp [h.1]
theorem bindL_mem {kd : Str → Option NameKind} {x : Str} {v : Value} (hk : kd x = some .local) : ∀ {binds : List (Str × Value)} {m : Str → Option Value}, (binds.map (·.1)).Nodup → (x, v) ∈ binds → bindL kd binds m x = some v
  | (n, u) :: r, m, h, hm => by
    rw [List.map_cons, List.nodup_cons] at h
    unfold bindL
    rcases List.mem_cons.mp hm with e | hm
    · cases e
      rw [bindL_not h.1, if_pos hk]
      simp
    · exact bindL_mem hk h.2 hm
theorem bindC_mem {kd : Str → Option NameKind} {x : Str} {v : Value} (hk : kd x ≠ some .local) : ∀ {binds : List (Str × Value)} {m : Str → Option Value}, (binds.map (·.1)).Nodup → (x, v) ∈ binds → bindC kd binds m x = some v
  | (n, u) :: r, m, h, hm => by
    rw [List.map_cons, List.nodup_cons] at h
    unfold bindC
    rcases List.mem_cons.mp hm with e | hm
    · cases e
      rw [bindC_not h.1, if_neg hk]
      simp
    · exact bindC_mem hk h.2 hm

theorem rep_join {n k : Nat} : ((List.replicate n (Option.none : Option AV))[k]?).join = Option.none := by
  rw [List.getElem?_replicate]; split <;> rfl
/-- a def's block is of the plain sort -/
noncomputable def defOk (scope : Scope) (ps rest : List Str) : Bool :=
  scope.kind == .function && !scope.isCoroutine && !scope.isGenerator && decide (ps ++ rest).Nodup && decide (scope.names.map (·.1)).Nodup && ps.all fun x => scope.names.lookup x == some .local || scope.names.lookup x == some .cell

/-- into a def's block -/
theorem enter_ok {P : PC} {l : Lv} {f : Nat} {x : Str} {d : DefRec} {ps rest : List Str} {vs : List AV}
    (hf : P.nt.fns[f]? = some x) (hd : P.defs[f]? = some d) (hk : 0 < l.k)
    (hb : ∀ xs pm code doc, xs.length = ps.length → bindArgs (Calls.docDef d.name d.params d.body d.scope pm code doc) ⟨xs, []⟩ = pure (ps.zip xs))
    (hs : defOk d.scope ps rest = true) (hl : vs.length = ps.length)
    {A : Around} {s : Shared} {S : Sx} {xs : List Value} {x' : Str} {a : Addr} {R : Result → Shared → Prop} (hA : Aok l A) (hG : GOk P s.heap) (hx : P.nt.fns[f]? = some x') (ha : P.mg x' = some (.ref a)) (hpp : S.prog = P.prog) (hpw : S.w = P.w) (hsd : SD S s.heap) (V : VRels S [] s.heap vs xs)
    (h : ∀ (env : Env) (s₁ : Shared) (S' : Sx), env.frame = some env.locals → env.kindOf = (fun x => d.scope.names.lookup x) → EnvOk env → (∀ b ∈ S.ad, b ∈ S'.ad) → S'.prog = S.prog → S'.w = S.w →
      Fr ⟨P, ⟨l.k - 1, l.q⟩, A.deeper env, env, ps ++ rest, S, s, [], S'⟩ [] (vs.map some ++ List.replicate rest.length none) [] s₁ →
      wpAny (model P.prog P.w) (A.deeper env) (execs d.body env) (fun f s' => R (.ok (.ret (match f with | .ret v => v | _ => .none))) s')
        (fun e s' => wpAny (model P.prog P.w) (A.deeper env) (leaving env e) (fun _ s'' => R (.error e) s'') (fun e' s'' => R (.error e') s'') s') s₁) :
    codeAny (model P.prog P.w) A (.call (.ref a) ⟨xs, []⟩) R s := by
  rw [hf] at hx; cases hx
  obtain ⟨a', o, pm, code, doc, ea, eo, ed, ecd⟩ := hG.df f x d hf hd
  rw [ha] at ea; cases ea
  simp only [defOk, Bool.and_eq_true, Bool.not_eq_true', decide_eq_true_eq, beq_iff_eq] at hs
  obtain ⟨⟨⟨⟨⟨hs1, hs2⟩, hs3⟩, hs4⟩, hs5⟩, hs6⟩ := hs
  have hxl : xs.length = ps.length := by rw [← V.length]; exact hl
  have hfst : (ps.zip xs).map (·.1) = ps := by rw [List.map_fst_zip]; omega
  have hdeep := hA.2.1
  have hkinds : ((ps.zip xs).all fun y => d.scope.names.lookup y.1 == some .local || d.scope.names.lookup y.1 == some .cell) = true := by
    rw [List.all_eq_true]
    intro y hy
    exact List.all_eq_true.mp hs6 y.1 (by rw [← hfst]; exact List.mem_map.mpr ⟨y, hy, rfl⟩)
  refine codeAny_call_cells (body := d.body) (by omega) eo ed hG.nolimit ecd rfl (hb xs pm code doc hxl) rfl (PySem.W.kindsX hkinds _) (fun s₁ I => ?_) hs2 hs3 hs1
  generalize hfd : Calls.docDef d.name d.params d.body d.scope pm code doc = fd at I ⊢
  have esc : fd.scope = d.scope := by rw [← hfd]; rfl
  have egl : fd.globals = mainGlobals := by rw [← hfd]; rfl
  have ebl : fd.builtins = builtinsNs := by rw [← hfd]; rfl
  generalize henv : callEnvC fd s.heap.objs.size a = env at I ⊢
  have e1 : env.scope = d.scope := by rw [← henv, ← esc]; rfl
  have e2 : env.globals = mainGlobals := by rw [← henv, ← egl]; rfl
  have e3 : env.builtins = builtinsNs := by rw [← henv, ← ebl]; rfl
  have e4 : env.cells = cellsFrom (s.heap.objs.size + 1) d.scope.names [] := by rw [← henv, ← esc]; rfl
  have e5 : env.locals = s.heap.objs.size := by rw [← henv]; rfl
  have e6 : env.frame = some env.locals := by rw [← henv]; rfl
  have ekd : env.kindOf = fun x => d.scope.names.lookup x := by funext y; show env.scope.names.lookup y = _; rw [e1]
  have hEok : EnvOk env := ⟨by rw [e1]; exact hs1, e2, e3, fun y hy => by
    rw [ekd] at hy
    rw [e4]
    exact Option.isSome_iff_exists.mp (PySem.W.cellsFrom_some _ _ _ (.inl hy))⟩
  have hcn : (env.cells.map (·.1)).Nodup := by
    rw [e4, cells_names]
    simp only [List.map_nil, List.append_nil]
    have := List.Nodup.sublist (List.Sublist.map (fun q : Str × NameKind => q.1) (List.filter_sublist (p := fun q : Str × NameKind => q.2 == NameKind.cell))) hs5
    unfold List.Nodup at this ⊢
    rw [List.pairwise_reverse]
    exact this.imp fun h => h.symm
  have hfresh : ∀ b ∈ env.locals :: env.cells.map (·.2), s.heap.get? b = none := fun b hb => by
    rcases List.mem_cons.mp hb with rfl | hb
    · rw [e5]; exact size_none _
    · obtain ⟨⟨y, c⟩, hm, rfl⟩ := List.mem_map.mp hb
      have := I.above y c hm
      rw [e5] at this
      exact Heap.get?_none_of_le (Nat.le_of_lt this)
  have halive : ∀ b ∈ env.locals :: env.cells.map (·.2), ∃ o, s₁.heap.get? b = some o := fun b hb => by
    rcases List.mem_cons.mp hb with rfl | hb
    · obtain ⟨o, _, _, ho, _⟩ := I.toInCall.ns; exact ⟨o, ho⟩
    · obtain ⟨⟨y, c⟩, hm, rfl⟩ := List.mem_map.mp hb
      obtain ⟨o, ho, _⟩ := I.cell y c (mem_lookup hcn hm)
      exact ⟨o, ho⟩
  have kp : Kp s.heap s₁.heap := I.toInCall.keep
  let S' : Sx := ⟨S.ad ++ (env.locals :: env.cells.map (·.2)), S.prog, S.w⟩
  have V' : VRels S' [] s₁.heap vs xs := (V.avoid hfresh).kp0 kp
  have F : Fr ⟨P, ⟨l.k - 1, l.q⟩, A.deeper env, env, ps ++ rest, S, s, [], S'⟩ [] (vs.map some ++ List.replicate rest.length none) [] s₁ := {
    aok := ⟨hA.1, by show A.depth + 1 + (l.k - 1) < _; omega, by have := hA.2.2; show A.units + 3 + 10 * (l.k - 1) + 200 < _; omega⟩
    eok := hEok, nd := hs4, g0 := hG, pp := hpp, pw := hpw
    sd := fun b hb => (List.mem_append.mp hb).elim (fun q => let ⟨o, ho⟩ := hsd b q; ⟨o, kp b o ho⟩) (halive b)
    sim := ⟨rfl, List.nodup_nil, fun _ hm => (by cases hm), fun i vs e => by simp at e⟩
    fr := fun _ hm => (by cases hm)
    sub := fun b hb => List.mem_append_left _ hb
    hL := List.mem_append_right _ (.head _)
    hC := fun y c hc => List.mem_append_right _ (.tail _ (List.mem_map.mpr ⟨(y, c), hc, rfl⟩))
    len := by simp [hl]
    ic := ⟨_, _, I, fun i y v ey ev => by
      have hi : i < vs.length := by
        apply Classical.byContradiction
        intro hi
        rw [List.getElem?_append_right (by simpa using hi)] at ev
        rw [rep_join] at ev; cases ev
      have eu : vs[i]? = some v := by
        rw [List.getElem?_append_left (by simpa using hi)] at ev
        rw [List.getElem?_map] at ev
        cases hvi : vs[i]? with
        | none => rw [hvi] at ev; cases ev
        | some u => rw [hvi] at ev; simpa using ev
      obtain ⟨rv, er, Vr⟩ := V'.get eu
      have ey' : ps[i]? = some y := by
        have : i < ps.length := by omega
        have ey2 : (ps ++ rest)[i]? = some y := ey
        rw [List.getElem?_append_left this] at ey2
        exact ey2
      have hm : (y, rv) ∈ ps.zip xs := List.mem_of_getElem? (List.getElem?_zip_eq_some.mpr ⟨ey', er⟩)
      have hnd : ((ps.zip xs).map (·.1)).Nodup := by rw [hfst]; exact (List.nodup_append.mp hs4).1
      have hky := List.all_eq_true.mp hkinds _ hm
      refine ⟨rv, ?_, Vr⟩
      rcases Bool.or_eq_true_iff.mp hky with q | q
      · have q' : env.kindOf y = some .local := by rw [ekd]; simpa using q
        exact .inl ⟨q', bindL_mem q' hnd hm⟩
      · have q' : env.kindOf y = some .cell := by rw [ekd]; simpa using q
        exact .inr ⟨q', bindC_mem (by rw [q']; simp) hnd hm⟩⟩
    hh := fun i rv v e => by simp at e }
  exact h env s₁ S' e6 ekd hEok (fun b hb => List.mem_append_left _ hb) rfl rfl F

/-- a def's call, by its body -/
theorem CallJ.of_body {P : PC} {l : Lv} {f : Nat} {x : Str} {d : DefRec} {ps rest : List Str} {n : Nat} {cs : List CS} {vs : List AV} {Q : AV → AH → Prop} {X : Str → Prop}
    (hf : P.nt.fns[f]? = some x) (hd : P.defs[f]? = some d) (hk : 0 < l.k)
    (hb : ∀ xs pm code doc, xs.length = ps.length → bindArgs (Calls.docDef d.name d.params d.body d.scope pm code doc) ⟨xs, []⟩ = pure (ps.zip xs))
    (hs : defOk d.scope ps rest = true) (hc : allSome (d.body.map (compS P.nt n (fun x => d.scope.names.lookup x) (ps ++ rest))) = some cs) (hl : vs.length = ps.length)
    (hw : wpSs P ⟨l.k - 1, l.q⟩ cs (vs.map some ++ List.replicate rest.length none) [] (fun _ H => Q .none H) Q (fun c _ _ => X c)) : CallJ P l f vs Q X := by
  intro A s S xs x' a hA hG hx ha hpp hpw hsd V
  refine enter_ok hf hd hk hb hs hl hA hG hx ha hpp hpw hsd V fun env s₁ S' _ ekd hEok hsub hp' hw' F => ?_
  have hc' : allSome (d.body.map (compS P.nt n env.kindOf (ps ++ rest))) = some cs := by rw [ekd]; exact hc
  refine wpAny_mono (body_ok (P := P) (l := ⟨l.k - 1, l.q⟩) rfl hEok hc' (A.deeper env) S s [] S' [] _ [] s₁ _ Q _ _ F xOk_any hw) (fun fl s' hfl => ?_) fun _ _ y => y
  have fin : ∀ {ρ' : List Addr} {loc' : Loc} {H' : AH} {v : AV} {rv : Value}, Fr ⟨P, ⟨l.k - 1, l.q⟩, A.deeper env, env, ps ++ rest, S, s, [], S'⟩ ρ' loc' H' s' → VRel S' ρ' s'.heap v rv → Q v H' → ∃ rv' h' tk ρ v Hc, Flow.ret rv = .ret rv' ∧ s' = { s with heap := h', toks := tk } ∧ Kp s.heap h' ∧ Fresh s.heap ρ ∧ HSim S ρ Hc h' ∧ VRel S ρ h' v rv' ∧ Q v Hc := by
    intro ρ' loc' H' v rv F' V' q
    obtain ⟨m, cm, I', _⟩ := F'.ic
    obtain ⟨h', tk, es⟩ := I'.toInCall.same
    subst es
    exact ⟨rv, h', tk, ρ', v, H', rfl, rfl, I'.toInCall.keep, F'.fr, HSim.sub (S := S) (S' := S') hp' hw' hsub F'.sim, VRel.sub (S := S) (S' := S') hp' hw' hsub V', q⟩
  cases fl with
  | next => obtain ⟨ρ', loc', H', m, F', q⟩ := hfl; exact fin F' .none q
  | ret rv => obtain ⟨ρ', loc', H', v, m, F', V', q⟩ := hfl; exact fin F' V' q
  | _ => exact hfl.elim

open PySem PyProof.Rows PySem.SeqAt

noncomputable def avData : PyData → Option AV
  | .none => some .none
  | .bool b => some (.bool b)
  | .int i => some (.int i)
  | .str x => some (.str x)
  | _ => Option.none
theorem avData_rel {d : PyData} {v : AV} {rv : Value} (e : avData d = some v) (h : ∀ h' : Heap, Reads h' rv d []) : ∀ S ρ h, VRel S ρ h v rv := by
  intro S ρ h0
  have q := h h0
  cases q <;> first | (cases e; constructor) | cases e
/-- no name of the module hides a built-in that is used -/
noncomputable def biFree (p : Program) (loose : List Str) : Bool :=
  ((["isinstance", "enumerate", "zip", "bool"] : List Str) ++ prNames.map (·.1)).all fun x => !startupNames.contains x && !loose.contains x && !((recsOf p).map (·.name)).contains x && !((litsOf p).map (·.1)).contains x && !((clssOf p loose).map (·.name)).contains x
theorem bi_boot : ((["isinstance", "enumerate", "zip", "bool"] : List Str) ++ prNames.map (·.1)).all (fun x => x != ("__name__" : Str) && bootBuiltins x == biOf x) = true := by decide +kernel
theorem bi_mem {x : Str} {v : Value} (h : biOf x = some v) : x ∈ (["isinstance", "enumerate", "zip", "bool"] : List Str) ++ prNames.map (·.1) := by
  unfold biOf at h
  have := lookup_mem h
  simp only [List.mem_append] at this ⊢
  rcases this with q | q
  · left
    simp only [List.mem_cons, Prod.mk.injEq, List.not_mem_nil, or_false] at q ⊢
    rcases q with ⟨rfl, _⟩ | ⟨rfl, _⟩ | ⟨rfl, _⟩ | ⟨rfl, _⟩ <;> simp
  · right
    obtain ⟨y, hy, e⟩ := List.mem_map.mp q
    cases e
    exact List.mem_map.mpr ⟨y, hy, rfl⟩

/-- the module's top -/
theorem GOk.of_top {p : Program} {loose : List Str} {mean : ExcName → Option Value} {mg mb : Str → Option Value} {h : Heap} (T : Top p loose mean mg mb h) {prog : Program} {w : World} {consts : List (Str × AV)} {defs : List DefRec} {own : Str → Addr → Option Bool} {sup : Addr}
    (hd : recsOf p = defs) (hb : biFree p loose = true) (hc : consts.all (fun c => match valOf p c.1 with | some d => (avData d).isSome | Option.none => false) = true) (hc2 : ∀ x v, consts.lookup x = some v → ∃ d, valOf p x = some d ∧ avData d = some v)
    (how : ∀ t c b, own t c = some b → OwnIs ⟨prog, w, mg, mb, ⟨defs.map (·.name), consts⟩, defs, own, sup⟩ h t c b) :
    GOk ⟨prog, w, mg, mb, ⟨defs.map (·.name), consts⟩, defs, own, sup⟩ h where
  g := T.g
  b := T.b
  nolimit := T.nolimit
  bi := fun x v e => by
    have hm := bi_mem e
    have h1 := List.all_eq_true.mp hb x hm
    have h2 := List.all_eq_true.mp bi_boot x hm
    simp only [Bool.and_eq_true, Bool.not_eq_true', List.contains_eq_mem, decide_eq_false_iff_not] at h1
    simp only [Bool.and_eq_true, bne_iff_ne, ne_eq, beq_iff_eq] at h2
    obtain ⟨⟨⟨⟨a1, a2⟩, a3⟩, a4⟩, a5⟩ := h1
    exact ⟨T.free x a1 a2 a3 a4 a5, by rw [← e, ← h2.2]; exact T.builtins x h2.1⟩
  cst := fun x v e => by
    obtain ⟨d, e1, e2⟩ := hc2 x v e
    obtain ⟨rv, e3, e4⟩ := T.const x d e1
    exact ⟨rv, e3, avData_rel e2 e4⟩
  ow := how
  fn := fun f x e => by
    obtain ⟨d, hd', rfl⟩ : ∃ d, defs[f]? = some d ∧ d.name = x := by simpa using e
    obtain ⟨a, o, pm, code, doc, h1, h2, h3, h4⟩ := T.fn d (by rw [hd]; exact List.mem_of_getElem? hd')
    exact ⟨a, o, h1, h2, _, h3⟩
  df := fun f x d e e' => by
    obtain ⟨d', hd', rfl⟩ : ∃ d, defs[f]? = some d ∧ d.name = x := by simpa using e
    have e' : defs[f]? = some d := e'
    rw [hd'] at e'; cases e'
    exact T.fn _ (by rw [hd]; exact List.mem_of_getElem? hd')

/-- a list of ints, as the law's caller lays it -/
theorem ints_of_well {P : Params} {h : Heap} : ∀ {vs : List Value} {xs : List PySem.W.WData} {ns : List Int}, PySem.W.WellAll P h vs xs → xs = ns.map PySem.W.WData.int → ∀ S ρ h', VRels S ρ h' (ns.map AV.int) vs
  | _, _, [], .nil, _, _, _, _ => .nil
  | _, _, _ :: _, .nil, e, _, _, _ => by cases e
  | _, _, [], .cons _ _, e, _, _, _ => by cases e
  | _, _, n :: ns, .cons x r, e, S, ρ, h' => by
    simp only [List.map_cons, List.cons.injEq] at e
    obtain ⟨rfl, e⟩ := e
    cases x
    exact .cons (.int _ _) (ints_of_well r e S ρ h')
open PySem PyProof.Rows PySem.SeqAt PySem.W
theorem law_good {c : ClaimW} {cl : Str → Option Addr} {mean : ExcName → Option Value} {args : List WData} {s₁ s' : Shared} (hr : ∀ cls, c.raises args cls = false) (hp : c.post args (.bool true) args = true) (hk : Kp s₁.heap s'.heap) (hos : s'.os = s₁.os) (hg : s'.gens = #[]) :
    GoodWG c cl mean args s₁ (.ok (.ret (.bool true))) s' :=
  GoodW.toG ⟨.inl ⟨_, .bool true, [], rfl, hr, .bool true, hp, fun _ => ⟨List.nodup_nil, fun _ h => nomatch h⟩⟩, hk, hos, hg⟩

theorem ofPy_ints : ∀ (ns : List Int), ofPys (ns.map PyData.int) = ns.map WData.int
  | [] => rfl
  | n :: r => by simp [ofPys, ofPy, ofPy_ints r]
open PySem PyProof.Rows PySem.SeqAt

noncomputable def six : List Str := ["BadStrip", "BadOrder", "NoFold", "NothingDone", "TooMany", "BadText"]
noncomputable def adOf (mg : Str → Option Value) (x : Str) : Addr := match mg x with
  | some (.ref a) => a
  | _ => 0
noncomputable def own6 (mg : Str → Option Value) (t : Str) (c : Addr) : Option Bool :=
  if c ∈ six.map (adOf mg) then (if t = "ValueError" then some true else if t ∈ six then some (decide (adOf mg t = c)) else none) else none
noncomputable def quietC (h : Heap) (name : Str) : Bool := match h.clsAt mainGlobals name with
  | some (_, _, cd) => qn.all fun n => (h.nsMap cd.ns n).isNone
  | none => false
/-- the test of the classes, at the module's end -/
noncomputable def clsT (h : Heap) : Bool :=
  (six.all fun x => h.ownExcOk x ["FoldError"] veMro "ValueError.__new__" && quietC h x) && (h.ownExcOk "FoldError" [] veMro "ValueError.__new__" && quietC h "FoldError") && decide ((("FoldError" : Str) :: six).map (adOf (h.nsMap mainGlobals))).Nodup
/-- the classes -/
structure Cls6 (mg : Str → Option Value) (h : Heap) : Prop where
  at6 : ∀ x ∈ six, mg x = some (.ref (adOf mg x)) ∧ XCls h (adOf mg x) (adOf mg "FoldError")
  sup : mg "FoldError" = some (.ref (adOf mg "FoldError"))
  nd : ((("FoldError" : Str) :: six).map (adOf mg)).Nodup
theorem Cls6.keeps {mg : Str → Option Value} {h h' : Heap} (x : Cls6 mg h) (k : ∀ b o, h.get? b = some o → h'.get? b = some o) : Cls6 mg h' := ⟨fun y hy => ⟨(x.at6 y hy).1, (x.at6 y hy).2.keeps k⟩, x.sup, x.nd⟩
theorem cls_of_ok {h : Heap} {name : Str} {chain : List Str} (x : h.ownExcOk name chain veMro "ValueError.__new__" = true) (y : quietC h name = true) :
    h.nsMap mainGlobals name = some (.ref (adOf (h.nsMap mainGlobals) name)) ∧ XObj h (adOf (h.nsMap mainGlobals) name) ((chain.map fun n => (h.nsMap mainGlobals n).getD .none) ++ veMro) := by
  obtain ⟨C, N, nm, q, bs, hdct, sn, sub, ab, col, dd, k0, k1, k2, k3, k5, hb, hC, hN, _⟩ := Heap.ownExc_of_ok x
  have ea : adOf (h.nsMap mainGlobals) name = C := by unfold adOf; rw [hb]
  rw [ea]
  refine ⟨hb, _, N, _, hC, ⟨nm, q, bs, hdct, sn, sub, ab, col, dd, k0, k1, k2, k3, k5, rfl⟩, hN, fun n hn => ?_⟩
  unfold quietC at y
  cases hf : h.clsAt mainGlobals name with
  | none => rw [hf] at y; cases y
  | some z =>
    obtain ⟨C', o', cd'⟩ := z
    rw [hf] at y
    obtain ⟨hn', ho', hd'⟩ := Heap.clsAt_spec hf
    rw [hb] at hn'
    obtain rfl : C = C' := by injection hn' with q1; injection q1
    rw [hC] at ho'
    obtain rfl := Option.some.inj ho'
    obtain rfl : _ = cd' := by injection hd'
    exact Option.isNone_iff_eq_none.mp (List.all_eq_true.mp y n hn)
theorem Cls6.of {h : Heap} (e : clsT h = true) : Cls6 (h.nsMap mainGlobals) h := by
  unfold clsT at e
  simp only [Bool.and_eq_true, List.all_eq_true, decide_eq_true_eq] at e
  obtain ⟨⟨e1, e2, e3⟩, e4⟩ := e
  obtain ⟨s1, s2⟩ := cls_of_ok e2 e3
  refine ⟨fun x hx => ?_, s1, e4⟩
  obtain ⟨a1, a2⟩ := cls_of_ok (e1 x hx).1 (e1 x hx).2
  rw [show (((["FoldError"] : List Str).map fun n => (h.nsMap mainGlobals n).getD .none) ++ veMro) = .ref (adOf (h.nsMap mainGlobals) "FoldError") :: veMro from by show (h.nsMap mainGlobals "FoldError").getD .none :: veMro = _; rw [s1]; rfl] at a2
  exact ⟨a1, a2, s2⟩
/-- no name of the module hides ValueError -/
noncomputable def veFree (p : Program) (loose : List Str) : Bool :=
  !startupNames.contains ("ValueError" : Str) && !loose.contains ("ValueError" : Str) && !((recsOf p).map (·.name)).contains ("ValueError" : Str) && !((litsOf p).map (·.1)).contains ("ValueError" : Str) && !((clssOf p loose).map (·.name)).contains ("ValueError" : Str)
theorem ve_boot : bootBuiltins "ValueError" = some (.type "ValueError") := by decide +kernel
theorem ve_of {p : Program} {loose : List Str} {mean : ExcName → Option Value} {mg mb : Str → Option Value} {h : Heap} (T : Top p loose mean mg mb h) (hb : veFree p loose = true) : mg "ValueError" = none ∧ mb "ValueError" = some (.type "ValueError") := by
  unfold veFree at hb
  simp only [Bool.and_eq_true, Bool.not_eq_true', List.contains_eq_mem, decide_eq_false_iff_not] at hb
  obtain ⟨⟨⟨⟨a1, a2⟩, a3⟩, a4⟩, a5⟩ := hb
  exact ⟨T.free _ a1 a2 a3 a4 a5, (T.builtins _ (by decide)).trans ve_boot⟩
/-- isinstance, as the classes are -/
theorem own_of {P : PC} {h : Heap} (X : Cls6 P.mg h) (hv : P.mg "ValueError" = none ∧ P.mb "ValueError" = some (.type "ValueError")) (hs : P.sup = adOf P.mg "FoldError") : ∀ t c b, own6 P.mg t c = some b → OwnIs P h t c b := by
  intro t c b e
  unfold own6 at e
  split at e
  · rename_i hc
    obtain ⟨y, hy, rfl⟩ := List.mem_map.mp hc
    unfold OwnIs
    rw [hs]
    refine ⟨(X.at6 y hy).2, ?_⟩
    split at e
    · rename_i ht
      subst ht
      cases e
      exact .inl ⟨hv.1, hv.2, rfl⟩
    · split at e
      · rename_i ht
        cases e
        by_cases hd : adOf P.mg t = adOf P.mg y
        · refine .inr (.inl ⟨by rw [(X.at6 t ht).1, hd], decide_eq_true hd⟩)
        · refine .inr (.inr ⟨adOf P.mg t, (X.at6 t ht).1, (X.at6 t ht).2, fun q => hd q.symm, fun q => ?_, decide_eq_false hd⟩)
          have := X.nd
          rw [List.map_cons, List.nodup_cons] at this
          exact this.1 (q ▸ List.mem_map.mpr ⟨t, ht, rfl⟩)
      · cases e
  · cases e
theorem ad_ne {mg : Str → Option Value} {h : Heap} (X : Cls6 mg h) {i j : Nat} {x y : Str} (hx : six[i]? = some x) (hy : six[j]? = some y) (hn : i ≠ j) : adOf mg x ≠ adOf mg y := fun q => by
  have := X.nd
  rw [List.map_cons, List.nodup_cons] at this
  have h1 : (six.map (adOf mg))[i]? = some (adOf mg x) := by rw [List.getElem?_map, hx]; rfl
  have h2 : (six.map (adOf mg))[j]? = some (adOf mg x) := by rw [List.getElem?_map, hy, q]; rfl
  exact hn (List.getElem?_inj (List.getElem?_eq_some_iff.mp h1).1 this.2 |>.mp (h1.trans h2.symm))
/-- what isinstance finds of an object of the i-th class -/
theorem own6_is {mg : Str → Option Value} {h : Heap} (X : Cls6 mg h) {i j : Nat} {x y : Str} (hx : six[i]? = some x) (hy : six[j]? = some y) : own6 mg x (adOf mg y) = some (decide (i = j)) := by
  have mx := List.mem_of_getElem? hx
  have my := List.mem_of_getElem? hy
  unfold own6
  rw [if_pos (List.mem_map.mpr ⟨y, my, rfl⟩), if_neg (fun q => by subst q; exact absurd mx (by decide)), if_pos mx]
  congr 1
  by_cases hn : i = j
  · subst hn
    rw [hx] at hy; cases hy
    simp
  · rw [decide_eq_false hn, decide_eq_false (ad_ne X hx hy hn)]
theorem own6_ve {mg : Str → Option Value} {j : Nat} {y : Str} (hy : six[j]? = some y) : own6 mg "ValueError" (adOf mg y) = some true := by
  unfold own6
  rw [if_pos (List.mem_map.mpr ⟨y, List.mem_of_getElem? hy, rfl⟩), if_pos rfl]

open PySem PyProof.Rows PySem.SeqAt

/-- a call's result may get new numbers -/
theorem CallJ.ren {P : PC} {l : Lv} {f : Nat} {vs : List AV} {Q : AV → AH → Prop} {X : Str → Prop} (h : CallJ P l f vs (fun v H => ∃ φ H' v', RenH φ H H' ∧ Ren φ H v v' ∧ Q v' H') X) : CallJ P l f vs Q X := by
  intro A s S xs x a h1 h2 h3 h4 h5 h6 h7 h8
  refine codeAny_mono (h A s S xs x a h1 h2 h3 h4 h5 h6 h7 h8) fun r s' hr => ?_
  cases r with
  | ok fl =>
    obtain ⟨rv, h', tk, ρ, v, Hc, e1, e2, k, fr, Z, V, φ, H', v', R, r, q⟩ := hr
    refine ⟨rv, h', tk, pick ρ φ, v', H', e1, e2, k, fun a ha => ?_, Z.ren R, VRel.ren' Z R.dom r V, q⟩
    obtain ⟨j, _, e⟩ := pick_mem ha
    exact fr a (List.mem_of_getElem? e)
  | error e => exact hr

theorem RenH.nil {H : AH} : RenH [] H [] := ⟨rfl, List.nodup_nil, fun _ h => (by cases h), fun i j xs e => by simp at e⟩
theorem RenH.one {H : AH} {a : Nat} {xs xs' : List AV} (ha : H[a]? = some xs) (rx : Rens [a] H xs xs') : RenH [a] H [xs'] := by
  refine ⟨rfl, by simp, fun j hj => ?_, fun i j ws e e' => ?_⟩
  · simp at hj; subst hj; exact (List.getElem?_eq_some_iff.mp ha).1
  · match i, e with
    | 0, e => simp at e; subst e; rw [ha] at e'; cases e'; exact ⟨_, rfl, rx⟩
    | i + 1, e => simp at e
theorem RenH.two {H : AH} {a b : Nat} {xs xs' ys ys' : List AV} (ha : H[a]? = some xs) (hb : H[b]? = some ys) (hne : a ≠ b) (rx : Rens [a, b] H xs xs') (ry : Rens [a, b] H ys ys') : RenH [a, b] H [xs', ys'] := by
  refine ⟨rfl, by simpa using hne, fun j hj => ?_, fun i j ws e e' => ?_⟩
  · simp at hj
    rcases hj with rfl | rfl
    · exact (List.getElem?_eq_some_iff.mp ha).1
    · exact (List.getElem?_eq_some_iff.mp hb).1
  · match i, e with
    | 0, e => simp at e; subst e; rw [ha] at e'; cases e'; exact ⟨_, rfl, rx⟩
    | 1, e => simp at e; subst e; rw [hb] at e'; cases e'; exact ⟨_, rfl, ry⟩
    | i + 2, e => simp at e
@[simp] theorem shifts_ints (k : Nat) (l : List Int) : AV.shifts k (l.map AV.int) = l.map AV.int := by
  induction l with
  | nil => rfl
  | cons x r ih => simp [shs_nil, shs_cons, sh_none, sh_bool, sh_int, sh_str, sh_ref, sh_tup, sh_fl, ih]
@[simp] theorem shifts_strs (k : Nat) (l : List Str) : AV.shifts k (l.map AV.str) = l.map AV.str := by
  induction l with
  | nil => rfl
  | cons x r ih => simp [shs_nil, shs_cons, sh_none, sh_bool, sh_int, sh_str, sh_ref, sh_tup, sh_fl, ih]

/-- a call whose arguments have no lists that may change -/
theorem CallP.plain {P : PC} {l : Lv} {f : Nat} {vs : List AV} {H : AH} {Q : AV → AH → Prop} {X : Str → Prop} {R : AV → AH → Prop} (hr : Rens [] H vs vs) (h : CallJ P l f vs R X) (hq : ∀ v Hc, R v Hc → Q (v.shift H.length) (H ++ Hc.map (AV.shifts H.length))) : CallP P l f vs H Q X :=
  ⟨vs, hr, h.mono fun v Hc q => ⟨.inl rfl, hq v Hc q⟩⟩
theorem CallP.frz {P : PC} {l : Lv} {f : Nat} {vs vs' : List AV} {H : AH} {Q : AV → AH → Prop} {X : Str → Prop} {R : AV → AH → Prop} (hr : Rens [] H vs vs') (h : CallJ P l f vs' R X) (hn : ∀ v Hc, R v Hc → NoFl v ∧ ∀ xs ∈ Hc, NoFls xs) (hq : ∀ v Hc, R v Hc → Q (v.shift H.length) (H ++ Hc.map (AV.shifts H.length))) : CallP P l f vs H Q X :=
  ⟨vs', hr, h.mono fun v Hc q => ⟨.inr (hn v Hc q), hq v Hc q⟩⟩

theorem idx_in {xs : List AV} {k : Int} (h0 : 0 ≤ k) (h1 : k < xs.length) : seqIndex? k xs.length = some k.toNat := by
  unfold seqIndex?
  simp
  omega

/-- what each def of a law must be -/
noncomputable def FnIs (P : PC) (f : Nat) (ps rest : List Str) (cs : List CS) : Prop :=
  ∃ x d n, P.nt.fns[f]? = some x ∧ P.defs[f]? = some d ∧ defOk d.scope ps rest = true ∧ allSome (d.body.map (compS P.nt n (fun x => d.scope.names.lookup x) (ps ++ rest))) = some cs ∧
    ∀ xs pm code doc, xs.length = ps.length → bindArgs (Calls.docDef d.name d.params d.body d.scope pm code doc) ⟨xs, []⟩ = pure (ps.zip xs)
theorem FnIs.call {P : PC} {l : Lv} {f : Nat} {ps rest : List Str} {cs : List CS} {vs : List AV} {Q : AV → AH → Prop} {X : Str → Prop} (F : FnIs P f ps rest cs) (hk : 0 < l.k) (hl : vs.length = ps.length)
    (hw : wpSs P ⟨l.k - 1, l.q⟩ cs (vs.map some ++ List.replicate rest.length none) [] (fun _ H => Q .none H) Q (fun c _ _ => X c)) : CallJ P l f vs Q X := by
  obtain ⟨x, d, n, h1, h2, h3, h4, h5⟩ := F
  exact CallJ.of_body h1 h2 hk h5 h3 h4 hl hw

-- the defs that the laws share

section
variable {H : AH} {Q : AV → AH → Prop} {i j k : Int} {x y : Str} {a b : AV} {u v : List AV} {m n : Nat} {p q : Bool}
theorem b_add : opBin .Add (.int i) (.int j) H Q = (Q (.int (i + j)) H) := rfl
theorem b_sub : opBin .Sub (.int i) (.int j) H Q = (Q (.int (i - j)) H) := rfl
theorem b_mul : opBin .Mult (.int i) (.int j) H Q = ((j.natAbs < 2 ^ 60 ∨ i.natAbs < 2 ^ 60) ∧ Q (.int (i * j)) H) := rfl
theorem b_div : opBin .FloorDiv (.int i) (.int j) H Q = ((0 < j ∧ j < 1000000000) ∧ Q (.int (i / j)) H) := rfl
theorem b_mod : opBin .Mod (.int i) (.int j) H Q = (0 < j ∧ Q (.int (i % j)) H) := rfl
theorem b_pow : opBin .Pow (.int i) (.int j) H Q = ((0 ≤ j ∧ j ≤ 1000 ∧ i.natAbs < 1000) ∧ Q (.int (i ^ j.toNat)) H) := rfl
theorem b_adds : opBin .Add (.str x) (.str y) H Q = (x.length + y.length ≤ smallN ∧ Q (.str (x ++ y)) H) := rfl
theorem b_rr : opBin .Add (.ref m) (.ref n) H Q = (opt (H[m]?) fun xs => opt (H[n]?) fun ys => xs.length + ys.length ≤ smallN ∧ Q (.ref H.length) (H ++ [xs ++ ys])) := rfl
theorem b_rf : opBin .Add (.ref m) (.fl v) H Q = (opt (H[m]?) fun xs => opt (some v) fun ys => xs.length + ys.length ≤ smallN ∧ Q (.ref H.length) (H ++ [xs ++ ys])) := rfl
theorem b_fr : opBin .Add (.fl u) (.ref n) H Q = (opt (some u) fun xs => opt (H[n]?) fun ys => xs.length + ys.length ≤ smallN ∧ Q (.ref H.length) (H ++ [xs ++ ys])) := rfl
theorem b_ff : opBin .Add (.fl u) (.fl v) H Q = (opt (some u) fun xs => opt (some v) fun ys => xs.length + ys.length ≤ smallN ∧ Q (.ref H.length) (H ++ [xs ++ ys])) := rfl
theorem b_rm : opBin .Mult (.ref m) (.int j) H Q = (opt (H[m]?) fun xs => (0 ≤ j ∧ xs.length * j.toNat ≤ smallN ∧ j ≤ smallN) ∧ Q (.ref H.length) (H ++ [(List.replicate j.toNat xs).flatten])) := rfl
theorem c_lt : opCmp .Lt (.int i) (.int j) H Q = (Q (.bool (decide (i < j))) H) := rfl
theorem c_le : opCmp .LtE (.int i) (.int j) H Q = (Q (.bool (decide (i ≤ j))) H) := rfl
theorem c_gt : opCmp .Gt (.int i) (.int j) H Q = (Q (.bool (decide (j < i))) H) := rfl
theorem c_ge : opCmp .GtE (.int i) (.int j) H Q = (Q (.bool (decide (j ≤ i))) H) := rfl
theorem c_eq : opCmp .Eq (.int i) (.int j) H Q = (Q (.bool (decide (i = j))) H) := rfl
theorem c_ne : opCmp .NotEq (.int i) (.int j) H Q = (Q (.bool (!decide (i = j))) H) := rfl
theorem c_isn : opCmp .Is a .none H Q = (Q (.bool (isNone a)) H) := rfl
theorem c_isnn : opCmp .IsNot a .none H Q = (Q (.bool (!isNone a)) H) := rfl
theorem p_len : opPrim .len [a] H Q = (opt (lenOf H a) fun n => n ≤ smallN ∧ Q (.int n) H) := rfl
theorem p_int : opPrim .int [.bool p] H Q = (Q (.int (if p then 1 else 0)) H) := rfl
theorem p_lr : opPrim .list [.rng i j k] H Q = (rngOk i j k ∧ Q (.ref H.length) (H ++ [(rngList i j k).map AV.int])) := rfl
theorem p_lref : opPrim .list [.ref m] H Q = (opt (H[m]?) fun xs => xs.length ≤ smallN ∧ Q (.ref H.length) (H ++ [xs])) := rfl
theorem p_lfl : opPrim .list [.fl v] H Q = (opt (some v) fun xs => xs.length ≤ smallN ∧ Q (.ref H.length) (H ++ [xs])) := rfl
theorem p_sorted : opPrim .sorted [a] H Q = (∃ ns : List Int, a.items? H = some (ns.map AV.int) ∧ ns.length < 64 ∧ ∀ ns' : List Int, ns'.Perm ns → ns'.Pairwise (· ≤ ·) → Q (.ref H.length) (H ++ [ns'.map AV.int])) := rfl
theorem p_all : opPrim .all [a] H Q = (∃ bs : List Bool, a.items? H = some (bs.map AV.bool) ∧ Q (.bool (bs.all id)) H) := rfl
theorem p_min : opPrim .min [.int i, .int j] H Q = (Q (.int (if j < i then j else i)) H) := rfl
theorem p_max : opPrim .max [.int i, .int j] H Q = (Q (.int (if j > i then j else i)) H) := rfl
theorem p_r1 : opPrim .range [.int j] H Q = (rngOk 0 j 1 ∧ Q (.rng 0 j 1) H) := rfl
theorem p_r2 : opPrim .range [.int i, .int j] H Q = (rngOk i j 1 ∧ Q (.rng i j 1) H) := rfl
theorem p_r3 : opPrim .range [.int i, .int j, .int k] H Q = (rngOk i j k ∧ Q (.rng i j k) H) := rfl
theorem l_fl : lenOf H (.fl v) = some v.length := rfl
theorem l_tup : lenOf H (.tup v) = some v.length := rfl
theorem l_ref : lenOf H (.ref m) = (H[m]?).map List.length := rfl
theorem l_str : lenOf H (.str x) = some x.length := rfl
theorem s_fl : AV.seq? H (.fl v) = some v := rfl
theorem s_tup : AV.seq? H (.tup v) = some v := rfl
theorem s_ref : AV.seq? H (.ref m) = H[m]? := rfl
theorem t_fl : AV.items? H (.fl v) = some v := rfl
theorem t_ref : AV.items? H (.ref m) = H[m]? := rfl
theorem i_t20 : opIdx (.tup [a, b]) (.int 0) H Q = Q a H := rfl
theorem i_t21 : opIdx (.tup [a, b]) (.int 1) H Q = Q b H := rfl
/-- an int's place in a list -/
theorem i_is {o : AV} {vs : List AV} {w : AV} {j : Nat} (e : o.seq? H = some vs) (hl : vs.length ≤ smallN) (ej : seqIndex? k vs.length = some j) (ew : vs[j]? = some w) (h : Q w H) : opIdx o (.int k) H Q := by
  show opt (o.seq? H) fun vs => opt (idxAt k vs) fun v => Q v H
  rw [e]
  show opt (idxAt k vs) fun v => Q v H
  rw [idxAt_some hl ej ew]
  exact h
theorem i_at {o : AV} {vs : List AV} {w : AV} (e : o.seq? H = some vs) (hl : vs.length ≤ smallN) (h0 : 0 ≤ k) (h1 : k < vs.length) (ew : vs[k.toNat]? = some w) (h : Q w H) : opIdx o (.int k) H Q := i_is e hl (idx_in h0 h1) ew h
theorem i_atI {o : AV} {L : List Int} (e : o.seq? H = some (L.map AV.int)) (hl : L.length ≤ smallN) (h0 : 0 ≤ k) (h1 : k < L.length) (h : ∀ z, L[k.toNat]? = some z → Q (.int z) H) : opIdx o (.int k) H Q := by
  have hk : k.toNat < L.length := by omega
  exact i_at e (by rw [List.length_map]; exact hl) h0 (by rw [List.length_map]; exact h1) (w := .int L[k.toNat]) (by simp [hk]) (h _ (by simp [hk]))
theorem i_neg {o : AV} {vs : List AV} {w : AV} {d : Nat} (e : o.seq? H = some vs) (hl : vs.length ≤ smallN) (h0 : k = -(d : Int)) (h1 : 0 < d) (h2 : d ≤ vs.length) (ew : vs[vs.length - d]? = some w) (h : Q w H) : opIdx o (.int k) H Q := by
  refine i_is e hl ?_ ew h
  unfold seqIndex?
  subst h0
  simp
  omega
end
theorem wpSs_nil {P : PC} {l : Lv} {loc : Loc} {H : AH} {Qn : Loc → AH → Prop} {Qr : AV → AH → Prop} {Qx : Str → Loc → AH → Prop} : wpSs P l [] loc H Qn Qr Qx ↔ Qn loc H := Iff.rfl
theorem wpSs_cons {P : PC} {l : Lv} {c : CS} {r : List CS} {loc : Loc} {H : AH} {Qn : Loc → AH → Prop} {Qr : AV → AH → Prop} {Qx : Str → Loc → AH → Prop} : wpSs P l (c :: r) loc H Qn Qr Qx ↔ wpS P l c loc H (fun loc' H' => wpSs P l r loc' H' Qn Qr Qx) Qr Qx := Iff.rfl
theorem o_bool {b : Bool} {p : Bool → Prop} : onBool (.bool b) p = p b := rfl
theorem o_int {b : Int} {p : Int → Prop} : onInt (.int b) p = p b := rfl
theorem o_lfl {p : Prop} {u : List AV} : onL (.fl u) p = p := rfl
theorem o_lref {p : Prop} {n : Nat} : onL (.ref n) p = p := rfl
theorem r_int {p : Prop} {n : Int} : offRng (.int n) p = p := rfl
theorem r_bool {p : Prop} {n : Bool} : offRng (.bool n) p = p := rfl
theorem r_str {p : Prop} {n : Str} : offRng (.str n) p = p := rfl
theorem r_tup {p : Prop} {n : List AV} : offRng (.tup n) p = p := rfl
theorem r_fl {p : Prop} {n : List AV} : offRng (.fl n) p = p := rfl
theorem r_ref {p : Prop} {n : Nat} : offRng (.ref n) p = p := rfl
theorem r_none {p : Prop} : offRng .none p = p := rfl
theorem ite_t {a b : Prop} : (if true = true then a else b) = a := rfl
theorem ite_f {a b : Prop} : (if false = true then a else b) = b := rfl
theorem map_c {α β : Type} {f : α → β} {a : α} {l : List α} : List.map f (a :: l) = f a :: List.map f l := rfl
theorem map_n {α β : Type} {f : α → β} : List.map f [] = [] := rfl
theorem not_t : (!true) = false := rfl
theorem not_f : (!false) = true := rfl
/-- the two ways of a test -/
theorem brk {p : Prop} [Decidable p] {A B : Prop} (h1 : p → A) (h0 : ¬ p → B) : if decide p = true then A else B := by
  by_cases h : p
  · rw [decide_eq_true h]; exact h1 h
  · rw [decide_eq_false h]; exact h0 h
theorem brk_not {p : Prop} [Decidable p] {A B : Prop} (h1 : ¬ p → A) (h0 : p → B) : if (!decide p) = true then A else B := by
  by_cases h : p
  · rw [decide_eq_true h]; exact h0 h
  · rw [decide_eq_false h]; exact h1 h
local macro_rules | `(tactic| tm_at "wps") => do
  let ids : Array (Lean.TSyntax `ident) := ("o_bool o_int o_lfl o_lref r_int r_bool r_str r_tup r_fl r_ref r_none ite_t ite_f setAllO_nil setAllO_cons q_assign q_assignT q_setIdx q_mut q_popTo q_expr q_ite q_for1 q_forT q_while q_ret q_pass w_const w_var w_bin w_neg w_not w_and w_or w_cmp w_chain w_idx w_slc w_tup w_lst w_dct w_call w_prim w_isin w_isown w_meth w_comp w_nil w_cons w_t0 w_t1 b_add b_sub b_mul b_div b_mod b_pow b_adds b_rr b_rf b_fr b_ff b_rm c_lt c_le c_gt c_ge c_eq c_ne c_isn c_isnn p_len p_int p_lr p_lref p_lfl p_sorted p_all p_min p_max p_r1 p_r2 p_r3 l_fl l_tup l_ref l_str s_fl s_tup s_ref t_fl t_ref i_t20 i_t21 opt_some List.getElem?_cons_zero List.getElem?_cons_succ Option.join_some Option.map_some List.set_cons_zero List.set_cons_succ map_c map_n List.cons_append List.nil_append List.replicate_zero List.replicate_succ List.length_nil List.length_cons Nat.reduceAdd Nat.zero_add Int.reduceNeg not_t not_f".splitOn " ").toArray.map fun x => Lean.mkIdent x.toName
  `(tactic| try dsimp only [$[$ids:ident],*])
noncomputable def cs_cell_at : List CS := [
  .ite (.cmp .Lt (.var 1) (.prim .len [(.var 0)]))
    [.ret (.bin .Mod (.bin .Add (.bin .Mult (.idx (.var 0) (.var 1)) (.const (.int (48271)))) (.bin .Mult (.const (.int (7919))) (.var 1))) (.const (.int (2147483647))))]
    [],
  .ret (.const (.int (0)))]
noncomputable def IsCell (v : AV) (H : AH) : Prop := H = [] ∧ ∃ c : Int, v = .int c ∧ 0 ≤ c ∧ c < 2147483647
theorem cell_at_ok {P : PC} {l : Lv} {f : Nat} {ps rest : List Str} {X : Str → Prop} (F : FnIs P f ps rest cs_cell_at) (hp : ps.length = 2) (hr : rest.length = 0) (hk : 0 < l.k) (hq : l.q = true) {ns : List Int} (hn : ns.length ≤ 63) {k : Int} (h0 : 0 ≤ k) (h1 : k < 100000) :
    CallJ P l f [.fl (ns.map AV.int), .int k] IsCell X := by
  have er : rest = [] := List.length_eq_zero_iff.mp hr
  subst er
  refine F.call hk (by simp [hp]) ?_
  unfold cs_cell_at
  (refine wpSs_cons.mpr ?_; tm_at "wps")
  refine ⟨fun loc H => loc = [some (.fl (ns.map AV.int)), some (.int k)] ∧ H = [], ?_, ?_⟩
  · rintro loc H ⟨rfl, rfl⟩
    (refine wpSs_cons.mpr ?_; tm_at "wps")
    exact ⟨rfl, 0, rfl, by decide, by decide⟩
  refine ⟨hq, Nat.le_trans (Nat.le_of_eq (List.length_map _)) (Nat.le_trans hn (by decide)), brk (fun hh => ?_) fun _ => Cut.here ⟨rfl, rfl⟩⟩
  rw [List.length_map] at hh
  (refine wpSs_cons.mpr ?_; tm_at "wps")
  refine i_atI (L := ns) rfl (Nat.le_trans hn (by decide)) h0 hh fun z _ => ?_
  tm_at "wps"
  exact ⟨.inl (by decide), .inr (by decide), by decide, rfl, _, rfl, Int.emod_nonneg _ (by decide), Int.emod_lt_of_pos _ (by decide)⟩

open PySem PyProof.Rows PySem.SeqAt
theorem pick_run {α : Type} (xs : List α) (a : Nat) : ∀ m : Nat, ((List.range m).map (a + ·)).filterMap (xs[·]?) = (xs.drop a).take m
  | 0 => by simp
  | m + 1 => by
    rw [List.range_succ, List.map_append, List.filterMap_append, pick_run xs a m, List.take_succ]
    congr 1
    simp only [List.map_cons, List.map_nil, List.filterMap_cons, List.filterMap_nil, List.getElem?_drop]
    cases xs[a + m]? <;> rfl
theorem slPick_plain {α : Type} (xs : List α) (lo hi : Option Int) : slPick xs lo hi none = (xs.drop (lo.elim 0 (clipAt xs.length))).take (hi.elim xs.length (clipAt xs.length) - lo.elim 0 (clipAt xs.length)) := by
  unfold slPick
  rw [sliceBounds_plain]
  simp only
  rw [sliceRange_one, pick_run]
theorem clip_nat (n k : Nat) : clipAt n (k : Int) = min k n := by
  unfold clipAt
  split <;> omega
theorem slPick_upto {α : Type} (xs : List α) {k : Int} (h0 : 0 ≤ k) : slPick xs none (some k) none = xs.take k.toNat := by
  obtain ⟨j, rfl⟩ := Int.eq_ofNat_of_zero_le h0
  rw [slPick_plain]
  simp only [Option.elim_none, Option.elim_some, Int.ofNat_eq_natCast, List.drop_zero, Nat.sub_zero, Int.toNat_natCast]
  rw [clip_nat, List.take_eq_take_iff]
  omega
theorem slPick_from {α : Type} (xs : List α) {k : Int} (h0 : 0 ≤ k) : slPick xs (some k) none none = xs.drop k.toNat := by
  obtain ⟨j, rfl⟩ := Int.eq_ofNat_of_zero_le h0
  rw [slPick_plain]
  simp only [Option.elim_none, Option.elim_some, Int.ofNat_eq_natCast, Int.toNat_natCast]
  rw [clip_nat]
  by_cases h : j ≤ xs.length
  · rw [Nat.min_eq_left h, List.take_of_length_le]
    simp
  · rw [Nat.min_eq_right (by omega), List.drop_of_length_le (Nat.le_refl _), List.drop_of_length_le (by omega), List.take_nil]
open PySem PyProof.Rows PySem.SeqAt
section
variable {H : AH} {Q : AV → AH → Prop} {o : AV} {vs : List AV} {i k : Int}
theorem sl_upto (e : o.items? H = some vs) (hl : vs.length ≤ smallN) (h0 : 0 ≤ k) (h : Q (.ref H.length) (H ++ [vs.take k.toNat])) : opSlc o .none (.int k) .none H Q :=
  opSlc_l e ⟨vs, none, some k, none, e, hl, rfl, rfl, rfl, by simp, by rw [slPick_upto vs h0]; exact h⟩
theorem sl_from (e : o.items? H = some vs) (hl : vs.length ≤ smallN) (h0 : 0 ≤ k) (h : Q (.ref H.length) (H ++ [vs.drop k.toNat])) : opSlc o (.int k) .none .none H Q :=
  opSlc_l e ⟨vs, some k, none, none, e, hl, rfl, rfl, rfl, by simp, by rw [slPick_from vs h0]; exact h⟩
end

open PySem PyProof.Rows PySem.SeqAt

theorem i_any {H : AH} {Q : AV → AH → Prop} {k : Int} {o : AV} {vs : List AV} (e : o.seq? H = some vs) (hl : vs.length ≤ smallN) (h0 : 0 ≤ k) (h1 : k < vs.length) (h : ∀ w ∈ vs, Q w H) : opIdx o (.int k) H Q := by
  have hk : k.toNat < vs.length := by omega
  exact i_at e hl h0 h1 (w := vs[k.toNat]) (by simp [hk]) (h _ (List.getElem_mem hk))
theorem call_cell {P : PC} {l : Lv} {f : Nat} {H : AH} {Q : AV → AH → Prop} {X : Str → Prop} {ns : List Int} {k : Int} (hc : ∀ k : Int, 0 ≤ k → k < 100000 → CallJ P l f [.fl (ns.map AV.int), .int k] IsCell X) (h0 : 0 ≤ k) (h1 : k < 100000) (h : ∀ c : Int, 0 ≤ c → c < 2147483647 → Q (.int c) H) : CallP P l f [.fl (ns.map AV.int), .int k] H Q X := by
  refine CallP.plain (.cons (.fl (Rens.ints ns)) (.cons (.int k) .nil)) (hc k h0 h1) fun v Hc q => ?_
  obtain ⟨rfl, c, rfl, h2, h3⟩ := q
  simpa [sh_none, sh_bool, sh_int, sh_str, sh_ref, sh_tup, sh_fl] using h c h2 h3
theorem i_last {H : AH} {Q : AV → AH → Prop} {o : AV} {L : List Int} (e : o.seq? H = some (L.map AV.int)) (hl : L.length ≤ smallN) (h0 : 0 < L.length) (h : ∀ z ∈ L, Q (.int z) H) : opIdx o (.int (-1)) H Q := by
  refine i_neg (d := 1) e (by rw [List.length_map]; exact hl) rfl (by decide) (by rw [List.length_map]; exact h0) (w := .int (L[L.length - 1]'(by omega))) (by rw [List.length_map, List.getElem?_map, List.getElem?_eq_getElem (by omega)]; rfl) (h _ (List.getElem_mem _))
theorem rngList1 (a b : Int) : rngList a b 1 = (List.range (b - a).toNat).map fun (i : Nat) => a + (i : Int) := by
  have e : (Builtin.Range.rangeSize a b 1).toNat = (b - a).toNat := by
    unfold Builtin.Range.rangeSize
    split <;> omega
  unfold rngList
  rw [e]
  simp
theorem rngList1_len (a b : Int) : (rngList a b 1).length = (b - a).toNat := by rw [rngList1]; simp
theorem rngList1_get {a b : Int} {k : Nat} {u : AV} (e : ((rngList a b 1).map AV.int)[k]? = some u) : u = .int (a + (k : Int)) ∧ (k : Int) < b - a := by
  rw [rngList1] at e
  simp only [List.map_map, List.getElem?_map, Option.map_eq_some_iff, List.getElem?_range] at e
  obtain ⟨j, ⟨h1, rfl⟩, rfl⟩ := by
    simpa [List.getElem?_eq_some_iff] using e
  exact ⟨rfl, by omega⟩
theorem m_ins0 {H : AH} {xs : List AV} {v : AV} (h : xs.length < smallN) : opMut H .insert xs [.int 0, v] = some (v :: xs) := by
  simp [opMut, mut2, h, insAt]
theorem m_app {H : AH} {xs : List AV} {v : AV} (h : xs.length < smallN) : opMut H .append xs [v] = some (xs ++ [v]) := by
  simp [opMut, mut1, h]
noncomputable def Mk (x : Str) : Prop := x = "hill" ∨ x = "valley"

theorem cat_le {A B : List AV} {m n : Nat} (h1 : A.length ≤ m) (h2 : B.length ≤ n) (h : m + n ≤ smallN) : A.length + B.length ≤ smallN := Nat.le_trans (Nat.add_le_add h1 h2) h
theorem cat_n {A : List AV} {m n : Nat} (h1 : A.length ≤ m) (h : m + n ≤ smallN) : A.length + n ≤ smallN := Nat.le_trans (Nat.add_le_add_right h1 n) h
theorem app_le {A B : List AV} {m n : Nat} (h1 : A.length ≤ m) (h2 : B.length ≤ n) : (A ++ B).length ≤ m + n := by rw [List.length_append]; exact Nat.add_le_add h1 h2
theorem take_le {A : List AV} {m k : Nat} (h : A.length ≤ m) : (A.take k).length ≤ m := by rw [List.length_take]; exact Nat.le_trans (Nat.min_le_right _ _) h
theorem drop_le {A : List AV} {m k : Nat} (h : A.length ≤ m) : (A.drop k).length ≤ m := by rw [List.length_drop]; exact Nat.le_trans (Nat.sub_le _ _) h

noncomputable def csA : List CS := [
  .mut .insert (.var 3) [(.const (.int (0))), (.bin .Add (.const (.int (1))) (.bin .Mod (.bin .FloorDiv (.var 6) (.const (.int (6)))) (.idx (.var 3) (.const (.int (0))))))],
  .mut .insert (.var 4) [(.const (.int (0))), (.var 7)]]
noncomputable def csB : List CS := [
  .mut .append (.var 3) [(.bin .Add (.const (.int (1))) (.bin .Mod (.bin .FloorDiv (.var 6) (.const (.int (6)))) (.idx (.var 3) (.neg (.const (.int (1)))))))],
  .mut .append (.var 4) [(.var 7)]]
noncomputable def csC : List CS := [
  .assign 8 (.bin .Mod (.bin .FloorDiv (.var 6) (.const (.int (6)))) (.prim .len [(.var 3)])),
  .assign 9 (.bin .Mod (.bin .FloorDiv (.var 6) (.const (.int (60)))) (.idx (.var 3) (.var 8))),
  .assign 10 (.bin .Add (.const (.int (1))) (.bin .Mod (.bin .FloorDiv (.var 6) (.const (.int (420)))) (.bin .Sub (.idx (.var 3) (.var 8)) (.var 9)))),
  .assign 3 (.bin .Add (.bin .Add (.slc (.var 3) (.const .none) (.var 8) (.const .none)) (.lst [(.bin .Add (.var 10) (.var 9)), (.var 10), (.bin .Sub (.idx (.var 3) (.var 8)) (.var 9))])) (.slc (.var 3) (.bin .Add (.var 8) (.const (.int (1)))) (.const .none) (.const .none))),
  .assign 4 (.bin .Add (.bin .Add (.slc (.var 4) (.const .none) (.var 8) (.const .none)) (.lst [(.var 7), (.idx (.lst [(.const (.str "valley")), (.const (.str "hill"))]) (.bin .Mod (.bin .FloorDiv (.var 6) (.const (.int (3)))) (.const (.int (2)))))])) (.slc (.var 4) (.var 8) (.const .none) (.const .none)))]
noncomputable def csL : List CS := [.ite (.cmp .Lt (.prim .len [(.var 3)]) (.const (.int (29)))) csC []]
noncomputable def csM : List CS := [.ite (.and (.cmp .Eq (.bin .Mod (.var 6) (.const (.int (3)))) (.const (.int (1)))) (.cmp .Lt (.prim .len [(.var 3)]) (.const (.int (30))))) csB csL]
noncomputable def csN : List CS := [.ite (.and (.cmp .Eq (.bin .Mod (.var 6) (.const (.int (3)))) (.const (.int (0)))) (.cmp .Lt (.prim .len [(.var 3)]) (.const (.int (30))))) csA csM]
noncomputable def csBody (fc : Nat) : List CS :=
  .assign 6 (.bin .Add (.call fc [(.var 0), (.bin .Add (.bin .Add (.var 1) (.const (.int (1)))) (.bin .Mod (.var 5) (.const (.int (12)))))]) (.bin .Mult (.const (.int (31))) (.var 5))) ::
  .assign 7 (.idx (.lst [(.const (.str "hill")), (.const (.str "valley"))]) (.bin .Mod (.bin .FloorDiv (.var 6) (.const (.int (3)))) (.const (.int (2))))) :: csN
noncomputable def cs_unfolded (fc : Nat) : List CS := [
  .assign 3 (.lst [(.bin .Add (.const (.int (1))) (.bin .Mod (.call fc [(.var 0), (.var 1)]) (.const (.int (9)))))]),
  .assign 4 (.lst []),
  .for1 5 (.prim .range [(.var 2)]) (csBody fc),
  .ret (.tup [(.var 3), (.var 4)])]

/-- a strip's lists -/
structure StripIs (top : Int) (ns : List Int) (ms : List Str) : Prop where
  len : ns.length = ms.length + 1
  most : ns.length ≤ 30
  nums : ∀ n ∈ ns, 1 ≤ n ∧ n ≤ top
  marks : ∀ m ∈ ms, Mk m
/-- a strip is given back -/
noncomputable def GivesStrip (top : Int) (v : AV) (H : AH) : Prop := ∃ ns ms, StripIs top ns ms ∧ v = .tup [.ref 0, .ref 1] ∧ H = [ns.map AV.int, ms.map AV.str]

/-- the state behind a turn -/
noncomputable def UR (sc : List Int) (first many : Int) (loc : Loc) (H : AH) : Prop := ∃ ns ms, StripIs 9 ns ms ∧ loc = [some (.fl (sc.map AV.int)), some (.int first), some (.int many), some (.ref 0), some (.ref 1), none, none, none, none, none, none, some (.rng 0 many 1)] ∧ H = [ns.map AV.int, ms.map AV.str]
noncomputable def UI (sc : List Int) (first many : Int) (loc : Loc) (H : AH) : Prop := ∃ ns ms, StripIs 9 ns ms ∧ loc = [some (.fl (sc.map AV.int)), some (.int first), some (.int many), some (.ref 0), some (.ref 1), none, none, none, none, none, none] ∧ H = [ns.map AV.int, ms.map AV.str]
theorem UR.cut {sc : List Int} {first many : Int} {a b : Nat} {o5 o6 o7 o8 o9 o10 : Option AV} {H : AH} {ns : List Int} {ms : List Str} (hS : StripIs 9 ns ms) (ha : H[a]? = some (ns.map AV.int)) (hb : H[b]? = some (ms.map AV.str)) (hne : a ≠ b) :
    Cut (UR sc first many) [some (.fl (sc.map AV.int)), some (.int first), some (.int many), some (.ref a), some (.ref b), o5, o6, o7, o8, o9, o10, some (.rng 0 many 1)] H := by
  refine ⟨_, _, .inr ⟨[a, b], RenH.two ha hb hne (Rens.ints ns) (Rens.strs ms), ?_⟩, ns, ms, hS, rfl, rfl⟩
  exact .keep (.fl (Rens.ints sc)) (.keep (.int _) (.keep (.int _) (.keep (.ref rfl) (.keep (.ref rfl) (.drop (.drop (.drop (.drop (.drop (.drop (.keep (.rng _ _ _) .nil)))))))))))
noncomputable def uL (sc : List Int) (first many k C : Int) (mk : Str) : Loc := [some (.fl (sc.map AV.int)), some (.int first), some (.int many), some (.ref 0), some (.ref 1), some (.int k), some (.int C), some (.str mk), none, none, none, some (.rng 0 many 1)]
noncomputable def uH (ns : List Int) (ms : List Str) : AH := [ns.map AV.int, ms.map AV.str, [.str "hill", .str "valley"]]
section
variable {ns : List Int} {ms : List Str}
theorem StripIs.pos {top : Int} (h : StripIs top ns ms) : (0 : Int) < ns.length := by rw [h.len]; exact Int.natCast_pos.mpr (Nat.succ_pos _)
theorem StripIs.small {top : Int} (h : StripIs top ns ms) : ns.length < smallN := Nat.lt_of_le_of_lt h.most (by decide)
theorem StripIs.lm {top : Int} (h : StripIs top ns ms) : ms.length < 30 := by have := h.len; have := h.most; omega
theorem StripIs.small2 {top : Int} (h : StripIs top ns ms) : ms.length < smallN := Nat.lt_trans h.lm (by decide)
theorem mapI_le {n : Nat} (h : ns.length ≤ n) : (ns.map AV.int).length ≤ n := by rw [List.length_map]; exact h
theorem mapS_le {n : Nat} (h : ms.length ≤ n) : (ms.map AV.str).length ≤ n := by rw [List.length_map]; exact h
theorem mapI_lt {n : Nat} (h : ns.length < n) : (ns.map AV.int).length < n := by rw [List.length_map]; exact h
theorem mapS_lt {n : Nat} (h : ms.length < n) : (ms.map AV.str).length < n := by rw [List.length_map]; exact h
theorem StripIs.nine {z C : Int} (h : StripIs 9 ns ms) (hz : z ∈ ns) : 1 ≤ 1 + C % z ∧ 1 + C % z ≤ 9 := by
  have h1 := h.nums z hz
  have h2 := Int.emod_nonneg C (b := z) (by omega)
  have h3 := Int.emod_lt_of_pos C (b := z) (by omega)
  omega
theorem StripIs.consA {z C : Int} {mk : Str} (h : StripIs 9 ns ms) (hz : z ∈ ns) (hm : Mk mk) (hl : ns.length < 30) : StripIs 9 ((1 + C % z) :: ns) (mk :: ms) :=
  ⟨congrArg (· + 1) h.len, hl, fun n hn => (List.mem_cons.mp hn).elim (fun e => e ▸ h.nine hz) (h.nums n), fun m hn => (List.mem_cons.mp hn).elim (fun e => e ▸ hm) (h.marks m)⟩
theorem StripIs.snocB {z C : Int} {mk : Str} (h : StripIs 9 ns ms) (hz : z ∈ ns) (hm : Mk mk) (hl : ns.length < 30) : StripIs 9 (ns ++ [1 + C % z]) (ms ++ [mk]) := by
  refine ⟨?_, ?_, fun n hn => (List.mem_append.mp hn).elim (h.nums n) fun e => List.mem_singleton.mp e ▸ h.nine hz, fun m hn => (List.mem_append.mp hn).elim (h.marks m) fun e => List.mem_singleton.mp e ▸ hm⟩
  · rw [List.length_append, List.length_append, h.len]; rfl
  · rw [List.length_append]; exact hl
theorem mid_len3 {α : Type} {l : List α} {p : Nat} {a b c : α} (hp : p < l.length) : (l.take p ++ [a, b, c] ++ l.drop (p + 1)).length = l.length + 2 := by
  rw [List.length_append, List.length_append, List.length_take_of_le (Nat.le_of_lt hp), List.length_drop]
  show p + 3 + _ = _
  omega
theorem mid_len2 {α : Type} {l : List α} {p : Nat} {a b : α} (hp : p ≤ l.length) : (l.take p ++ [a, b] ++ l.drop p).length = l.length + 2 := by
  rw [List.length_append, List.length_append, List.length_take_of_le hp, List.length_drop]
  show p + 2 + _ = _
  omega
theorem StripIs.midC {z st sh : Int} {p : Nat} {m1 m2 : Str} (h : StripIs 9 ns ms) (hz : z ∈ ns) (h1 : 0 ≤ st) (h2 : st < z) (h3 : 1 ≤ sh) (h4 : sh ≤ z - st) (hp : p < ns.length) (k1 : Mk m1) (k2 : Mk m2) (hl : ns.length < 29) :
    StripIs 9 (ns.take p ++ [sh + st, sh, z - st] ++ ns.drop (p + 1)) (ms.take p ++ [m1, m2] ++ ms.drop p) := by
  have hz := h.nums z hz
  have e := h.len
  have l1 := mid_len3 (a := sh + st) (b := sh) (c := z - st) hp
  refine ⟨by rw [l1, mid_len2 (Nat.le_of_lt_succ (Nat.lt_of_lt_of_le hp (Nat.le_of_eq e))), e], by rw [l1]; exact Nat.succ_le_succ hl, fun n hn => ?_, fun m hm => ?_⟩
  · simp only [List.mem_append] at hn
    rcases hn with (hn | hn) | hn
    · exact h.nums n (List.mem_of_mem_take hn)
    · clear l1 e hp hl h; simp at hn; omega
    · exact h.nums n (List.mem_of_mem_drop hn)
  · simp only [List.mem_append] at hm
    rcases hm with (hm | hm) | hm
    · exact h.marks m (List.mem_of_mem_take hm)
    · simp at hm
      rcases hm with rfl | rfl
      · exact k1
      · exact k2
    · exact h.marks m (List.mem_of_mem_drop hm)
theorem mk_of {w : AV} {a b : Str} (ha : Mk a) (hb : Mk b) (h : w ∈ [AV.str a, AV.str b]) : ∃ mk, w = .str mk ∧ Mk mk := by
  rcases List.mem_cons.mp h with rfl | h
  · exact ⟨_, rfl, ha⟩
  · exact ⟨_, List.mem_singleton.mp h, hb⟩
variable {P : PC} {l : Lv} {Qr : AV → AH → Prop} {Qx : Str → Loc → AH → Prop} {sc : List Int} {first many k C : Int} {mk : Str}
theorem un_A (hS : StripIs 9 ns ms) (hm : Mk mk) (hl : ns.length < 30) : wpSs P l csA (uL sc first many k C mk) (uH ns ms) (Cut (UR sc first many)) Qr Qx := by
  unfold csA uL uH
  (refine wpSs_cons.mpr ?_; tm_at "wps")
  refine ⟨by decide, i_atI (L := ns) rfl (Nat.le_of_lt hS.small) (by decide) hS.pos fun z hz => ?_⟩
  tm_at "wps"
  refine ⟨(hS.nums z (List.mem_of_getElem? hz)).1, _, _, _, rfl, rfl, m_ins0 (mapI_lt hS.small), (fun _ _ e => nomatch e), ?_⟩
  (refine wpSs_cons.mpr ?_; tm_at "wps")
  refine ⟨_, _, _, rfl, rfl, m_ins0 (mapS_lt hS.small2), (fun _ _ e => nomatch e), ?_⟩
  exact UR.cut (ns := (1 + C / 6 % z) :: ns) (ms := mk :: ms) (hS.consA (List.mem_of_getElem? hz) hm hl) rfl rfl (by decide)
theorem un_B (hS : StripIs 9 ns ms) (hm : Mk mk) (hl : ns.length < 30) : wpSs P l csB (uL sc first many k C mk) (uH ns ms) (Cut (UR sc first many)) Qr Qx := by
  unfold csB uL uH
  (refine wpSs_cons.mpr ?_; tm_at "wps")
  refine ⟨by decide, i_last (L := ns) rfl (Nat.le_of_lt hS.small) (Int.natCast_pos.mp hS.pos) fun z hz => ?_⟩
  tm_at "wps"
  refine ⟨(hS.nums z hz).1, _, _, _, rfl, rfl, m_app (mapI_lt hS.small), (fun _ _ e => nomatch e), ?_⟩
  (refine wpSs_cons.mpr ?_; tm_at "wps")
  refine ⟨_, _, _, rfl, rfl, m_app (mapS_lt hS.small2), (fun _ _ e => nomatch e), ?_⟩
  exact UR.cut (ns := ns ++ [1 + C / 6 % z]) (ms := ms ++ [mk]) (hS.snocB hz hm hl) (by rw [List.map_append]; rfl) (by rw [List.map_append]; rfl) (by decide)
theorem un_C (hq : l.q = true) (hS : StripIs 9 ns ms) (hm : Mk mk) (hl : ns.length < 29) : wpSs P l csC (uL sc first many k C mk) (uH ns ms) (Cut (UR sc first many)) Qr Qx := by
  have sA := mapI_le hS.most
  have sB := mapS_le (Nat.le_of_lt hS.lm)
  have sa : (ns.map AV.int).length ≤ smallN := Nat.le_trans sA (by decide)
  have sb : (ms.map AV.str).length ≤ smallN := Nat.le_trans sB (by decide)
  have hp := hS.pos
  rw [← List.length_map (as := ns) AV.int] at hp
  unfold csC uL uH
  (refine wpSs_cons.mpr ?_; tm_at "wps")
  refine ⟨by decide, hq, sa, hp, ?_⟩
  generalize hpe : C / 6 % ((ns.map AV.int).length : Int) = p
  have hp0 : 0 ≤ p := hpe ▸ Int.emod_nonneg _ (Int.ne_of_gt hp)
  have hp1 : p < ns.length := by have := hpe ▸ Int.emod_lt_of_pos (C / 6) hp; rwa [List.length_map] at this
  clear hpe hp
  (refine wpSs_cons.mpr ?_; tm_at "wps")
  refine ⟨by decide, i_atI (L := ns) rfl (Nat.le_of_lt hS.small) hp0 hp1 fun z hz => ?_⟩
  have hz9 := (hS.nums z (List.mem_of_getElem? hz)).1
  tm_at "wps"
  refine ⟨hz9, ?_⟩
  generalize hst : C / 60 % z = st
  have hst0 : 0 ≤ st := hst ▸ Int.emod_nonneg _ (Int.ne_of_gt hz9)
  have hst1 : st < z := hst ▸ Int.emod_lt_of_pos _ hz9
  clear hst
  (refine wpSs_cons.mpr ?_; tm_at "wps")
  refine ⟨by decide, i_atI (L := ns) rfl (Nat.le_of_lt hS.small) hp0 hp1 fun z' hz' => ?_⟩
  cases Option.some.inj (hz.symm.trans hz')
  tm_at "wps"
  refine ⟨Int.sub_pos_of_lt hst1, ?_⟩
  generalize hsh : 1 + C / 420 % (z - st) = sh
  have hsh0 : 1 ≤ sh := hsh ▸ Int.le_add_of_nonneg_right (Int.emod_nonneg _ (Int.ne_of_gt (Int.sub_pos_of_lt hst1)))
  have hsh1 : sh ≤ z - st := by have := Int.emod_lt_of_pos (C / 420) (Int.sub_pos_of_lt hst1); omega
  clear hsh
  (refine wpSs_cons.mpr ?_; tm_at "wps")
  refine sl_upto rfl sa hp0 (i_atI (L := ns) rfl (Nat.le_of_lt hS.small) hp0 hp1 fun z' hz' => ?_)
  cases Option.some.inj (hz.symm.trans hz')
  tm_at "wps"
  refine ⟨by decide, cat_n (take_le sA) (by decide), sl_from rfl sa (Int.le_add_one hp0) ⟨cat_le (app_le (n := 3) (take_le sA) (Nat.le_refl 3)) (drop_le sA) (by decide), ?_⟩⟩
  (refine wpSs_cons.mpr ?_; tm_at "wps")
  refine sl_upto rfl sb hp0 ?_
  tm_at "wps"
  refine ⟨by decide, ⟨by decide, by decide⟩, by decide, i_any rfl (by decide) (Int.emod_nonneg _ (by decide)) (Int.emod_lt_of_pos _ (by decide)) fun w hw => ?_⟩
  obtain ⟨mk2, rfl, hmk2⟩ := mk_of (.inr rfl) (.inl rfl) hw
  tm_at "wps"
  refine ⟨by decide, cat_n (take_le sB) (by decide), sl_from rfl sb hp0 ⟨cat_le (app_le (n := 2) (take_le sB) (Nat.le_refl 2)) (drop_le sB) (by decide), ?_⟩⟩
  have e2 : (p + 1).toNat = p.toNat + 1 := Int.toNat_add_nat hp0 1
  tm_at "wps"
  exact UR.cut (ns := ns.take p.toNat ++ [sh + st, sh, z - st] ++ ns.drop (p.toNat + 1)) (ms := ms.take p.toNat ++ [mk, mk2] ++ ms.drop p.toNat) (hS.midC (List.mem_of_getElem? hz) hst0 hst1 hsh0 hsh1 (by omega) hm hmk2 hl) (by rw [e2]; simp) (by simp) (by decide)
theorem un_0 (hS : StripIs 9 ns ms) : wpSs P l [] (uL sc first many k C mk) (uH ns ms) (Cut (UR sc first many)) Qr Qx := UR.cut hS rfl rfl (by decide)
theorem un_L (hq : l.q = true) (hS : StripIs 9 ns ms) (hm : Mk mk) : wpSs P l csL (uL sc first many k C mk) (uH ns ms) (Cut (UR sc first many)) Qr Qx := by
  show ∃ R : Loc → AH → Prop, _
  refine ⟨UR sc first many, fun loc H h => Cut.here h, hq, mapI_le (Nat.le_of_lt hS.small), ?_⟩
  show if decide (((ns.map AV.int).length : Int) < 29) = true then _ else _
  exact brk (fun h => un_C hq hS hm (by rw [List.length_map] at h; omega)) fun _ => un_0 hS
theorem un_M (hq : l.q = true) (hS : StripIs 9 ns ms) (hm : Mk mk) : wpSs P l csM (uL sc first many k C mk) (uH ns ms) (Cut (UR sc first many)) Qr Qx := by
  show ∃ R : Loc → AH → Prop, _
  refine ⟨UR sc first many, fun loc H h => Cut.here h, by decide, ?_⟩
  show if decide (C % 3 = 1) = true then _ else _
  refine brk (fun _ => ⟨hq, mapI_le (Nat.le_of_lt hS.small), ?_⟩) fun _ => un_L hq hS hm
  show if decide (((ns.map AV.int).length : Int) < 30) = true then _ else _
  exact brk (fun h => un_B hS hm (by rw [List.length_map] at h; omega)) fun _ => un_L hq hS hm
theorem un_N {Qn : Loc → AH → Prop} (hq : l.q = true) (hS : StripIs 9 ns ms) (hm : Mk mk) (hQ : ∀ loc H, UR sc first many loc H → Qn loc H) : wpSs P l csN (uL sc first many k C mk) (uH ns ms) Qn Qr Qx := by
  show ∃ R : Loc → AH → Prop, _
  refine ⟨UR sc first many, hQ, by decide, ?_⟩
  show if decide (C % 3 = 0) = true then _ else _
  refine brk (fun _ => ⟨hq, mapI_le (Nat.le_of_lt hS.small), ?_⟩) fun _ => un_M hq hS hm
  show if decide (((ns.map AV.int).length : Int) < 30) = true then _ else _
  exact brk (fun h => un_A hS hm (by rw [List.length_map] at h; omega)) fun _ => un_M hq hS hm
end
theorem unfolded_ok {P : PC} {l : Lv} {f fc : Nat} {ps rest : List Str} {X : Str → Prop} (F : FnIs P f ps rest (cs_unfolded fc)) (hp : ps.length = 3) (hr : rest.length = 8) (hk : 1 < l.k) (hq : l.q = true) {sc : List Int}
    (hc : ∀ k : Int, 0 ≤ k → k < 100000 → CallJ P ⟨l.k - 1, l.q⟩ fc [.fl (sc.map AV.int), .int k] IsCell X) {first many : Int} (h0 : 0 ≤ first) (h1 : first < 1000) (h2 : 0 ≤ many) (h3 : many ≤ 33) :
    CallJ P l f [.fl (sc.map AV.int), .int first, .int many] (GivesStrip 9) X := by
  have hk' : 0 < l.k - 1 := Nat.sub_pos_of_lt hk
  refine CallJ.ren (F.call (Nat.lt_of_succ_lt hk) (by simp [hp]) ?_)
  rw [hr]
  unfold cs_unfolded
  (refine wpSs_cons.mpr ?_; tm_at "wps")
  refine ⟨hk', call_cell hc h0 (Int.lt_trans h1 (by decide)) fun c _ _ => ?_⟩
  tm_at "wps"
  refine ⟨by decide, by decide, ?_⟩
  (refine wpSs_cons.mpr ?_; tm_at "wps")
  refine ⟨by decide, ?_⟩
  (refine wpSs_cons.mpr ?_; tm_at "wps")
  refine ⟨hq, hq, ⟨by decide, by omega, by decide⟩, many.toNat, .rng 0 many 1, fun k v loc H => v = .rng 0 many 1 ∧ UI sc first many loc H, ?_, ?_, ?_, ?_, ?_⟩
  · exact ⟨_, _, _, .inl ⟨rfl, rfl⟩, rfl, rfl, [1 + c % 9], [], ⟨rfl, (show 1 ≤ 30 by decide), fun n hn => by rw [List.mem_singleton.mp hn]; omega, fun m hm => nomatch hm⟩, rfl, rfl⟩
  · rintro k v loc H hk ⟨rfl, _⟩
    exact ⟨rfl, _, rfl, by simp [rngList1_len]⟩
  · unfold smallN; omega
  · rintro k v loc H its u hk hl ⟨rfl, ns, ms, hS, rfl, rfl⟩ ei eu
    cases ei
    obtain ⟨rfl, hkm⟩ := rngList1_get eu
    unfold csBody
    (refine wpSs_cons.mpr ?_; tm_at "wps")
    refine ⟨hk', by decide, call_cell hc (by omega) (by omega) fun c hc0 _ => ?_⟩
    tm_at "wps"
    refine ⟨.inr (by decide), ?_⟩
    (refine wpSs_cons.mpr ?_; tm_at "wps")
    refine ⟨by decide, ⟨by decide, by decide⟩, by decide, i_any rfl (by decide) (Int.emod_nonneg _ (by decide)) (Int.emod_lt_of_pos _ (by decide)) fun w hw => ?_⟩
    obtain ⟨mk, rfl, hmk⟩ := mk_of (.inl rfl) (.inr rfl) hw
    exact un_N hq hS hmk fun loc H ⟨ns, ms, hS, e1, e2⟩ => ⟨_, _, H, .inl ⟨e1, rfl⟩, rfl, rfl, ns, ms, hS, rfl, e2⟩
  · rintro v loc H ⟨rfl, ns, ms, hS, rfl, rfl⟩
    (refine wpSs_cons.mpr ?_; tm_at "wps")
    exact ⟨by decide, [0, 1], _, _, RenH.two rfl rfl (by decide) (Rens.ints ns) (Rens.strs ms), .tup (.cons (.ref rfl) (.cons (.ref rfl) .nil)), ns, ms, hS, rfl, rfl⟩

open PySem PyProof.Rows PySem.SeqAt

section
variable {test : AV → (Bool → Prop) → Prop} {el : AV → (AV → Prop) → Prop}
theorem comp_map (g : AV → AV) : ∀ {items : List AV} {K : List AV → Prop}, (∀ x ∈ items, ∀ k : Bool → Prop, k true → test x k) → (∀ x ∈ items, ∀ k, k (g x) → el x k) → K (items.map g) → compItems test el items K
  | [], _, _, _, h => h
  | x :: r, K, ht, he, h => by
    refine ht x (.head _) _ ?_
    simp only [if_true]
    exact he x (.head _) _ (comp_map g (K := fun vs => K (g x :: vs)) (fun y hy => ht y (.tail _ hy)) (fun y hy => he y (.tail _ hy)) h)
theorem comp_of {β : Type} (c : β → AV) (Pb : β → Prop) : ∀ {items : List AV} {K : List AV → Prop}, (∀ x ∈ items, ∀ k : Bool → Prop, k true → test x k) → (∀ x ∈ items, ∀ k, (∀ b, Pb b → k (c b)) → el x k) → (∀ bs : List β, bs.length = items.length → (∀ b ∈ bs, Pb b) → K (bs.map c)) → compItems test el items K
  | [], _, _, _, h => h [] rfl (by simp)
  | x :: r, K, ht, he, h => by
    refine ht x (.head _) _ ?_
    simp only [if_true]
    refine he x (.head _) _ fun b hb => ?_
    refine comp_of c Pb (K := fun vs => K (c b :: vs)) (fun y hy => ht y (.tail _ hy)) (fun y hy => he y (.tail _ hy)) fun bs hl hp => ?_
    exact h (b :: bs) (by simp [hl]) (by intro z hz; rcases List.mem_cons.mp hz with rfl | hz; exact hb; exact hp z hz)
end
theorem opt_bind0 {x : AV} {k : List (Option AV) → Prop} (h : k [some x]) : opt (bindItem 0 x) k := h
theorem mk_ok {x : Str} (h : Mk x) : PyData.strOk x = true := by rcases h with rfl | rfl <;> decide +kernel
theorem Rds.marks {H : AH} {k : Nat} {ms : List Str} (h : ∀ m ∈ ms, Mk m) : Rds H k (ms.map AV.str) (ms.map PyData.str) := Rds.ofAll fun x hx => .str x (mk_ok (h x hx))

/-- a call that gives a strip back -/
theorem call_strip {P : PC} {l : Lv} {f : Nat} {vs : List AV} {H : AH} {Q : AV → AH → Prop} {X : Str → Prop} {top : Int} (hr : Rens [] H vs vs) (hu : CallJ P l f vs (GivesStrip top) X)
    (h : ∀ ns ms, StripIs top ns ms → Q (.tup [.ref H.length, .ref (H.length + 1)]) (H ++ [ns.map AV.int, ms.map AV.str])) : CallP P l f vs H Q X :=
  CallP.plain hr hu fun v Hc ⟨ns, ms, hS, e1, e2⟩ => by
    subst e1 e2
    have := h ns ms hS
    rw [← shifts_ints H.length ns, ← shifts_strs H.length ms] at this
    exact this
noncomputable def s3 (fc : Nat) : CS := .ite (.cmp .Eq (.bin .Mod (.var 1) (.const (.int (2)))) (.const (.int (1))))
    [      .assign 4 (.comp (.bin .Add (.call fc [(.var 0), (.bin .Add (.const (.int (3))) (.var 1))]) (.bin .Mult (.const (.int (17))) (.var 1))) [] [0] 0 (.prim .range [(.bin .Add (.const (.int (1))) (.bin .Mod (.bin .FloorDiv (.var 1) (.const (.int (2)))) (.const (.int (7)))))])),
      .assign 2 (.comp (.bin .Add (.const (.int (1))) (.bin .Mod (.bin .FloorDiv (.var 1) (.const (.int (2)))) (.idx (.lst [(.const (.int (2))), (.const (.int (3))), (.const (.int (6))), (.const (.int (9)))]) (.bin .Mod (.bin .FloorDiv (.var 0) (.const (.int (14)))) (.const (.int (4))))))) [] [1] 0 (.var 4)),
      .assign 3 (.comp (.idx (.lst [(.const (.str "hill")), (.const (.str "valley"))]) (.bin .Mod (.var 0) (.const (.int (2))))) [] [] 0 (.slc (.var 4) (.const (.int (1))) (.const .none) (.const .none)))]
    []
noncomputable def s5 : CS := .ite (.and (.cmp .Eq (.bin .Mod (.var 6) (.const (.int (4)))) (.const (.int (1)))) (.cmp .NotEq (.var 3) (.lst [])))
    [      .assign 7 (.bin .Mod (.bin .FloorDiv (.var 6) (.const (.int (4)))) (.prim .len [(.var 3)])),
      .setIdx (.var 3) (.var 7) (.idx (.lst [(.const (.str "hill")), (.const (.str "valley"))]) (.prim .int [(.cmp .Eq (.idx (.var 3) (.var 7)) (.const (.str "hill")))]))]
    []
noncomputable def s6 : CS := .ite (.cmp .Eq (.bin .Mod (.var 6) (.const (.int (4)))) (.const (.int (2))))
    [      .setIdx (.var 2) (.bin .Mod (.bin .FloorDiv (.var 6) (.const (.int (4)))) (.prim .len [(.var 2)])) (.bin .Add (.const (.int (1))) (.bin .Mod (.bin .FloorDiv (.var 6) (.const (.int (120)))) (.const (.int (9)))))]
    []
noncomputable def s8 : CS := .assign 8 (.comp (.bin .Mult (.idx (.lst [(.const (.int (1))), (.const (.int (1))), (.const (.int (1))), (.const (.int (7))), (.const (.int (100)))]) (.bin .Mod (.var 0) (.const (.int (5))))) (.var 1)) [] [5] 0 (.var 2))
noncomputable def s9 : CS := .ite (.cmp .Eq (.bin .Mod (.bin .FloorDiv (.var 5) (.const (.int (5)))) (.const (.int (8)))) (.const (.int (3))))
    [      .setIdx (.var 8) (.bin .Mod (.bin .FloorDiv (.var 5) (.const (.int (40)))) (.prim .len [(.var 8)])) (.idx (.lst [(.const (.int (1000))), (.const (.int (999))), (.bin .Add (.const (.int (1))) (.bin .Mod (.bin .FloorDiv (.var 5) (.const (.int (1200)))) (.const (.int (1000)))))]) (.bin .Mod (.bin .FloorDiv (.var 5) (.const (.int (1200)))) (.const (.int (3)))))]
    []
noncomputable def cs_strip (fc fu : Nat) : List CS := [
  .assign 1 (.call fc [(.var 0), (.const (.int (0)))]),
  .assignT [2, 3] (.call fu [(.var 0), (.const (.int (3))), (.idx (.lst [(.bin .Mod (.bin .FloorDiv (.var 1) (.const (.int (2)))) (.const (.int (10)))), (.bin .Mod (.bin .FloorDiv (.var 1) (.const (.int (20)))) (.const (.int (33))))]) (.prim .int [(.cmp .Eq (.bin .Mod (.bin .FloorDiv (.var 1) (.const (.int (660)))) (.const (.int (8)))) (.const (.int (1))))]))]),
  s3 fc,
  .assign 6 (.call fc [(.var 0), (.const (.int (1)))]),
  s5, s6,
  .assign 5 (.call fc [(.var 0), (.const (.int (2)))]),
  s8, s9,
  .ret (.tup [(.var 8), (.var 3)])]

theorem seqS {P : PC} {l : Lv} {c : CS} {r : List CS} {loc : Loc} {H : AH} {Qn : Loc → AH → Prop} {Qr : AV → AH → Prop} {Qx : Str → Loc → AH → Prop} (h : wpS P l c loc H (fun loc' H' => wpSs P l r loc' H' Qn Qr Qx) Qr Qx) : wpSs P l (c :: r) loc H Qn Qr Qx := h
/-- between the statements of a strip -/
noncomputable def SJ (top : Int) (a0 a1 a2 a3 a6 a8 : Option AV) (loc : Loc) (H : AH) : Prop := ∃ ns ms, StripIs top ns ms ∧ loc = [a0, a1, a2, a3, none, none, a6, none, a8] ∧ H = [ns.map AV.int, ms.map AV.str]
noncomputable def sFl (sc : List Int) : Option AV := some (.fl (sc.map AV.int))
section
variable {ns : List Int} {ms : List Str} {sc : List Int} {head more cell : Int} {a b : Nat} {H : AH} {o2 o4 o5 o6 o7 o8 : Option AV} {g : List AV}
theorem SJ.cut (hS : StripIs 9 ns ms) (ha : H[a]? = some (ns.map AV.int)) (hb : H[b]? = some (ms.map AV.str)) (hne : a ≠ b) :
    Cut (SJ 9 (sFl sc) (some (.int head)) (some (.ref 0)) (some (.ref 1)) none none) [sFl sc, some (.int head), some (.ref a), some (.ref b), o4, o5, o6, o7, o8] H :=
  ⟨_, _, .inr ⟨[a, b], RenH.two ha hb hne (Rens.ints ns) (Rens.strs ms), .keep (.fl (Rens.ints sc)) (.keep (.int _) (.keep (.ref rfl) (.keep (.ref rfl) (.drop (.drop (.drop (.drop (.drop .nil))))))))⟩, ns, ms, hS, rfl, rfl⟩
theorem SJ.cut6 (hS : StripIs 9 ns ms) (ha : H[a]? = some (ns.map AV.int)) (hb : H[b]? = some (ms.map AV.str)) (hne : a ≠ b) :
    Cut (SJ 9 (sFl sc) (some (.int head)) (some (.ref 0)) (some (.ref 1)) (some (.int more)) none) [sFl sc, some (.int head), some (.ref a), some (.ref b), o4, o5, some (.int more), o7, o8] H :=
  ⟨_, _, .inr ⟨[a, b], RenH.two ha hb hne (Rens.ints ns) (Rens.strs ms), .keep (.fl (Rens.ints sc)) (.keep (.int _) (.keep (.ref rfl) (.keep (.ref rfl) (.drop (.drop (.keep (.int _) (.drop (.drop .nil))))))))⟩, ns, ms, hS, rfl, rfl⟩
theorem SJ.cut8 (hS : StripIs 1000 ns ms) (ha : H[a]? = some (ns.map AV.int)) (hb : H[b]? = some (ms.map AV.str)) (hne : a ≠ b) :
    Cut (SJ 1000 (sFl sc) none none (some (.ref 1)) none (some (.ref 0))) [sFl sc, some (.int head), o2, some (.ref b), o4, o5, o6, o7, some (.ref a)] H :=
  ⟨_, _, .inr ⟨[a, b], RenH.two ha hb hne (Rens.ints ns) (Rens.strs ms), .keep (.fl (Rens.ints sc)) (.drop (.drop (.keep (.ref rfl) (.drop (.drop (.drop (.drop (.keep (.ref rfl) .nil))))))))⟩, ns, ms, hS, rfl, rfl⟩
theorem StripIs.setN {top v : Int} {p : Nat} (h : StripIs top ns ms) (hv : 1 ≤ v ∧ v ≤ top) : StripIs top (ns.set p v) ms :=
  ⟨by rw [List.length_set]; exact h.len, by rw [List.length_set]; exact h.most, fun n hn => (List.mem_or_eq_of_mem_set hn).elim (h.nums n) fun e => e ▸ hv, h.marks⟩
theorem StripIs.setM {top : Int} {v : Str} {p : Nat} (h : StripIs top ns ms) (hv : Mk v) : StripIs top ns (ms.set p v) :=
  ⟨by rw [List.length_set]; exact h.len, h.most, h.nums, fun n hn => (List.mem_or_eq_of_mem_set hn).elim (h.marks n) fun e => e ▸ hv⟩
theorem mod_len {L : List AV} {x : Int} (h : 0 < L.length) : 0 ≤ x % (L.length : Int) ∧ x % (L.length : Int) < L.length := ⟨Int.emod_nonneg _ (Int.ne_of_gt (Int.natCast_pos.mpr h)), Int.emod_lt_of_pos _ (Int.natCast_pos.mpr h)⟩
theorem int_of {w : AV} {lo hi : Int} {L : List Int} (hL : ∀ n ∈ L, lo ≤ n ∧ n ≤ hi) (h : w ∈ L.map AV.int) : ∃ m, w = .int m ∧ lo ≤ m ∧ m ≤ hi := by
  obtain ⟨m, hm, rfl⟩ := List.mem_map.mp h
  exact ⟨m, rfl, hL m hm⟩
theorem b01 (p : Bool) : (0 : Int) ≤ (if p then 1 else 0) ∧ (if p then 1 else 0 : Int) < (2 : Nat) := by cases p <;> decide
theorem all2 {p : Int → Prop} {x y : Int} (h1 : p x) (h2 : p y) : ∀ n ∈ [x, y], p n := fun n hn => (List.mem_cons.mp hn).elim (fun e => e ▸ h1) fun hn => List.mem_singleton.mp hn ▸ h2
theorem allc {p : Int → Prop} {x : Int} {L : List Int} (h1 : p x) (h2 : ∀ n ∈ L, p n) : ∀ n ∈ x :: L, p n := fun n hn => (List.mem_cons.mp hn).elim (fun e => e ▸ h1) (h2 n)
theorem emod_le {x n : Int} (h : 0 < n) {m : Int} (hm : n ≤ m + 1) : 0 ≤ x % n ∧ x % n ≤ m := ⟨Int.emod_nonneg _ (Int.ne_of_gt h), by have := Int.emod_lt_of_pos x h; omega⟩
variable {P : PC} {l : Lv} {X : Str → Prop} {Qn : Loc → AH → Prop} {Qr : AV → AH → Prop} {fc : Nat}
theorem st3_a {i m : Int} (h0 : 2 ≤ m) (h1 : m ≤ 9) : 0 < m ∧ 1 ≤ 1 + i / 2 % m ∧ 1 + i / 2 % m ≤ 9 := by
  have := emod_le (x := i / 2) (n := m) (by omega) (m := 8) (by omega)
  omega
theorem st3 (hq : l.q = true) (hk : 0 < l.k) (hc : ∀ k : Int, 0 ≤ k → k < 100000 → CallJ P l fc [.fl (sc.map AV.int), .int k] IsCell X) (hS : StripIs 9 ns ms)
    (hQ : ∀ loc H, SJ 9 (sFl sc) (some (.int head)) (some (.ref 0)) (some (.ref 1)) none none loc H → Qn loc H) :
    wpS P l (s3 fc) [sFl sc, some (.int head), some (.ref 1), some (.ref 2), none, none, none, none, none] [g, ns.map AV.int, ms.map AV.str] Qn Qr (fun c _ _ => X c) := by
  refine ⟨_, hQ, by decide, brk (fun _ => ?_) fun _ => SJ.cut hS rfl rfl (by decide)⟩
  unfold sFl
  (refine wpSs_cons.mpr ?_; tm_at "wps")
  have hN : 1 ≤ 1 + head / 2 % 7 ∧ 1 + head / 2 % 7 ≤ 7 := by have := emod_le (x := head / 2) (n := 7) (by decide) (m := 6) (by decide); omega
  refine ⟨hq, hq, ⟨by decide, by decide⟩, by decide, ⟨by decide, by omega, by decide⟩, ?_⟩
  generalize 1 + head / 2 % 7 = N at hN ⊢
  have hl : (rngList 0 N 1).length ≤ 7 := by rw [rngList1_len]; omega
  refine ⟨_, _, [some (.fl (sc.map AV.int))], rfl, Nat.le_trans (mapI_le hl) (by decide), Rens.ints _, .cons rfl (.fl (Rens.ints sc)) .nil, comp_of AV.int (fun n => 0 ≤ n) (fun x hx k hk => opt_bind0 hk) ?_ ?_⟩
  · intro x hx k hk1
    obtain ⟨i, hi, rfl⟩ := List.mem_map.mp hx
    rw [rngList1] at hi
    obtain ⟨j, hj, rfl⟩ := List.mem_map.mp hi
    have hj := List.mem_range.mp hj
    refine opt_bind0 ⟨hk, ?_⟩
    tm_at "wps"
    refine call_cell hc (by omega) (by omega) fun c hc0 _ => ?_
    exact ⟨.inr (by decide), _, .int _, .inr (.int _), hk1 _ (by omega)⟩
  · intro cs hcs hcp
    have h7 : cs.length ≤ 7 := by rw [hcs, List.length_map]; exact hl
    rw [List.length_map, rngList1_len] at hcs
    have h1 : 1 ≤ cs.length := by omega
    (refine wpSs_cons.mpr ?_; tm_at "wps")
    refine ⟨hq, _, _, [some (.int head)], rfl, Nat.le_trans (mapI_le h7) (by decide), Rens.ints _, .cons rfl (.int _) .nil, comp_of AV.int (fun n => 1 ≤ n ∧ n ≤ 9) (fun x hx k hk => opt_bind0 hk) ?_ ?_⟩
    · intro x hx k hk1
      obtain ⟨i, hi, rfl⟩ := List.mem_map.mp hx
      refine opt_bind0 ?_
      tm_at "wps"
      refine ⟨⟨by decide, by decide⟩, by decide, ⟨by decide, by decide⟩, by decide, i_any rfl (by decide) (Int.emod_nonneg _ (by decide)) (Int.emod_lt_of_pos _ (by decide)) fun w hw => ?_⟩
      obtain ⟨m, rfl, hm0, hm1⟩ := int_of (L := [2, 3, 6, 9]) (lo := 2) (hi := 9) (by decide) hw
      obtain ⟨q0, q1⟩ := st3_a (i := i) hm0 hm1
      exact ⟨q0, _, .int _, .inr (.int _), hk1 _ q1⟩
    · intro ns' hns hnp
      rw [List.length_map] at hns
      (refine wpSs_cons.mpr ?_; tm_at "wps")
      refine ⟨hq, sl_from rfl (Nat.le_trans (mapI_le h7) (by decide)) (by decide) ?_⟩
      tm_at "wps"
      refine ⟨_, (cs.drop 1).map AV.int, [], rfl, Nat.le_trans (drop_le (mapI_le h7)) (by decide), by rw [List.map_drop]; exact List.map_drop ▸ Rens.ints (φ := []) (cs.drop 1), .nil, comp_of AV.str Mk (fun x hx k hk => opt_bind0 hk) ?_ ?_⟩
      · intro x hx k hk1
        obtain ⟨i, hi, rfl⟩ := List.mem_map.mp hx
        refine opt_bind0 ?_
        tm_at "wps"
        refine ⟨by decide, by decide, i_any rfl (by decide) (Int.emod_nonneg _ (by decide)) (Int.emod_lt_of_pos _ (by decide)) fun w hw => ?_⟩
        obtain ⟨mk, rfl, hmk⟩ := mk_of (.inl rfl) (.inr rfl) hw
        exact ⟨_, .str _, .inr (.str _), hk1 _ hmk⟩
      · intro ms' hms hmp
        rw [List.length_map, List.length_drop] at hms
        exact SJ.cut (a := 4) (b := 6) (ns := ns') (ms := ms') ⟨by rw [hns, hms]; exact (Nat.sub_add_cancel h1).symm, Nat.le_trans (Nat.le_of_eq hns) (Nat.le_trans h7 (by decide)), hnp, hmp⟩ rfl rfl (by decide)
theorem st5 (hq : l.q = true) (hS : StripIs 9 ns ms) (hQ : ∀ loc H, SJ 9 (sFl sc) (some (.int head)) (some (.ref 0)) (some (.ref 1)) (some (.int more)) none loc H → Qn loc H) :
    wpS P l s5 [sFl sc, some (.int head), some (.ref 0), some (.ref 1), none, none, some (.int more), none, none] [ns.map AV.int, ms.map AV.str] Qn Qr (fun c _ _ => X c) := by
  refine ⟨_, hQ, by decide, brk (fun _ => ⟨by decide, _, _, .ref rfl (Rds.marks hS.marks), .ref rfl .nil, ?_⟩) fun _ => SJ.cut6 hS rfl rfl (by decide)⟩
  cases ms with
  | nil =>
    rw [show (PyData.list (List.map PyData.str [])).eqv (PyData.list []) = true from by decide +kernel]
    exact SJ.cut6 hS rfl rfl (by decide)
  | cons m0 mr =>
    rw [show (PyData.list (List.map PyData.str (m0 :: mr))).eqv (PyData.list []) = false from by simp [PyData.eqv, PyData.eqvAll]]
    have hp : 0 < ((m0 :: mr).map AV.str).length := Nat.succ_pos _
    have hs : ((m0 :: mr).map AV.str).length ≤ smallN := mapS_le (Nat.le_of_lt hS.small2)
    generalize m0 :: mr = ms at hS hp hs ⊢
    obtain ⟨hp0, hp1⟩ := mod_len (x := more / 4) hp
    tm_at "wps"
    (refine wpSs_cons.mpr ?_; tm_at "wps")
    refine ⟨⟨by decide, by decide⟩, hq, hs, Int.natCast_pos.mpr hp, ?_⟩
    generalize more / 4 % ((ms.map AV.str).length : Int) = p at hp0 hp1 ⊢
    (refine wpSs_cons.mpr ?_; tm_at "wps")
    refine ⟨by decide, hq, i_any rfl hs hp0 hp1 fun w hw => ?_⟩
    obtain ⟨z, hz, rfl⟩ := List.mem_map.mp hw
    refine ⟨_, _, .str _ (mk_ok (hS.marks z hz)), .str _ (mk_ok (.inl rfl)), ?_⟩
    tm_at "wps"
    refine i_any rfl (by decide) (b01 _).1 (b01 _).2 fun w hw => ?_
    obtain ⟨mk, rfl, hmk⟩ := mk_of (.inl rfl) (.inr rfl) hw
    refine ⟨_, _, _, rfl, rfl, rfl, hp0, hp1, hs, ?_⟩
    exact SJ.cut6 (a := 0) (b := 1) (ms := ms.set p.toNat mk) (hS.setM hmk) rfl (by rw [List.map_set]; rfl) (by decide)
theorem st6 (hq : l.q = true) (hS : StripIs 9 ns ms) (hQ : ∀ loc H, SJ 9 (sFl sc) (some (.int head)) (some (.ref 0)) (some (.ref 1)) none none loc H → Qn loc H) :
    wpS P l s6 [sFl sc, some (.int head), some (.ref 0), some (.ref 1), none, none, some (.int more), none, none] [ns.map AV.int, ms.map AV.str] Qn Qr (fun c _ _ => X c) := by
  refine ⟨_, hQ, by decide, brk (fun _ => ?_) fun _ => SJ.cut hS rfl rfl (by decide)⟩
  have hp : 0 < (ns.map AV.int).length := by rw [List.length_map]; exact Int.natCast_pos.mp hS.pos
  have hs : (ns.map AV.int).length ≤ smallN := mapI_le (Nat.le_of_lt hS.small)
  obtain ⟨hp0, hp1⟩ := mod_len (x := more / 4) hp
  (refine wpSs_cons.mpr ?_; tm_at "wps")
  refine ⟨⟨by decide, by decide⟩, by decide, ⟨by decide, by decide⟩, hq, hs, Int.natCast_pos.mpr hp, _, _, _, rfl, rfl, rfl, hp0, hp1, hs, ?_⟩
  exact SJ.cut (a := 0) (b := 1) (ns := ns.set _ _) (hS.setN (v := 1 + more / 120 % 9) (by have := emod_le (x := more / 120) (n := 9) (by decide) (m := 8) (by decide); omega)) (by rw [List.map_set]; rfl) rfl (by decide)
theorem st8 (hq : l.q = true) (hS : StripIs 9 ns ms) (hQ : ∀ ns', StripIs 1000 ns' ms → Qn [sFl sc, some (.int head), some (.ref 0), some (.ref 1), none, some (.int cell), none, none, some (.ref 2)] [ns.map AV.int, ms.map AV.str, ns'.map AV.int]) :
    wpS P l s8 [sFl sc, some (.int head), some (.ref 0), some (.ref 1), none, some (.int cell), none, none, none] [ns.map AV.int, ms.map AV.str] Qn Qr (fun c _ _ => X c) := by
  refine ⟨hq, _, _, [some (.int cell)], rfl, mapI_le (Nat.le_of_lt hS.small), Rens.ints _, .cons rfl (.int _) .nil, comp_of AV.int (fun n => 1 ≤ n ∧ n ≤ 1000) (fun x hx k hk => opt_bind0 hk) ?_ ?_⟩
  · intro x hx k hk
    obtain ⟨i, hi, rfl⟩ := List.mem_map.mp hx
    have hi' := hS.nums i hi
    refine opt_bind0 ?_
    tm_at "wps"
    refine ⟨by decide, by decide, i_any rfl (by decide) (Int.emod_nonneg _ (by decide)) (Int.emod_lt_of_pos _ (by decide)) fun w hw => ?_⟩
    obtain ⟨m, hm, rfl⟩ := List.mem_map.mp (show w ∈ [1, 1, 1, 7, 100].map AV.int from hw)
    replace hm : m = 1 ∨ m = 7 ∨ m = 100 := by simpa using hm
    exact ⟨.inl (by omega), _, .int _, .inr (.int _), hk _ (by rcases hm with rfl | rfl | rfl <;> omega)⟩
  · intro fs hfs hfp
    rw [List.length_map] at hfs
    exact hQ fs ⟨hfs.trans hS.len, hfs ▸ hS.most, hfp, hS.marks⟩
theorem st9 (hq : l.q = true) {L : List Int} (hS : StripIs 1000 ns ms) (hQ : ∀ loc H, SJ 1000 (sFl sc) none none (some (.ref 1)) none (some (.ref 0)) loc H → Qn loc H) :
    wpS P l s9 [sFl sc, some (.int head), some (.ref 0), some (.ref 1), none, some (.int cell), none, none, some (.ref 2)] [L.map AV.int, ms.map AV.str, ns.map AV.int] Qn Qr (fun c _ _ => X c) := by
  refine ⟨_, hQ, ⟨by decide, by decide⟩, by decide, brk (fun _ => ?_) fun _ => SJ.cut8 hS rfl rfl (by decide)⟩
  have hp : 0 < (ns.map AV.int).length := by rw [List.length_map]; exact Int.natCast_pos.mp hS.pos
  have hs : (ns.map AV.int).length ≤ smallN := mapI_le (Nat.le_of_lt hS.small)
  obtain ⟨hp0, hp1⟩ := mod_len (x := cell / 40) hp
  (refine wpSs_cons.mpr ?_; tm_at "wps")
  refine ⟨⟨by decide, by decide⟩, by decide, by decide, ⟨by decide, by decide⟩, by decide, i_any rfl (show 3 ≤ smallN by decide) (Int.emod_nonneg _ (by decide)) (Int.emod_lt_of_pos _ (by decide)) fun w hw => ?_⟩
  have hm := emod_le (x := cell / 1200) (n := 1000) (by decide) (m := 999) (by decide)
  obtain ⟨v, rfl, hv⟩ := int_of (L := [1000, 999, 1 + cell / 1200 % 1000]) (lo := 1) (hi := 1000) (allc (by decide) (all2 (by decide) (by omega))) hw
  tm_at "wps"
  refine ⟨⟨by decide, by decide⟩, hq, hs, Int.natCast_pos.mpr hp, _, _, _, rfl, rfl, rfl, hp0, hp1, hs, ?_⟩
  exact SJ.cut8 (a := 2) (b := 1) (ns := ns.set _ _) (hS.setN hv) (by rw [List.map_set]; rfl) rfl (by decide)
end
theorem strip_ok {P : PC} {l : Lv} {f fc fu : Nat} {ps rest : List Str} {X : Str → Prop} (F : FnIs P f ps rest (cs_strip fc fu)) (hp : ps.length = 1) (hr : rest.length = 8) (hk : 2 < l.k) (hq : l.q = true) {sc : List Int}
    (hc : ∀ k : Int, 0 ≤ k → k < 100000 → CallJ P ⟨l.k - 1, l.q⟩ fc [.fl (sc.map AV.int), .int k] IsCell X)
    (hu : ∀ first many : Int, 0 ≤ first → first < 1000 → 0 ≤ many → many ≤ 33 → CallJ P ⟨l.k - 1, l.q⟩ fu [.fl (sc.map AV.int), .int first, .int many] (GivesStrip 9) X) :
    CallJ P l f [.fl (sc.map AV.int)] (GivesStrip 1000) X := by
  have hk' : 0 < l.k - 1 := Nat.sub_pos_of_lt (Nat.lt_of_succ_lt hk)
  refine CallJ.ren (F.call (Nat.lt_of_succ_lt (Nat.lt_of_succ_lt hk)) (by simp [hp]) ?_)
  rw [hr]
  unfold cs_strip
  (refine wpSs_cons.mpr ?_; tm_at "wps")
  refine ⟨hk', call_cell hc (by decide) (by decide) fun head _ _ => ?_⟩
  (refine wpSs_cons.mpr ?_; tm_at "wps")
  refine ⟨hq, hk', ⟨by decide, by decide⟩, by decide, ⟨by decide, by decide⟩, by decide, by decide, hq, ⟨by decide, by decide⟩, by decide, ?_⟩
  refine i_any rfl (show 2 ≤ smallN by decide) (b01 _).1 (b01 _).2 fun w hw => ?_
  obtain ⟨m, rfl, hm0, hm1⟩ := int_of (L := [head / 2 % 10, head / 20 % 33]) (lo := 0) (hi := 33) (all2 (emod_le (by decide) (by decide)) (emod_le (by decide) (by decide))) hw
  tm_at "wps"
  refine call_strip (.cons (.fl (Rens.ints sc)) (.cons (.int _) (.cons (.int _) .nil))) (hu 3 m (by decide) (by decide) hm0 hm1) fun ns ms hS => ?_
  refine seqS (st3 (l := ⟨l.k - 1, l.q⟩) hq hk' hc hS ?_)
  rintro loc H ⟨ns, ms, hS, rfl, rfl⟩
  unfold sFl
  (refine wpSs_cons.mpr ?_; tm_at "wps")
  refine ⟨hk', call_cell hc (by decide) (by decide) fun more _ _ => ?_⟩
  refine seqS (st5 (l := ⟨l.k - 1, l.q⟩) hq hS ?_)
  rintro loc H ⟨ns, ms, hS, rfl, rfl⟩
  refine seqS (st6 (l := ⟨l.k - 1, l.q⟩) hq hS ?_)
  rintro loc H ⟨ns, ms, hS, rfl, rfl⟩
  unfold sFl
  (refine wpSs_cons.mpr ?_; tm_at "wps")
  refine ⟨hk', call_cell hc (by decide) (by decide) fun cell _ _ => ?_⟩
  refine seqS (st8 (l := ⟨l.k - 1, l.q⟩) hq hS fun ns' hS' => ?_)
  refine seqS (st9 (l := ⟨l.k - 1, l.q⟩) hq hS' ?_)
  rintro loc H ⟨ns, ms, hS, rfl, rfl⟩
  exact ⟨by decide, [0, 1], _, _, RenH.two rfl rfl (by decide) (Rens.ints ns) (Rens.strs ms), .tup (.cons (.ref rfl) (.cons (.ref rfl) .nil)), ns, ms, hS, rfl, rfl⟩

open PySem PyProof.Rows PySem.SeqAt

noncomputable def cs_left (fs fc : Nat) : List CS := [
  .assignT [1, 2] (.call fs [(.var 0)]),
  .assign 3 (.call fc [(.var 0), (.const (.int (2)))]),
  .ite (.and (.cmp .Eq (.bin .Mod (.bin .FloorDiv (.var 3) (.const (.int (7)))) (.const (.int (6)))) (.const (.int (1)))) (.cmp .Lt (.prim .len [(.var 1)]) (.const (.int (29)))))
    [      .setIdx (.var 1) (.bin .Mod (.bin .FloorDiv (.var 3) (.const (.int (42)))) (.prim .len [(.var 1)])) (.bin .Add (.const (.int (1001))) (.bin .Mod (.bin .FloorDiv (.var 3) (.const (.int (1300)))) (.const (.int (999)))))]
    [],
  .ret (.tup [(.var 1), (.var 2)])]
theorem StripIs.up {a b : Int} {ns : List Int} {ms : List Str} (h : StripIs a ns ms) (hab : a ≤ b) : StripIs b ns ms := ⟨h.len, h.most, fun n hn => ⟨(h.nums n hn).1, Int.le_trans (h.nums n hn).2 hab⟩, h.marks⟩
noncomputable def LJ (sc : List Int) (loc : Loc) (H : AH) : Prop := ∃ ns ms, StripIs 2000 ns ms ∧ loc = [sFl sc, some (.ref 0), some (.ref 1), none] ∧ H = [ns.map AV.int, ms.map AV.str]
theorem LJ.cut {sc ns : List Int} {ms : List Str} {H : AH} {o : Option AV} (hS : StripIs 2000 ns ms) (ha : H[0]? = some (ns.map AV.int)) (hb : H[1]? = some (ms.map AV.str)) : Cut (LJ sc) [sFl sc, some (.ref 0), some (.ref 1), o] H :=
  ⟨_, _, .inr ⟨[0, 1], RenH.two ha hb (by decide) (Rens.ints ns) (Rens.strs ms), .keep (.fl (Rens.ints sc)) (.keep (.ref rfl) (.keep (.ref rfl) (.drop .nil)))⟩, ns, ms, hS, rfl, rfl⟩
theorem left_ok {P : PC} {l : Lv} {f fs fc : Nat} {ps rest : List Str} {X : Str → Prop} (F : FnIs P f ps rest (cs_left fs fc)) (hp : ps.length = 1) (hr : rest.length = 3) (hk : 0 < l.k) (hk2 : 1 < l.k) (hq : l.q = true) {sc : List Int}
    (hc : ∀ k : Int, 0 ≤ k → k < 100000 → CallJ P ⟨l.k - 1, l.q⟩ fc [.fl (sc.map AV.int), .int k] IsCell X) (hs : CallJ P ⟨l.k - 1, l.q⟩ fs [.fl (sc.map AV.int)] (GivesStrip 1000) X) :
    CallJ P l f [.fl (sc.map AV.int)] (GivesStrip 2000) X := by
  have hk' : 0 < l.k - 1 := Nat.sub_pos_of_lt hk2
  refine CallJ.ren (F.call hk (by simp [hp]) ?_)
  rw [hr]
  unfold cs_left
  (refine wpSs_cons.mpr ?_; tm_at "wps")
  refine ⟨hq, hk', call_strip (.cons (.fl (Rens.ints sc)) .nil) hs fun ns ms hS => ?_⟩
  (refine wpSs_cons.mpr ?_; tm_at "wps")
  refine ⟨hk', call_cell hc (by decide) (by decide) fun cell _ _ => ?_⟩
  (refine wpSs_cons.mpr ?_; tm_at "wps")
  have hp : 0 < (ns.map AV.int).length := by rw [List.length_map]; exact Int.natCast_pos.mp hS.pos
  have hs : (ns.map AV.int).length ≤ smallN := mapI_le (Nat.le_of_lt hS.small)
  refine ⟨LJ sc, ?_, ⟨by decide, by decide⟩, by decide, brk (fun _ => ⟨hq, hs, brk (fun _ => ?_) fun _ => LJ.cut (hS.up (by decide)) rfl rfl⟩) fun _ => LJ.cut (hS.up (by decide)) rfl rfl⟩
  · rintro loc H ⟨ns, ms, hS, rfl, rfl⟩
    exact ⟨by decide, [0, 1], _, _, RenH.two rfl rfl (by decide) (Rens.ints ns) (Rens.strs ms), .tup (.cons (.ref rfl) (.cons (.ref rfl) .nil)), ns, ms, hS, rfl, rfl⟩
  · obtain ⟨hp0, hp1⟩ := mod_len (x := cell / 42) hp
    (refine wpSs_cons.mpr ?_; tm_at "wps")
    refine ⟨⟨by decide, by decide⟩, by decide, ⟨by decide, by decide⟩, hq, hs, Int.natCast_pos.mpr hp, _, _, _, rfl, rfl, rfl, hp0, hp1, hs, ?_⟩
    exact LJ.cut (ns := ns.set _ _) ((hS.up (by decide)).setN (v := 1001 + cell / 1300 % 999) (by have := emod_le (x := cell / 1300) (n := 999) (by decide) (m := 998) (by decide); omega)) (by rw [List.map_set]; rfl) rfl

theorem eqv_ints : ∀ (l : List Int), PyData.eqvAll (l.map PyData.int) (l.map PyData.int) = true
  | [] => rfl
  | x :: r => by simp [PyData.eqvAll, PyData.eqv, eqv_ints r]
open PySem PyProof.Rows PySem.SeqAt

theorem rens2 {H : AH} {ns : List Int} {ms : List Str} : Ren [] H (.tup [.fl (ns.map AV.int), .fl (ms.map AV.str)]) (.tup [.fl (ns.map AV.int), .fl (ms.map AV.str)]) := .tup (.cons (.fl (Rens.ints _)) (.cons (.fl (Rens.strs _)) .nil))
theorem CallJ.only {P : PC} {l : Lv} {f : Nat} {vs : List AV} {b : Bool} {X : Str → Prop} (h : CallJ P l f vs (fun v _ => v = .bool b) X) : CallJ P l f vs (fun v H => v = .bool b ∧ H = []) X :=
  CallJ.ren (h.mono fun v H e => ⟨[], [], .bool b, RenH.nil, by subst e; exact .bool b, rfl, rfl⟩)
-- the strip's places
noncomputable def plc (ns : List Int) : Nat → Int
  | 0 => 0
  | k + 1 => if k % 2 = 0 then plc ns k + ns.getD k 0 else plc ns k - ns.getD k 0
noncomputable def endsL (ns : List Int) : List Int := (List.range ns.length).map fun i => plc ns (i + 1)
noncomputable def spanAV (ns : List Int) (i : Nat) : AV := .tup [.int (if plc ns (i + 1) < plc ns i then plc ns (i + 1) else plc ns i), .int (if plc ns (i + 1) > plc ns i then plc ns (i + 1) else plc ns i)]
noncomputable def cs_ends : List CS := [
  .assign 1 (.lst []),
  .assign 2 (.const (.int (0))),
  .forT [3, 4] .enumerate [(.idx (.var 0) (.const (.int (0))))]
    [      .ite (.cmp .Eq (.bin .Mod (.var 3) (.const (.int (2)))) (.const (.int (0))))
        [          .assign 2 (.bin .Add (.var 2) (.var 4))]
        [          .assign 2 (.bin .Sub (.var 2) (.var 4))],
      .mut .append (.var 1) [(.var 2)]],
  .ret (.var 1)]
noncomputable def cs_spans (fe : Nat) : List CS := [
  .assign 1 (.lst []),
  .assign 2 (.const (.int (0))),
  .for1 3 (.call fe [(.var 0)])
    [      .mut .append (.var 1) [(.tup [(.prim .min [(.var 2), (.var 3)]), (.prim .max [(.var 2), (.var 3)])])],
      .assign 2 (.var 3)],
  .ret (.var 1)]
theorem plc_succ (ns : List Int) (k : Nat) : plc ns (k + 1) = if k % 2 = 0 then plc ns k + ns.getD k 0 else plc ns k - ns.getD k 0 := rfl
section
variable {P : PC} {l : Lv} {f : Nat} {ps rest : List Str} {X : Str → Prop} {ns : List Int} {ms : List Str}
theorem ends_ok (F : FnIs P f ps rest cs_ends) (hp : ps.length = 1) (hr : rest.length = 4) (hk : 0 < l.k) (hq : l.q = true) (hn : ns.length ≤ 1000) : CallJ P l f [.tup [.fl (ns.map AV.int), .fl (ms.map AV.str)]] (fun v H => v = .ref 0 ∧ H = [(endsL ns).map AV.int]) X := by
  refine F.call hk (by simp [hp]) ?_
  rw [hr]
  unfold cs_ends
  (refine wpSs_cons.mpr ?_; tm_at "wps")
  refine ⟨by decide, ?_⟩
  (refine wpSs_cons.mpr ?_; tm_at "wps")
  (refine wpSs_cons.mpr ?_; tm_at "wps")
  refine ⟨hq, ns.length, fun k vs loc H => vs = [.fl (ns.map AV.int)] ∧ ∃ o3 o4, loc = [some (.tup [.fl (ns.map AV.int), .fl (ms.map AV.str)]), some (.ref 0), some (.int (plc ns k)), o3, o4] ∧ H = [((List.range k).map fun i => plc ns (i + 1)).map AV.int], ?_, ?_, by unfold smallN; omega, ?_, ?_⟩
  · exact ⟨_, _, _, .inl ⟨rfl, rfl⟩, rfl, rfl, rfl, _, _, rfl, rfl⟩
  · rintro k vs loc H hk ⟨rfl, o3, o4, rfl, rfl⟩
    exact ⟨_, rfl, by simp⟩
  · rintro k vs loc H its us hk hl ⟨rfl, o3, o4, rfl, rfl⟩ ei eu
    have hk' : k < ns.length := hk
    have e : us = [.int k, .int (ns.getD k 0)] := by
      simp only [turnsOf, AV.items?, Option.map_some, Option.some.injEq] at ei
      subst ei
      simp [hk'] at eu
      rw [← eu]; simp [hk']
    subst e
    refine ⟨rfl, ?_⟩
    simp only [setAll_nil, setAll_cons, List.set_cons_zero, List.set_cons_succ, List.cons_append, List.nil_append, List.map_cons, List.map_nil]
    (refine wpSs_cons.mpr ?_; tm_at "wps")
    refine ⟨fun loc H => loc = [some (.tup [.fl (ns.map AV.int), .fl (ms.map AV.str)]), some (.ref 0), some (.int (plc ns (k + 1))), some (.int k), some (.int (ns.getD k 0)), some (.fl (ns.map AV.int))] ∧ H = [((List.range k).map fun i => plc ns (i + 1)).map AV.int], ?_, by decide, ?_⟩
    · rintro loc H ⟨rfl, rfl⟩
      (refine wpSs_cons.mpr ?_; tm_at "wps")
      refine ⟨_, _, _, rfl, rfl, m_app (by simp [smallN]; omega), by simp, ?_⟩
      tm_at "wps"
      refine wpSs_nil.mpr ⟨[.fl (ns.map AV.int)], _, _, .inl ⟨rfl, rfl⟩, rfl, rfl, rfl, _, _, rfl, by simp [List.range_succ]⟩
    · split
      · rename_i h
        (refine wpSs_cons.mpr ?_; tm_at "wps")
        refine wpSs_nil.mpr (Cut.here ⟨?_, rfl⟩)
        have : k % 2 = 0 := by simp at h; omega
        rw [plc_succ, if_pos this]
      · rename_i h
        (refine wpSs_cons.mpr ?_; tm_at "wps")
        refine wpSs_nil.mpr (Cut.here ⟨?_, rfl⟩)
        have : ¬ k % 2 = 0 := by simp at h; omega
        rw [plc_succ, if_neg this]
  · rintro vs loc H ⟨rfl, o3, o4, rfl, rfl⟩
    exact ⟨rfl, rfl⟩
theorem rens_spans {φ : List Nat} {H : AH} {k : Nat} : Rens φ H ((List.range k).map (spanAV ns)) ((List.range k).map (spanAV ns)) := Rens.ofAll fun i _ => .tup (.cons (.int _) (.cons (.int _) .nil))
theorem spans_ok {fe : Nat} (F : FnIs P f ps rest (cs_spans fe)) (hp : ps.length = 1) (hr : rest.length = 3) (hk : 1 < l.k) (hq : l.q = true) (hn : ns.length ≤ 1000)
    (he : CallJ P ⟨l.k - 1, l.q⟩ fe [.tup [.fl (ns.map AV.int), .fl (ms.map AV.str)]] (fun v H => v = .ref 0 ∧ H = [(endsL ns).map AV.int]) X) :
    CallJ P l f [.tup [.fl (ns.map AV.int), .fl (ms.map AV.str)]] (fun v H => v = .ref 0 ∧ H = [(List.range ns.length).map (spanAV ns)]) X := by
  refine CallJ.ren (F.call (by omega) (by simp [hp]) ?_)
  rw [hr]
  unfold cs_spans
  (refine wpSs_cons.mpr ?_; tm_at "wps")
  refine ⟨by decide, ?_⟩
  (refine wpSs_cons.mpr ?_; tm_at "wps")
  (refine wpSs_cons.mpr ?_; tm_at "wps")
  refine ⟨hq, by omega, CallP.plain (.cons rens2 .nil) he ?_⟩
  rintro v Hc ⟨rfl, rfl⟩
  simp only [sh_none, sh_bool, sh_int, sh_str, sh_ref, sh_tup, sh_fl, shs_nil, shs_cons, List.map_cons, List.map_nil, shifts_ints]
  tm_at "wps"
  refine ⟨ns.length, .fl [], fun k v loc H => v = .ref 1 ∧ ∃ o3, loc = [some (.tup [.fl (ns.map AV.int), .fl (ms.map AV.str)]), some (.ref 0), some (.int (plc ns k)), o3] ∧ H = [(List.range k).map (spanAV ns), (endsL ns).map AV.int], ?_, ?_, by unfold smallN; omega, ?_, ?_⟩
  · exact ⟨_, _, _, .inl ⟨rfl, rfl⟩, rfl, rfl, _, rfl, rfl⟩
  · rintro k v loc H hk ⟨rfl, o3, rfl, rfl⟩
    exact ⟨rfl, _, rfl, by simp [endsL]⟩
  · rintro k v loc H its u hk hl ⟨rfl, o3, rfl, rfl⟩ ei eu
    have hk' : k < ns.length := hk
    have e : u = .int (plc ns (k + 1)) := by
      simp only [iterOf, AV.seq?, AV.items?, List.getElem?_cons_succ, List.getElem?_cons_zero, Option.some.injEq] at ei
      subst ei
      simp [endsL, hk'] at eu
      exact eu.symm
    subst e
    simp only [List.set_cons_zero, List.set_cons_succ, List.cons_append, List.nil_append]
    (refine wpSs_cons.mpr ?_; tm_at "wps")
    refine ⟨hq, hq, by decide, _, _, _, rfl, rfl, m_app (by simp [smallN]; omega), by simp, ?_⟩
    tm_at "wps"
    (refine wpSs_cons.mpr ?_; tm_at "wps")
    refine wpSs_nil.mpr ⟨.ref 1, _, _, .inl ⟨rfl, rfl⟩, rfl, rfl, _, rfl, by simp [List.range_succ, spanAV]⟩
  · rintro v loc H ⟨rfl, o3, rfl, rfl⟩
    (refine wpSs_cons.mpr ?_; tm_at "wps")
    exact ⟨[0], _, _, RenH.one rfl rens_spans, .ref rfl, rfl, rfl⟩
end
theorem nofl_ints {L : List Int} {v : AV} {H : AH} (h : v = .ref 0 ∧ H = [L.map AV.int]) : NoFl v ∧ ∀ xs ∈ H, NoFls xs := by
  obtain ⟨rfl, rfl⟩ := h
  exact ⟨.ref _, fun xs hx => by simp at hx; subst hx; exact NoFls.ints _⟩
open PySem PyProof.Rows PySem.SeqAt

/-- a def's form, by computation -/
theorem FnIs.of {prog : Program} {w : World} {mg mb : Str → Option Value} {consts : List (Str × AV)} {defs : List DefRec} {own : Str → Addr → Option Bool} {sup : Addr} {f : Nat} {ps rest : List Str} {cs : List CS} (h : f < defs.length)
    (hs : defOk (defs[f]'h).scope ps rest = true) (hc : allSome ((defs[f]'h).body.map (compS ⟨defs.map (·.name), consts⟩ 40 (fun x => (defs[f]'h).scope.names.lookup x) (ps ++ rest))) = some cs)
    (hb : ∀ xs pm code doc, xs.length = ps.length → bindArgs (Calls.docDef (defs[f]'h).name (defs[f]'h).params (defs[f]'h).body (defs[f]'h).scope pm code doc) ⟨xs, []⟩ = pure (ps.zip xs)) :
    FnIs ⟨prog, w, mg, mb, ⟨defs.map (·.name), consts⟩, defs, own, sup⟩ f ps rest cs :=
  ⟨(defs[f]'h).name, defs[f]'h, 40, by simp [h], by simp [h], hs, hc, hb⟩
theorem FnIs.of1 {prog : Program} {w : World} {mg mb : Str → Option Value} {consts : List (Str × AV)} {defs : List DefRec} {own : Str → Addr → Option Bool} {sup : Addr} {f : Nat} {ps rest : List Str} {cs : List CS} (h : f < defs.length)
    (hs : defOk (defs[f]'h).scope ps rest = true) (hc : allSome ((defs[f]'h).body.map (compS ⟨defs.map (·.name), consts⟩ 40 (fun x => (defs[f]'h).scope.names.lookup x) (ps ++ rest))) = some cs) (hl : ps.length = 1)
    (hb : ∀ a pm code doc, bindArgs (Calls.docDef (defs[f]'h).name (defs[f]'h).params (defs[f]'h).body (defs[f]'h).scope pm code doc) ⟨[a], []⟩ = pure (ps.zip [a])) :
    FnIs ⟨prog, w, mg, mb, ⟨defs.map (·.name), consts⟩, defs, own, sup⟩ f ps rest cs :=
  FnIs.of h hs hc fun xs pm code doc e => by
    rw [hl] at e
    rcases xs with _ | ⟨a, _ | ⟨b9, r⟩⟩
    · cases e
    · exact hb a pm code doc
    · cases e
theorem FnIs.of2 {prog : Program} {w : World} {mg mb : Str → Option Value} {consts : List (Str × AV)} {defs : List DefRec} {own : Str → Addr → Option Bool} {sup : Addr} {f : Nat} {ps rest : List Str} {cs : List CS} (h : f < defs.length)
    (hs : defOk (defs[f]'h).scope ps rest = true) (hc : allSome ((defs[f]'h).body.map (compS ⟨defs.map (·.name), consts⟩ 40 (fun x => (defs[f]'h).scope.names.lookup x) (ps ++ rest))) = some cs) (hl : ps.length = 2)
    (hb : ∀ a b pm code doc, bindArgs (Calls.docDef (defs[f]'h).name (defs[f]'h).params (defs[f]'h).body (defs[f]'h).scope pm code doc) ⟨[a, b], []⟩ = pure (ps.zip [a, b])) :
    FnIs ⟨prog, w, mg, mb, ⟨defs.map (·.name), consts⟩, defs, own, sup⟩ f ps rest cs :=
  FnIs.of h hs hc fun xs pm code doc e => by
    rw [hl] at e
    rcases xs with _ | ⟨a, _ | ⟨b, _ | ⟨b9, r⟩⟩⟩
    · cases e
    · cases e
    · exact hb a b pm code doc
    · cases e
theorem FnIs.of3 {prog : Program} {w : World} {mg mb : Str → Option Value} {consts : List (Str × AV)} {defs : List DefRec} {own : Str → Addr → Option Bool} {sup : Addr} {f : Nat} {ps rest : List Str} {cs : List CS} (h : f < defs.length)
    (hs : defOk (defs[f]'h).scope ps rest = true) (hc : allSome ((defs[f]'h).body.map (compS ⟨defs.map (·.name), consts⟩ 40 (fun x => (defs[f]'h).scope.names.lookup x) (ps ++ rest))) = some cs) (hl : ps.length = 3)
    (hb : ∀ a b c pm code doc, bindArgs (Calls.docDef (defs[f]'h).name (defs[f]'h).params (defs[f]'h).body (defs[f]'h).scope pm code doc) ⟨[a, b, c], []⟩ = pure (ps.zip [a, b, c])) :
    FnIs ⟨prog, w, mg, mb, ⟨defs.map (·.name), consts⟩, defs, own, sup⟩ f ps rest cs :=
  FnIs.of h hs hc fun xs pm code doc e => by
    rw [hl] at e
    rcases xs with _ | ⟨a, _ | ⟨b, _ | ⟨c, _ | ⟨b9, r⟩⟩⟩⟩
    · cases e
    · cases e
    · cases e
    · exact hb a b c pm code doc
    · cases e
section
variable {P : PC} {X : Str → Prop} {sc : List Int} {fc fu fs fl : Nat} {p1 r1 p2 r2 p3 r3 p4 r4 : List Str}
theorem cell_all (Fc : FnIs P fc p1 r1 cs_cell_at) (h1 : p1.length = 2) (h2 : r1.length = 0) (hn : sc.length ≤ 63) {k : Nat} (hk : 0 < k) : ∀ j : Int, 0 ≤ j → j < 100000 → CallJ P ⟨k, true⟩ fc [.fl (sc.map AV.int), .int j] IsCell X :=
  fun _ h0 h3 => cell_at_ok Fc h1 h2 hk rfl hn h0 h3
theorem strip_all (Fc : FnIs P fc p1 r1 cs_cell_at) (Fu : FnIs P fu p2 r2 (cs_unfolded fc)) (Fs : FnIs P fs p3 r3 (cs_strip fc fu)) (h1 : p1.length = 2) (h2 : r1.length = 0) (h3 : p2.length = 3) (h4 : r2.length = 8) (h5 : p3.length = 1) (h6 : r3.length = 8)
    (hn : sc.length ≤ 63) {k : Nat} (hk : 4 < k) : CallJ P ⟨k, true⟩ fs [.fl (sc.map AV.int)] (GivesStrip 1000) X :=
  strip_ok Fs h5 h6 (show 2 < k by omega) rfl (cell_all Fc h1 h2 hn (by show 0 < k - 1; omega)) fun _ _ a b c d => unfolded_ok Fu h3 h4 (show 1 < k - 1 by omega) rfl (cell_all Fc h1 h2 hn (by show 0 < k - 1 - 1; omega)) a b c d
theorem left_all (Fc : FnIs P fc p1 r1 cs_cell_at) (Fu : FnIs P fu p2 r2 (cs_unfolded fc)) (Fs : FnIs P fs p3 r3 (cs_strip fc fu)) (Fl : FnIs P fl p4 r4 (cs_left fs fc)) (h1 : p1.length = 2) (h2 : r1.length = 0) (h3 : p2.length = 3) (h4 : r2.length = 8) (h5 : p3.length = 1) (h6 : r3.length = 8)
    (h7 : p4.length = 1) (h8 : r4.length = 3) (hn : sc.length ≤ 63) {k : Nat} (hk : 6 < k) : CallJ P ⟨k, true⟩ fl [.fl (sc.map AV.int)] (GivesStrip 2000) X :=
  left_ok Fl h7 h8 (show 0 < k by omega) (show 1 < k by omega) rfl (cell_all Fc h1 h2 hn (by show 0 < k - 1; omega)) (strip_all Fc Fu Fs h1 h2 h3 h4 h5 h6 hn (by show 4 < k - 1; omega))
end

open PySem PyProof.Rows PySem.SeqAt

section
variable {H : AH} {Q : AV → AH → Prop} {o : AV} {vs : List AV} {k : Int}
end

/-- a move that a strip of n pieces may take -/
noncomputable def MoveOk (n : Nat) (v : AV) : Prop := (v = .tup [.str "first"] ∧ 2 ≤ n) ∨ (v = .tup [.str "last"] ∧ 2 ≤ n) ∨ ∃ k : Nat, v = .tup [.str "pleat", .int k] ∧ k + 2 < n
noncomputable def MV (n b : Nat) (H : AH) : Prop := ∃ mv, H = [mv] ∧ (∀ m ∈ mv, MoveOk n m) ∧ mv.length ≤ b
theorem MoveOk.nofl {n : Nat} {v : AV} (h : MoveOk n v) : NoFl v := by
  rcases h with ⟨rfl, _⟩ | ⟨rfl, _⟩ | ⟨k, rfl, _⟩
  · exact .tup (.cons (.str _) .nil)
  · exact .tup (.cons (.str _) .nil)
  · exact .tup (.cons (.str _) (.cons (.int _) .nil))
theorem MoveOk.ren {n : Nat} {v : AV} {φ : List Nat} {H : AH} (h : MoveOk n v) : Ren φ H v v := by
  rcases h with ⟨rfl, _⟩ | ⟨rfl, _⟩ | ⟨k, rfl, _⟩
  · exact .tup (.cons (.str _) .nil)
  · exact .tup (.cons (.str _) .nil)
  · exact .tup (.cons (.str _) (.cons (.int _) .nil))
theorem MoveOk.shift {n : Nat} {v : AV} {k : Nat} (h : MoveOk n v) : v.shift k = v := by
  rcases h with ⟨rfl, _⟩ | ⟨rfl, _⟩ | ⟨k, rfl, _⟩ <;> simp
section
variable {P : PC} {l : Lv} {f : Nat} {ps rest : List Str} {X : Str → Prop} {ns : List Int} {ms : List Str}
section
variable {K : Loc → AH → Prop} {Qr : AV → AH → Prop} {Qx : Str → Loc → AH → Prop} {mv : List AV} {b : Nat}
theorem MV.app {n : Nat} {m : AV} (h : ∀ m ∈ mv, MoveOk n m) (hl : mv.length ≤ b) (hm : MoveOk n m) : MV n (b + 1) [mv ++ [m]] :=
  ⟨_, rfl, fun x hx => (List.mem_append.mp hx).elim (h x) fun q => List.mem_singleton.mp q ▸ hm, by rw [List.length_append]; exact Nat.add_le_add_right hl 1⟩
end
theorem lim_of {n : Nat} (h : n ≤ smallN) : (-1000000 : Int) ≤ n ∧ (n : Int) ≤ 1000000 := by unfold smallN at h; omega
/-- the strip behind a move -/
noncomputable def GivesBehind (n d : Nat) (v : AV) (H : AH) : Prop := v = .tup [.ref 0, .ref 1] ∧ ∃ (ns : List Int) (ms : List Str), H = [ns.map AV.int, ms.map AV.str] ∧ ns.length + d = n ∧ ns.length = ms.length + 1 ∧ ∀ m ∈ ms, Mk m
noncomputable def BR (n d : Nat) (v : AV) (H : AH) : Prop := ∃ φ H' v', RenH φ H H' ∧ Ren φ H v v' ∧ GivesBehind n d v' H'
theorem BR.two {H : AH} {a b n d : Nat} {xs : List Int} {ys : List Str} (ha : H[a]? = some (xs.map AV.int)) (hb : H[b]? = some (ys.map AV.str)) (hne : a ≠ b) (h1 : xs.length + d = n) (h2 : xs.length = ys.length + 1) (h3 : ∀ m ∈ ys, Mk m) : BR n d (.tup [.ref a, .ref b]) H :=
  ⟨[a, b], _, _, RenH.two ha hb hne (Rens.ints xs) (Rens.strs ys), .tup (.cons (.ref rfl) (.cons (.ref rfl) .nil)), rfl, _, _, rfl, h1, h2, h3⟩
section
variable {v : AV} {Qn : Loc → AH → Prop} {Qx : Str → Loc → AH → Prop}
end
end

open PySem PyProof.Rows PySem.SeqAt

section
variable {P : PC} {l : Lv} {ms : List Str} {a b : List (List Int)} {L p0 p1 p2 : List Int} {v : AV} {Qn : Loc → AH → Prop} {Qx : Str → Loc → AH → Prop}
end
section
variable {P : PC} {l : Lv} {f : Nat} {ps rest : List Str} {X : Str → Prop} {ms : List Str} {pl : List (List Int)} {L : List Int}
end

open PySem PyProof.Rows PySem.SeqAt

noncomputable def rngI (n : Nat) : List Int := (List.range n).map fun (i : Nat) => (i : Int)
theorem rngI_succ (n : Nat) : rngI (n + 1) = rngI n ++ [(n : Int)] := by simp [rngI, List.range_succ]
theorem rngI_len (n : Nat) : (rngI n).length = n := by simp [rngI]
theorem rngI_eq (n : Nat) : rngList 0 n 1 = rngI n := by rw [rngList1]; simp [rngI]
noncomputable def o1 (fc : Nat) : CS := .ite (.cmp .Eq (.bin .Mod (.var 2) (.const (.int (4)))) (.const (.int (3))))
    [      .assign 3 (.lst []),
      .for1 4 (.prim .range [(.prim .len [(.idx (.var 1) (.const (.int (0))))])])
        [          .mut .insert (.var 3) [(.bin .Mod (.bin .Add (.call fc [(.var 0), (.bin .Add (.const (.int (18))) (.bin .Mod (.var 4) (.const (.int (16)))))]) (.bin .Mult (.const (.int (5))) (.var 4))) (.bin .Add (.var 4) (.const (.int (1))))), (.var 4)]]]
    []
noncomputable def o2 : CS := .ite (.cmp .Eq (.bin .Mod (.var 2) (.const (.int (4)))) (.const (.int (1))))
    [      .assign 5 (.bin .Mod (.bin .FloorDiv (.var 2) (.const (.int (4)))) (.prim .len [(.var 3)])),
      .popTo 4 (.var 3) [(.var 5)],
      .mut .insert (.var 3) [(.bin .Mod (.bin .FloorDiv (.var 2) (.const (.int (120)))) (.bin .Add (.prim .len [(.var 3)]) (.const (.int (1))))), (.var 4)]]
    []
noncomputable def o3 : CS := .ite (.cmp .Eq (.bin .Mod (.var 2) (.const (.int (4)))) (.const (.int (2))))
    [      .assign 3 (.slc (.var 3) (.const .none) (.const .none) (.neg (.const (.int (1)))))]
    []
noncomputable def cs_need_order (fi : Nat) : List CS := [
  .assign 2 (.prim .len [(.idx (.var 0) (.const (.int (0))))]),
  .ite (.or (.not (.isin .list (.var 1))) (.cmp .NotEq (.prim .len [(.var 1)]) (.var 2)))
    [      .raise ""]
    [],
  .ite (.not (.prim .all [(.comp (.call fi [(.var 1), (.const (.int (0))), (.bin .Sub (.var 0) (.const (.int (1))))]) [] [2] 0 (.var 1))]))
    [      .raise ""]
    [],
  .ite (.cmp .NotEq (.prim .sorted [(.var 1)]) (.prim .list [(.prim .range [(.var 2)])]))
    [      .raise ""]
    [],
  .ret (.const (.bool true))]

/-- behind a turn of a loop -/
noncomputable def TurnTo (J : Loc → AH → Prop) (n : Nat) (it : AV) (loc : Loc) (H : AH) : Prop := ∃ v' loc' H', RenL loc H (loc' ++ [some v']) H' ∧ loc'.length = n ∧ v' = it ∧ J loc' H'
theorem TurnTo.here {J : Loc → AH → Prop} {n : Nat} {it : AV} {loc : Loc} {H : AH} (hl : loc.length = n) (h : J loc H) : TurnTo J n it (loc ++ [some it]) H := ⟨it, loc, H, .inl ⟨rfl, rfl⟩, hl, rfl, h⟩
section
variable {P : PC} {l : Lv} {f : Nat} {ps rest : List Str} {X : Str → Prop}
section
variable {ns : List Int} {ms : List Str} {L : List Int} {pl : List (List Int)} {fi : Int} {mv : List AV} {w : AV} {fm fb fp n : Nat} {Qn : Loc → AH → Prop} {Qr : AV → AH → Prop} {Qx : Str → Loc → AH → Prop} {a0 a1 a4 : Option AV}
end
end

open PySem PyProof.Rows PySem.SeqAt

theorem rngList_get {a b c : Int} {k : Nat} {u : AV} (e : ((rngList a b c).map AV.int)[k]? = some u) : u = .int (a + k * c) := by
  unfold rngList at e
  rw [List.getElem?_map, List.getElem?_map] at e
  obtain ⟨j, e1, rfl⟩ := Option.map_eq_some_iff.mp e
  obtain ⟨i, e2, e3⟩ := Option.map_eq_some_iff.mp e1
  obtain ⟨h, e4⟩ := List.getElem?_eq_some_iff.mp e2
  rw [List.getElem_range] at e4
  rw [← e3, ← e4]
theorem for_rng {P : PC} {l : Lv} {x : Nat} {body : List CS} {loc : Loc} {H : AH} {Qn : Loc → AH → Prop} {Qr : AV → AH → Prop} {Qx : Str → Loc → AH → Prop} {a b c : Int} {N : Nat} (J : Nat → Loc → AH → Prop) (hN : (rngList a b c).length = N) (hs : N ≤ smallN)
    (h0 : TurnTo (J 0) loc.length (.rng a b c) (loc ++ [some (.rng a b c)]) H)
    (hk : ∀ k loc' H', k < N → loc'.length = loc.length → J k loc' H' → wpSs P l body (loc'.set x (some (.int (a + k * c))) ++ [some (.rng a b c)]) H' (TurnTo (J (k + 1)) loc.length (.rng a b c)) Qr (fun e l' H' => Qx e l'.dropLast H'))
    (hn : ∀ loc' H', J N loc' H' → Qn loc' H') :
    ∃ (n : Nat) (κ : AV) (Inv : Nat → AV → Loc → AH → Prop),
      (∃ v' loc' H', RenL (loc ++ [some (.rng a b c)]) H (loc' ++ [some v']) H' ∧ loc'.length = loc.length ∧ Inv 0 v' loc' H') ∧
      (∀ k v loc H, k ≤ n → Inv k v loc H → v.ik = κ ∧ ∃ its, iterOf H v = some its ∧ its.length = n) ∧ n ≤ smallN ∧
      (∀ k v loc' H its u, k < n → loc'.length = loc.length → Inv k v loc' H → iterOf H v = some its → its[k]? = some u → wpSs P l body (loc'.set x (some u) ++ [some v]) H
        (fun loc₂ H₂ => ∃ v₃ loc₃ H₃, RenL loc₂ H₂ (loc₃ ++ [some v₃]) H₃ ∧ loc₃.length = loc.length ∧ Inv (k + 1) v₃ loc₃ H₃) Qr (fun c loc₂ H₂ => Qx c loc₂.dropLast H₂)) ∧
      (∀ v loc H, Inv n v loc H → Qn loc H) := by
  refine ⟨N, .rng a b c, fun k v loc H => v = .rng a b c ∧ J k loc H, ?_, ?_, hs, ?_, fun v loc H h => hn loc H h.2⟩
  · exact h0
  · rintro k v loc H hk ⟨rfl, _⟩
    exact ⟨rfl, _, rfl, by rw [List.length_map, hN]⟩
  · rintro k v loc' H its u hk' hl ⟨rfl, hJ⟩ ei eu
    cases ei
    rw [rngList_get eu]
    exact hk k loc' H hk' hl hJ
theorem st_for {P : PC} {l : Lv} {x : Nat} {it : CE} {body : List CS} {loc : Loc} {H H₁ : AH} {Qn : Loc → AH → Prop} {Qr : AV → AH → Prop} {Qx : Str → Loc → AH → Prop} {a b c : Int} {N : Nat} (J : Nat → Loc → AH → Prop) (hq : l.q = true)
    (hit : ∀ K : AV → AH → Prop, K (.rng a b c) H₁ → wpE P l (fun e => Qx e loc H) it loc H K) (hN : (rngList a b c).length = N) (hs : N ≤ smallN)
    (h0 : TurnTo (J 0) loc.length (.rng a b c) (loc ++ [some (.rng a b c)]) H₁)
    (hk : ∀ k loc' H', k < N → loc'.length = loc.length → J k loc' H' → wpSs P l body (loc'.set x (some (.int (a + k * c))) ++ [some (.rng a b c)]) H' (TurnTo (J (k + 1)) loc.length (.rng a b c)) Qr (fun e l' H' => Qx e l'.dropLast H'))
    (hn : ∀ loc' H', J N loc' H' → Qn loc' H') : wpS P l (.for1 x it body) loc H Qn Qr Qx := ⟨hq, hit _ (for_rng J hN hs h0 hk hn)⟩
section
variable {P : PC} {l : Lv}
/-- a loop over range(b) -/
theorem st_for0 {x : Nat} {it : CE} {body : List CS} {loc : Loc} {H H₁ : AH} {Qn : Loc → AH → Prop} {Qr : AV → AH → Prop} {Qx : Str → Loc → AH → Prop} {N : Nat} (J : Nat → Loc → AH → Prop) (hq : l.q = true)
    (hit : ∀ K : AV → AH → Prop, K (.rng 0 N 1) H₁ → wpE P l (fun e => Qx e loc H) it loc H K) (hs : N ≤ smallN)
    (h0 : TurnTo (J 0) loc.length (.rng 0 N 1) (loc ++ [some (.rng 0 N 1)]) H₁)
    (hk : ∀ k loc' H', k < N → loc'.length = loc.length → J k loc' H' → wpSs P l body (loc'.set x (some (.int k)) ++ [some (.rng 0 N 1)]) H' (TurnTo (J (k + 1)) loc.length (.rng 0 N 1)) Qr (fun e l' H' => Qx e l'.dropLast H'))
    (hn : ∀ loc' H', J N loc' H' → Qn loc' H') : wpS P l (.for1 x it body) loc H Qn Qr Qx :=
  st_for J hq hit (by rw [rngList1_len]; simp) hs h0 (fun k loc' H' h1 h2 h3 => by rw [Int.mul_one, Int.zero_add]; exact hk k loc' H' h1 h2 h3) hn
end
/-- a call that gives a truth back -/
theorem call_bool {P : PC} {l : Lv} {f : Nat} {vs vs' : List AV} {H : AH} {Q : AV → AH → Prop} {X : Str → Prop} {b : Bool} (hr : Rens [] H vs vs') (hc : CallJ P l f vs' (fun v H => v = .bool b ∧ H = []) X) (h : Q (.bool b) H) : CallP P l f vs H Q X :=
  CallP.frz hr hc (fun v H h => by rw [h.1, h.2]; exact ⟨.bool _, fun _ hx => nomatch hx⟩) fun v Hc ⟨e1, e2⟩ => by
    subst e1 e2
    rw [← List.append_nil H] at h
    exact h
theorem ins_perm {L : List Int} {n : Nat} {x : Int} {p : Nat} (h : L.Perm (rngI n)) (hx : x = n) : (L.take p ++ x :: L.drop p).Perm (rngI (n + 1)) := by
  subst hx
  rw [rngI_succ]
  refine List.perm_middle.trans ?_
  rw [List.take_append_drop]
  exact (List.Perm.cons _ h).trans (List.perm_append_comm (l₁ := [(n : Int)]))
theorem m_ins {H : AH} {L : List Int} {k x : Int} (h : L.length < smallN) (h0 : 0 ≤ k) (h1 : k ≤ L.length) (h2 : k < 1000000) : opMut H .insert (L.map AV.int) [.int k, .int x] = some ((L.take k.toNat ++ x :: L.drop k.toNat).map AV.int) := by
  have e : min k.toNat L.length = k.toNat := by omega
  have e2 : ¬ k < 0 := by omega
  simp [opMut, mut2, h, insAt, e, e2]
  omega
section
variable {P : PC} {l : Lv} {f : Nat} {ps rest : List Str} {X : Str → Prop} {ns : List Int} {ms : List Str} {L : List Int} {sc : List Int}
noncomputable def ordR (sc ns : List Int) (ms : List Str) (cell : Int) (loc : Loc) (H : AH) : Prop := ∃ L : List Int, L.Perm (rngI ns.length) ∧ loc = [some (.fl (sc.map AV.int)), some (.tup [.fl (ns.map AV.int), .fl (ms.map AV.str)]), some (.int cell), some (.ref 0), none, none] ∧ H = [L.map AV.int]
theorem ordR.cut {cell : Int} {r : Nat} {H : AH} {o4 o5 : Option AV} (hp : L.Perm (rngI ns.length)) (e : H[r]? = some (L.map AV.int)) :
    Cut (ordR sc ns ms cell) [some (.fl (sc.map AV.int)), some (.tup [.fl (ns.map AV.int), .fl (ms.map AV.str)]), some (.int cell), some (.ref r), o4, o5] H := by
  refine ⟨_, _, .inr ⟨[r], RenH.one e (Rens.ints _), ?_⟩, L, hp, rfl, rfl⟩
  exact .keep (.fl (Rens.ints _)) (.keep (.tup (.cons (.fl (Rens.ints _)) (.cons (.fl (Rens.strs _)) .nil))) (.keep (.int _) (.keep (.ref rfl) (.drop (.drop .nil)))))
section
variable {cell : Int} {K : Loc → AH → Prop} {Qr : AV → AH → Prop} {Qx : Str → Loc → AH → Prop} {fc : Nat}
theorem or_mod1 {d : Nat} (c : Int) : 0 ≤ c % ((d : Int) + 1) ∧ c % ((d : Int) + 1) ≤ d := ⟨Int.emod_nonneg _ (by omega), Int.le_of_lt_add_one (Int.emod_lt_of_pos _ (by omega))⟩
end
theorem sorted_rng {L : List Int} {n : Nat} (h : L.Perm (rngI n)) (hs : L.Pairwise (· ≤ ·)) : L = rngI n := by
  refine List.Perm.eq_of_pairwise (le := (· ≤ ·)) (fun a b _ _ h1 h2 => by omega) hs ?_ h
  unfold rngI
  rw [List.pairwise_map]
  exact List.pairwise_lt_range.imp fun h => by omega
theorem ii_fl {v : List AV} : isInst .list (.fl v) = true := rfl
theorem need_order_ok {fi : Nat} (F : FnIs P f ps rest (cs_need_order fi)) (hp : ps.length = 2) (hr : rest.length = 1) (hk : 1 < l.k) (hq : l.q = true) (hn : ns.length ≤ 30) (hL : L.Perm (rngI ns.length))
    (hi : ∀ n a b : Int, a ≤ n → n ≤ b → CallJ P ⟨l.k - 1, l.q⟩ fi [.int n, .int a, .int b] (fun v H => v = .bool true ∧ H = []) X) :
    CallJ P l f [.tup [.fl (ns.map AV.int), .fl (ms.map AV.str)], .fl (L.map AV.int)] (fun v H => v = .bool true ∧ H = []) X := by
  refine CallJ.only (F.call (Nat.lt_of_succ_lt hk) (by rw [hp]; rfl) ?_)
  rw [hr]
  unfold cs_need_order
  have sm : ns.length ≤ smallN := Nat.le_trans hn (by decide)
  have hLl : L.length = ns.length := by rw [hL.length_eq, rngI_len]
  have smL : L.length ≤ smallN := Nat.le_trans (Nat.le_of_eq hLl) sm
  have hmem : ∀ z ∈ L, 0 ≤ z ∧ z ≤ (ns.length : Int) - 1 := fun z hz => by
    have := (hL.mem_iff (a := z)).mp hz
    obtain ⟨i, hi, rfl⟩ := List.mem_map.mp this
    simp at hi
    omega
  (refine wpSs_cons.mpr ?_; tm_at "wps")
  rw [List.length_map]
  refine ⟨hq, sm, ?_⟩
  (refine wpSs_cons.mpr ?_; tm_at "wps")
  refine ⟨_, fun _ _ h => h, ?_⟩
  dsimp only [ii_fl, not_t, ite_f]
  rw [List.length_map]
  refine ⟨hq, smL, brk_not (fun h => absurd (congrArg Int.ofNat hLl) h) fun _ => Cut.here ?_⟩
  (refine wpSs_cons.mpr ?_; tm_at "wps")
  refine ⟨_, fun _ _ h => h, hq, hq, _, _, [some (.int ns.length)], rfl, mapI_le smL, Rens.ints _, .cons rfl (.int _) .nil, comp_map (fun _ => .bool true) (fun x hx k hk => opt_bind0 hk) ?_ ?_⟩
  · intro x hx k hk'
    obtain ⟨i, hi', rfl⟩ := List.mem_map.mp hx
    refine opt_bind0 ?_
    tm_at "wps"
    exact ⟨Nat.sub_pos_of_lt hk, call_bool (.cons (.int _) (.cons (.int _) (.cons (.int _) .nil))) (hi i 0 (ns.length - 1) (hmem i hi').1 (hmem i hi').2) ⟨_, .bool _, .inr (.bool _), hk'⟩⟩
  refine ⟨L.map fun _ => true, by simp, ?_⟩
  have e1 : (L.map fun _ => true).all id = true := by simp
  rw [e1]
  tm_at "wps"
  refine wpSs_nil.mpr (Cut.here ?_)
  (refine wpSs_cons.mpr ?_; tm_at "wps")
  refine ⟨_, fun _ _ h => h, hq, L, rfl, Nat.lt_of_le_of_lt (Nat.le_trans (Nat.le_of_eq hLl) hn) (by decide), fun L' hp' hs' => ⟨hq, hq, ⟨by decide, lim_of sm, by decide⟩, ?_⟩⟩
  have eL : L' = rngI ns.length := sorted_rng (hp'.trans hL) hs'
  subst eL
  refine ⟨⟨by decide, lim_of sm, by decide⟩, ?_⟩
  rw [rngI_eq]
  refine ⟨_, _, .ref rfl (Rds.ints _), .ref rfl (Rds.ints _), ?_⟩
  rw [show (PyData.list ((rngI ns.length).map PyData.int)).eqv (PyData.list ((rngI ns.length).map PyData.int)) = true from eqv_ints _]
  tm_at "wps"
  exact Cut.here rfl
end

open PySem PyProof.Rows PySem.SeqAt

section
variable {P : PC} {l : Lv} {f : Nat} {ps rest : List Str} {X : Str → Prop} {ns : List Int} {ms : List Str} {L : List Int} {sc : List Int}
end
theorem rens2' {φ : List Nat} {H : AH} {ns : List Int} {ms : List Str} : Ren φ H (.tup [.fl (ns.map AV.int), .fl (ms.map AV.str)]) (.tup [.fl (ns.map AV.int), .fl (ms.map AV.str)]) := .tup (.cons (.fl (Rens.ints _)) (.cons (.fl (Rens.strs _)) .nil))
/-- a call that gives ints back -/
theorem call_ints {P : PC} {l : Lv} {f : Nat} {vs vs' : List AV} {H : AH} {Q : AV → AH → Prop} {X : Str → Prop} {L : List Int} (hr : Rens [] H vs vs') (hc : CallJ P l f vs' (fun v H => v = .ref 0 ∧ H = [L.map AV.int]) X) (h : Q (.ref H.length) (H ++ [L.map AV.int])) : CallP P l f vs H Q X :=
  CallP.frz hr hc (fun v H h => nofl_ints h) fun v Hc ⟨e1, e2⟩ => by
    subst e1 e2
    rw [← shifts_ints H.length L] at h
    exact h
open PySem PyProof.Rows PySem.SeqAt

noncomputable def TurnE (J : Loc → AH → Prop) (n m : Nat) (it : AV) (loc : Loc) (H : AH) : Prop := ∃ vs' loc' H', RenL loc H (loc' ++ vs'.map some) H' ∧ loc'.length = n ∧ vs'.length = m ∧ vs' = [it] ∧ J loc' H'
theorem TurnE.here {J : Loc → AH → Prop} {n : Nat} {it : AV} {loc : Loc} {H : AH} (hl : loc.length = n) (h : J loc H) : TurnE J n 1 it (loc ++ [some it]) H := ⟨[it], loc, H, .inl ⟨rfl, rfl⟩, hl, rfl, rfl, h⟩
theorem for_enum {P : PC} {l : Lv} {i j : Nat} {e : CE} {body : List CS} {loc : Loc} {H : AH} {Qn : Loc → AH → Prop} {Qr : AV → AH → Prop} {Qx : Str → Loc → AH → Prop} {L : List AV} (J : Nat → Loc → AH → Prop) (hs : L.length ≤ smallN)
    (h0 : J 0 loc H)
    (hk : ∀ k loc' H' u, loc'.length = loc.length → L[k]? = some u → J k loc' H' → wpSs P l body (((loc'.set i (some (.int (k : Int)))).set j (some u)) ++ [some (.fl L)]) H' (TurnE (J (k + 1)) loc.length 1 (.fl L)) Qr (fun e l' H' => Qx e (l'.take loc.length) H'))
    (hn : ∀ loc' H', J L.length loc' H' → Qn loc' H') :
    ∃ (n : Nat) (Inv : Nat → List AV → Loc → AH → Prop),
      (∃ vs' loc' H', RenL (loc ++ [AV.fl L].map some) H (loc' ++ vs'.map some) H' ∧ loc'.length = loc.length ∧ vs'.length = [AV.fl L].length ∧ Inv 0 vs' loc' H') ∧
      (∀ k vs loc H, k ≤ n → Inv k vs loc H → ∃ its, turnsOf H .enumerate vs = some its ∧ its.length = n) ∧ n ≤ smallN ∧
      (∀ k vs loc' H its us, k < n → loc'.length = loc.length → Inv k vs loc' H → turnsOf H .enumerate vs = some its → its[k]? = some us → us.length = [i, j].length ∧ wpSs P l body (setAll loc' [i, j] us ++ vs.map some) H
        (fun loc₂ H₂ => ∃ vs₃ loc₃ H₃, RenL loc₂ H₂ (loc₃ ++ vs₃.map some) H₃ ∧ loc₃.length = loc.length ∧ vs₃.length = [e].length ∧ Inv (k + 1) vs₃ loc₃ H₃) Qr (fun c loc₂ H₂ => Qx c (loc₂.take loc.length) H₂)) ∧
      (∀ vs loc H, Inv n vs loc H → Qn loc H) := by
  refine ⟨L.length, fun k vs loc H => vs = [.fl L] ∧ J k loc H, ⟨[.fl L], loc, H, .inl ⟨rfl, rfl⟩, rfl, rfl, rfl, h0⟩, ?_, hs, ?_, fun vs loc H h => hn loc H h.2⟩
  · rintro k vs loc H hk ⟨rfl, _⟩
    exact ⟨_, rfl, by simp⟩
  · rintro k vs loc' H its us hk' hl ⟨rfl, hJ⟩ ei eu
    have eu' : us = [.int (k : Int), L[k]] := by
      cases ei
      simp [hk'] at eu
      exact eu.symm
    subst eu'
    exact ⟨rfl, hk k loc' H _ hl (List.getElem?_eq_getElem hk') hJ⟩
theorem st_enum {P : PC} {l : Lv} {i j : Nat} {e : CE} {body : List CS} {loc : Loc} {H H₁ : AH} {Qn : Loc → AH → Prop} {Qr : AV → AH → Prop} {Qx : Str → Loc → AH → Prop} {L : List AV} (J : Nat → Loc → AH → Prop) (hq : l.q = true)
    (hit : ∀ K : AV → AH → Prop, K (.fl L) H₁ → wpE P l (fun e => Qx e loc H) e loc H K) (hs : L.length ≤ smallN) (h0 : J 0 loc H₁)
    (hk : ∀ k loc' H' u, loc'.length = loc.length → L[k]? = some u → J k loc' H' → wpSs P l body (((loc'.set i (some (.int (k : Int)))).set j (some u)) ++ [some (.fl L)]) H' (TurnE (J (k + 1)) loc.length 1 (.fl L)) Qr (fun e l' H' => Qx e (l'.take loc.length) H'))
    (hn : ∀ loc' H', J L.length loc' H' → Qn loc' H') : wpS P l (.forT [i, j] .enumerate [e] body) loc H Qn Qr Qx := ⟨hq, hit _ (for_enum (e := e) J hs h0 hk hn)⟩
/-- an item of a list that is told by a function -/
theorem i_fn {H : AH} {Q : AV → AH → Prop} {o : AV} {g : Nat → Int} {n : Nat} (e : o.seq? H = some (((List.range n).map g).map AV.int)) (hs : n ≤ smallN) {c : Nat} {k : Int} (hk : k = c) (hc : c < n) (h : Q (.int (g c)) H) : opIdx o (.int k) H Q := by
  subst hk
  exact i_at e (by simpa using hs) (Int.natCast_nonneg _) (by simpa using hc) (w := .int (g c)) (by simp [hc]) h
theorem i_fnA {H : AH} {Q : AV → AH → Prop} {o : AV} {g : Nat → AV} {n : Nat} (e : o.seq? H = some ((List.range n).map g)) (hs : n ≤ smallN) {c : Nat} {k : Int} (hk : k = c) (hc : c < n) (h : Q (g c) H) : opIdx o (.int k) H Q := by
  subst hk
  exact i_at e (by simpa using hs) (Int.natCast_nonneg _) (by simpa using hc) (w := g c) (by simp [hc]) h

-- the heights
noncomputable def rk (L : List Int) (i : Nat) : Int := (L.idxOf (i : Int) : Nat)
noncomputable def rks (L : List Int) (n : Nat) : List Int := (List.range n).map (rk L)
noncomputable def rkTo (L : List Int) (k i : Nat) : Int := if L.idxOf (i : Int) < k then rk L i else 0
theorem ord_nodup {L : List Int} {n : Nat} (h : L.Perm (rngI n)) : L.Nodup := h.nodup_iff.mpr (by
  unfold rngI
  exact List.Pairwise.map _ (fun a b hab e => hab (Int.ofNat.inj e)) List.nodup_range)
theorem ord_at {L : List Int} {n k : Nat} {z : Int} (h : L.Perm (rngI n)) (e : L[k]? = some z) : ∃ p : Nat, z = p ∧ p < n ∧ L.idxOf (p : Int) = k := by
  have hm := (h.mem_iff (a := z)).mp (List.mem_of_getElem? e)
  obtain ⟨p, hp, rfl⟩ := List.mem_map.mp hm
  obtain ⟨hk, e⟩ := List.getElem?_eq_some_iff.mp e
  exact ⟨p, rfl, List.mem_range.mp hp, by rw [← e]; exact (ord_nodup h).idxOf_getElem k hk⟩
theorem idx_lt {L : List Int} {n i : Nat} (h : L.Perm (rngI n)) (hi : i < n) : L.idxOf (i : Int) < n := by
  have hm : (i : Int) ∈ L := (h.mem_iff (a := (i : Int))).mpr (List.mem_map.mpr ⟨i, List.mem_range.mpr hi, rfl⟩)
  have := List.idxOf_lt_length_of_mem hm
  rwa [h.length_eq, rngI_len] at this
theorem rk_inj {L : List Int} {n i j : Nat} (h : L.Perm (rngI n)) (hi : i < n) (hj : j < n) (e : rk L i = rk L j) : i = j := by
  have hm : ∀ i, i < n → (i : Int) ∈ L := fun i hi => (h.mem_iff (a := (i : Int))).mpr (List.mem_map.mpr ⟨i, List.mem_range.mpr hi, rfl⟩)
  have e' : L.idxOf (i : Int) = L.idxOf (j : Int) := Int.ofNat.inj e
  have h1 := List.getElem_idxOf (List.idxOf_lt_length_of_mem (hm i hi))
  have h2 := List.getElem_idxOf (List.idxOf_lt_length_of_mem (hm j hj))
  have : (i : Int) = (j : Int) := by rw [← h1, ← h2]; congr 1
  exact Int.ofNat.inj this
theorem rkTo_zero (L : List Int) : ∀ n, (List.replicate n [AV.int 0]).flatten = ((List.range n).map (rkTo L 0)).map AV.int := by
  intro n
  rw [show rkTo L 0 = fun _ => 0 from funext fun i => if_neg (Nat.not_lt_zero _)]
  induction n with
  | zero => rfl
  | succ n ih => rw [List.range_succ, List.map_append, List.map_append, ← ih, List.replicate_succ', List.flatten_append]; rfl
theorem rkTo_set {L : List Int} {n k p : Nat} (h : L.Perm (rngI n)) (hp : p < n) (hi : L.idxOf (p : Int) = k) : (((List.range n).map (rkTo L k)).map AV.int).set p (.int k) = ((List.range n).map (rkTo L (k + 1))).map AV.int := by
  apply List.ext_getElem
  · simp
  · intro i h1 h2
    have hin : i < n := by simpa using h2
    rw [List.getElem_set]
    simp only [List.getElem_map, List.getElem_range]
    split
    · rename_i e
      subst e
      simp [rkTo, rk, hi]
    · rename_i e
      have : L.idxOf (i : Int) ≠ k := fun q => e (rk_inj h hp hin (by unfold rk; rw [hi, q]))
      unfold rkTo
      congr 1
      by_cases hlt : L.idxOf (i : Int) < k
      · rw [if_pos hlt, if_pos (Nat.lt_succ_of_lt hlt)]
      · rw [if_neg hlt, if_neg (by omega)]
theorem rkTo_end {L : List Int} {n : Nat} (h : L.Perm (rngI n)) : (List.range n).map (rkTo L n) = rks L n := by
  unfold rks
  exact List.map_congr_left fun i hi => if_pos (idx_lt h (List.mem_range.mp hi))
noncomputable def cs_heights : List CS := [
  .assign 1 (.bin .Mult (.lst [(.const (.int (0)))]) (.prim .len [(.var 0)])),
  .forT [2, 3] .enumerate [(.var 0)]
    [      .setIdx (.var 1) (.var 3) (.var 2)],
  .ret (.var 1)]
section
variable {P : PC} {l : Lv} {f : Nat} {ps rest : List Str} {X : Str → Prop} {ns : List Int} {ms : List Str} {L : List Int} {n : Nat}
theorem heights_ok (F : FnIs P f ps rest cs_heights) (hp : ps.length = 1) (hr : rest.length = 3) (hk : 0 < l.k) (hq : l.q = true) (hn : n ≤ 30) (hL : L.Perm (rngI n)) : CallJ P l f [.fl (L.map AV.int)] (fun v H => v = .ref 0 ∧ H = [(rks L n).map AV.int]) X := by
  have hLl : L.length = n := by rw [hL.length_eq, rngI_len]
  refine CallJ.ren (F.call hk (by simp [hp]) ?_)
  rw [hr]
  unfold cs_heights
  (refine wpSs_cons.mpr ?_; tm_at "wps")
  rw [List.length_map]
  refine ⟨by decide, hq, by unfold smallN; omega, ⟨by omega, by simp [smallN]; omega, by unfold smallN; omega⟩, ?_⟩
  refine seqS (st_enum (l := ⟨l.k - 1, l.q⟩) (L := L.map AV.int) (fun k loc H => ∃ o2 o3 g, loc = [some (.fl (L.map AV.int)), some (.ref 1), o2, o3] ∧ H = [g, ((List.range n).map (rkTo L k)).map AV.int]) hq (fun K h => h) (mapI_le (by unfold smallN; omega)) ⟨_, _, [.int 0], rfl, ?_⟩ ?_ ?_)
  · rw [← rkTo_zero, hLl]; rfl
  · rintro k loc H u hl eu ⟨o2, o3, g, rfl, rfl⟩
    rw [List.getElem?_map] at eu
    obtain ⟨z, ez, rfl⟩ := Option.map_eq_some_iff.mp eu
    obtain ⟨p, rfl, hp, hi⟩ := ord_at hL ez
    (refine wpSs_cons.mpr ?_; tm_at "wps")
    refine ⟨_, _, _, rfl, rfl, rfl, Int.natCast_nonneg _, by simpa using hp, by simp [smallN]; omega, ?_⟩
    exact ⟨_, _, _, .inl ⟨rfl, rfl⟩, rfl, rfl, rfl, _, _, g, rfl, congrArg (fun x => [g, x]) (rkTo_set hL hp hi)⟩
  · rintro loc H ⟨o2, o3, g, rfl, rfl⟩
    rw [List.length_map, hLl, rkTo_end hL]
    exact ⟨[1], _, _, RenH.one rfl (Rens.ints _), .ref rfl, rfl, rfl⟩
end

open PySem PyProof.Rows PySem.SeqAt

noncomputable def lo2 (a b : Int) : Int := if b < a then b else a
noncomputable def hi2 (a b : Int) : Int := if b > a then b else a
noncomputable def btw (L : List Int) (c p : Nat) : Bool := decide (lo2 (rk L c) (rk L (c + 1)) < rk L p) && decide (rk L p < hi2 (rk L c) (rk L (c + 1)))
noncomputable def acc (g : Nat → List AV) (k : Nat) : List AV := (List.range k).flatMap g
theorem acc_succ (g : Nat → List AV) (k : Nat) : acc g (k + 1) = acc g k ++ g k := by unfold acc; rw [List.range_succ, List.flatMap_append]; simp
theorem acc_len {g : Nat → List AV} {m : Nat} (h : ∀ i, (g i).length ≤ m) : ∀ k, (acc g k).length ≤ k * m
  | 0 => by simp [acc]
  | k + 1 => by rw [acc_succ, List.length_append, Nat.succ_mul]; exact Nat.add_le_add (acc_len h k) (h k)
noncomputable def iff1 (b : Bool) (v : AV) : List AV := if b then [v] else []
theorem iff1_len (b : Bool) (v : AV) : (iff1 b v).length ≤ 1 := by cases b <;> simp [iff1]
theorem app_nil' {A : List AV} {v : AV} : A ++ iff1 false v = A := List.append_nil A

noncomputable def cs_is_between : List CS := [
  .assign 3 (.prim .min [(.idx (.var 0) (.var 1)), (.idx (.var 0) (.bin .Add (.var 1) (.const (.int (1)))))]),
  .ret (.chain .Lt .Lt (.var 3) (.idx (.var 0) (.var 2)) (.prim .max [(.idx (.var 0) (.var 1)), (.idx (.var 0) (.bin .Add (.var 1) (.const (.int (1)))))]))]
noncomputable def cs_mark_faults : List CS := [
  .assign 2 (.lst []),
  .forT [3, 4] .enumerate [(.idx (.var 0) (.const (.int (1))))]
    [      .assign 5 (.bin .Add (.var 3) (.bin .Mod (.var 3) (.const (.int (2))))),
      .assign 6 (.bin .Sub (.bin .Add (.var 3) (.const (.int (1)))) (.bin .Mod (.var 3) (.const (.int (2))))),
      .assign 7 (.cmp .Gt (.idx (.var 1) (.var 6)) (.idx (.var 1) (.var 5))),
      .ite (.cmp .NotEq (.var 7) (.cmp .Eq (.var 4) (.const (.str "valley"))))
        [          .mut .append (.var 2) [(.tup [(.const (.str "mark")), (.var 3)])]]
        []],
  .ret (.var 2)]
section
variable {P : PC} {l : Lv} {f : Nat} {ps rest : List Str} {X : Str → Prop} {ns : List Int} {ms : List Str} {L : List Int} {n : Nat}
theorem is_between_ok (F : FnIs P f ps rest cs_is_between) (hp : ps.length = 3) (hr : rest.length = 1) (hk : 0 < l.k) (hq : l.q = true) (hn : n ≤ 30) {c p : Nat} (hc : c + 1 < n) (hp' : p < n) :
    CallJ P l f [.fl ((rks L n).map AV.int), .int c, .int p] (fun v H => v = .bool (btw L c p) ∧ H = []) X := by
  have hs : n ≤ smallN := Nat.le_trans hn (by decide)
  have hc0 : c < n := Nat.lt_of_succ_lt hc
  refine F.call hk (by simp [hp]) ?_
  rw [hr]
  unfold cs_is_between
  (refine wpSs_cons.mpr ?_; tm_at "wps")
  refine ⟨hq, i_fn rfl hs rfl hc0 (i_fn rfl hs (c := c + 1) rfl hc ?_)⟩
  (refine wpSs_cons.mpr ?_; tm_at "wps")
  refine i_fn rfl hs rfl hp' ?_
  refine brk (fun h => ⟨hq, i_fn rfl hs rfl hc0 (i_fn rfl hs (c := c + 1) rfl hc ⟨?_, rfl⟩)⟩) fun h => ⟨?_, rfl⟩
  · show AV.bool _ = AV.bool (decide (lo2 (rk L c) (rk L (c + 1)) < rk L p) && _)
    rw [decide_eq_true (show lo2 (rk L c) (rk L (c + 1)) < rk L p from h)]; rfl
  · show AV.bool _ = AV.bool (decide (lo2 (rk L c) (rk L (c + 1)) < rk L p) && _)
    rw [decide_eq_false (show ¬ lo2 (rk L c) (rk L (c + 1)) < rk L p from h)]; rfl
/-- is the crease's mark a fault -/
noncomputable def mkF (L : List Int) (c : Nat) (m : Str) : Bool := (decide (rk L (c + c % 2) < rk L (c + 1 - c % 2))) != decide (m = ("valley" : Str))
noncomputable def mkV (L : List Int) (ms : List Str) (c : Nat) : List AV := iff1 (mkF L c (ms.getD c "")) (.tup [.str "mark", .int c])
theorem cmp_bools {H : AH} {Q : AV → AH → Prop} {a b : Bool} (h : Q (.bool (a != b)) H) : opCmp .NotEq (.bool a) (.bool b) H Q := ⟨_, _, .bool a, .bool b, by cases a <;> cases b <;> exact h⟩
theorem valley_ok : PyData.strOk ("valley" : Str) = true := by decide +kernel
theorem cmp_valley {H : AH} {Q : AV → AH → Prop} {m : Str} (hm : Mk m) (h : Q (.bool (decide (m = ("valley" : Str)))) H) : opCmp .Eq (.str m) (.str "valley") H Q := by
  refine ⟨_, _, .str _ (mk_ok hm), .str _ valley_ok, ?_⟩
  rcases hm with rfl | rfl
  · rwa [show (PyData.str "hill").eqv (PyData.str "valley") = decide (("hill" : Str) = "valley") from by decide +kernel]
  · rwa [show (PyData.str "valley").eqv (PyData.str "valley") = decide (("valley" : Str) = "valley") from by decide +kernel]
theorem ix1 (k : Nat) : (k : Int) + 1 - (k : Int) % 2 = ((k + 1 - k % 2 : Nat) : Int) := by omega
theorem ix4 {k n : Nat} (h : k + 1 < n) : k + k % 2 < n := Nat.lt_of_le_of_lt (Nat.add_le_add_left (Nat.le_of_lt_succ (Nat.mod_lt k (by decide))) k) h
theorem mark_faults_ok (F : FnIs P f ps rest cs_mark_faults) (hp : ps.length = 2) (hr : rest.length = 6) (hk : 0 < l.k) (hq : l.q = true) (hn : n ≤ 30) (hl : n = ms.length + 1) (hm : ∀ m ∈ ms, Mk m) :
    CallJ P l f [.tup [.fl (ns.map AV.int), .fl (ms.map AV.str)], .fl ((rks L n).map AV.int)] (fun v H => v = .ref 0 ∧ H = [acc (mkV L ms) ms.length]) X := by
  have hs : n ≤ smallN := Nat.le_trans hn (by decide)
  refine F.call hk (by simp [hp]) ?_
  rw [hr]
  unfold cs_mark_faults
  (refine wpSs_cons.mpr ?_; tm_at "wps")
  refine ⟨by decide, ?_⟩
  refine seqS (st_enum (l := ⟨l.k - 1, l.q⟩) (L := ms.map AV.str) (fun k loc H => ∃ o3 o4 o5 o6 o7, loc = [some (.tup [.fl (ns.map AV.int), .fl (ms.map AV.str)]), some (.fl ((rks L n).map AV.int)), some (.ref 0), o3, o4, o5, o6, o7] ∧ H = [acc (mkV L ms) k]) hq (fun K h => h) (mapS_le (by unfold smallN; omega)) ⟨_, _, _, _, _, rfl, rfl⟩ ?_ ?_)
  · rintro k loc H u hl' eu ⟨o3, o4, o5, o6, o7, rfl, rfl⟩
    rw [List.getElem?_map] at eu
    obtain ⟨m, em, rfl⟩ := Option.map_eq_some_iff.mp eu
    have hkm : k < ms.length := (List.getElem?_eq_some_iff.mp em).1
    have hlen := acc_len (g := mkV L ms) (m := 1) (fun i => iff1_len _ _) k
    (refine wpSs_cons.mpr ?_; tm_at "wps")
    refine ⟨by decide, ?_⟩
    (refine wpSs_cons.mpr ?_; tm_at "wps")
    refine ⟨by decide, ?_⟩
    (refine wpSs_cons.mpr ?_; tm_at "wps")
    have hk2 : k + 1 < n := hl ▸ Nat.succ_lt_succ hkm
    refine i_fn rfl hs (c := k + 1 - k % 2) (ix1 k) (Nat.lt_of_le_of_lt (Nat.sub_le _ _) hk2) (i_fn rfl hs (c := k + k % 2) rfl (ix4 hk2) ?_)
    (refine wpSs_cons.mpr ?_; tm_at "wps")
    have eg : ms.getD k "" = m := by rw [List.getD_eq_getElem?_getD, em]; rfl
    refine ⟨_, fun _ _ h => h, cmp_valley (hm m (List.mem_of_getElem? em)) (cmp_bools ?_)⟩
    show if mkF L k m = true then _ else _
    cases hb : mkF L k m with
    | false =>
      exact Cut.here ⟨_, _, _, .inl ⟨rfl, rfl⟩, rfl, rfl, rfl, _, _, _, _, _, rfl, by rw [acc_succ, mkV, eg, hb, app_nil']⟩
    | true =>
      (refine wpSs_cons.mpr ?_; tm_at "wps")
      refine ⟨by decide, _, _, _, rfl, rfl, m_app (by unfold smallN; omega), (fun _ _ e => nomatch e), ?_⟩
      exact Cut.here ⟨_, _, _, .inl ⟨rfl, rfl⟩, rfl, rfl, rfl, _, _, _, _, _, rfl, by rw [acc_succ, mkV, eg, hb]; rfl⟩
  · rintro loc H ⟨o3, o4, o5, o6, o7, rfl, rfl⟩
    rw [List.length_map]
    exact ⟨rfl, rfl⟩
end
noncomputable def cs_through_faults (fe fs fb : Nat) : List CS := [
  .assign 2 (.lst []),
  .assign 3 (.call fe [(.var 0)]),
  .assign 4 (.call fs [(.var 0)]),
  .for1 5 (.prim .range [(.prim .len [(.idx (.var 0) (.const (.int (1))))])])
    [      .for1 6 (.prim .range [(.prim .len [(.var 1)])])
        [          .ite (.and (.cmp .NotEq (.var 6) (.var 5)) (.and (.cmp .NotEq (.var 6) (.bin .Add (.var 5) (.const (.int (1))))) (.call fb [(.var 1), (.var 5), (.var 6)])))
            [              .ite (.chain .Lt .Lt (.idx (.idx (.var 4) (.var 6)) (.const (.int (0)))) (.idx (.var 3) (.var 5)) (.idx (.idx (.var 4) (.var 6)) (.const (.int (1)))))
                [                  .mut .append (.var 2) [(.tup [(.const (.str "through")), (.var 5), (.var 6)])]]
                []]
            []]],
  .ret (.var 2)]
noncomputable def cs_crossed_faults (fe fb : Nat) : List CS := [
  .assign 2 (.lst []),
  .assign 3 (.call fe [(.var 0)]),
  .for1 4 (.prim .range [(.prim .len [(.idx (.var 0) (.const (.int (1))))])])
    [      .for1 5 (.prim .range [(.bin .Add (.var 4) (.const (.int (2)))), (.prim .len [(.idx (.var 0) (.const (.int (1))))]), (.const (.int (2)))])
        [          .ite (.cmp .Eq (.idx (.var 3) (.var 4)) (.idx (.var 3) (.var 5)))
            [              .ite (.cmp .NotEq (.call fb [(.var 1), (.var 4), (.var 5)]) (.call fb [(.var 1), (.var 4), (.bin .Add (.var 5) (.const (.int (1))))]))
                [                  .mut .append (.var 2) [(.tup [(.const (.str "crossed")), (.var 4), (.var 5)])]]
                []]
            []]],
  .ret (.var 2)]
noncomputable def cs_faults (fn fh fm ft fx : Nat) : List CS := [
  .expr (.call fn [(.var 0), (.var 1)]),
  .assign 2 (.call fh [(.var 1)]),
  .ret (.bin .Add (.bin .Add (.call fm [(.var 0), (.var 2)]) (.call ft [(.var 0), (.var 2)])) (.call fx [(.var 0), (.var 2)]))]
/-- does a piece lie through a crease -/
noncomputable def thF (ns L : List Int) (c p : Nat) : Bool := ((!decide ((p : Int) = c)) && ((!decide ((p : Int) = (c : Int) + 1)) && btw L c p)) && (decide (lo2 (plc ns p) (plc ns (p + 1)) < plc ns (c + 1)) && decide (plc ns (c + 1) < hi2 (plc ns p) (plc ns (p + 1))))
noncomputable def thV (ns L : List Int) (c p : Nat) : List AV := iff1 (thF ns L c p) (.tup [.str "through", .int c, .int p])
noncomputable def crF (ns L : List Int) (c d : Nat) : Bool := decide (plc ns (c + 1) = plc ns (d + 1)) && (btw L c d != btw L c (d + 1))
noncomputable def crV (ns L : List Int) (c i : Nat) : List AV := iff1 (crF ns L c (c + 2 + i * 2)) (.tup [.str "crossed", .int c, .int ((c + 2 + i * 2 : Nat) : Int)])
theorem flt_ok1 : PyData.strOk ("mark" : Str) = true := by decide +kernel
theorem flt_ok2 : PyData.strOk ("through" : Str) = true := by decide +kernel
theorem flt_ok3 : PyData.strOk ("crossed" : Str) = true := by decide +kernel
/-- a fault -/
noncomputable def FltV (v : AV) : Prop := (∃ (s : Str) (a : Int), PyData.strOk s = true ∧ v = .tup [.str s, .int a]) ∨ ∃ (s : Str) (a b : Int), PyData.strOk s = true ∧ v = .tup [.str s, .int a, .int b]
noncomputable def Flts (F : List AV) : Prop := ∀ v ∈ F, FltV v
theorem Flts.app {A B : List AV} (h1 : Flts A) (h2 : Flts B) : Flts (A ++ B) := fun v hv => (List.mem_append.mp hv).elim (h1 v) (h2 v)
theorem Flts.acc {g : Nat → List AV} (h : ∀ i, Flts (g i)) (k : Nat) : Flts (acc g k) := fun v hv => let ⟨i, _, hi⟩ := List.mem_flatMap.mp hv; h i v hi
theorem Flts.iff1 {b : Bool} {v : AV} (h : FltV v) : Flts (iff1 b v) := fun w hw => by cases b with | false => cases hw | true => rw [List.mem_singleton.mp hw]; exact h
theorem Flts.mk {L : List Int} {ms : List Str} (k : Nat) : Flts (Mine.acc (mkV L ms) k) := .acc (fun i => .iff1 (.inl ⟨_, _, flt_ok1, rfl⟩)) k
theorem Flts.th {ns L : List Int} {n : Nat} (k : Nat) : Flts (Mine.acc (fun c => Mine.acc (thV ns L c) n) k) := .acc (fun i => .acc (fun j => .iff1 (.inr ⟨_, _, _, flt_ok2, rfl⟩)) n) k
theorem FltV.ren {v : AV} (h : FltV v) {φ : List Nat} {H : AH} : Ren φ H v v := by
  rcases h with ⟨s, a, _, rfl⟩ | ⟨s, a, b, _, rfl⟩
  · exact .tup (.cons (.str _) (.cons (.int _) .nil))
  · exact .tup (.cons (.str _) (.cons (.int _) (.cons (.int _) .nil)))
theorem FltV.nofl {v : AV} (h : FltV v) : NoFl v := by
  rcases h with ⟨s, a, _, rfl⟩ | ⟨s, a, b, _, rfl⟩
  · exact .tup (.cons (.str _) (.cons (.int _) .nil))
  · exact .tup (.cons (.str _) (.cons (.int _) (.cons (.int _) .nil)))
theorem FltV.shift {v : AV} (h : FltV v) (k : Nat) : AV.shift k v = v := by rcases h with ⟨s, a, _, rfl⟩ | ⟨s, a, b, _, rfl⟩ <;> rfl
theorem Flts.rens {F : List AV} (h : Flts F) {φ : List Nat} {H : AH} : Rens φ H F F := Rens.self fun v hv => (h v hv).ren
theorem Flts.nofls {F : List AV} (h : Flts F) : NoFls F := .of fun v hv => (h v hv).nofl
theorem Flts.shifts {F : List AV} (h : Flts F) (k : Nat) : AV.shifts k F = F := by
  rw [AV.shifts_eq]
  exact (List.map_congr_left fun v hv => (h v hv).shift k).trans (List.map_id F)
section
variable {P : PC} {l : Lv} {f : Nat} {ps rest : List Str} {X : Str → Prop} {ns : List Int} {ms : List Str} {L : List Int} {n : Nat}
theorem i_sp0 {p : Nat} {H : AH} {Q : AV → AH → Prop} : opIdx (spanAV ns p) (.int 0) H Q = Q (.int (lo2 (plc ns p) (plc ns (p + 1)))) H := rfl
theorem i_sp1 {p : Nat} {H : AH} {Q : AV → AH → Prop} : opIdx (spanAV ns p) (.int 1) H Q = Q (.int (hi2 (plc ns p) (plc ns (p + 1)))) H := rfl
/-- a strip, frozen -/
noncomputable def stV (ns : List Int) (ms : List Str) : AV := .tup [.fl (ns.map AV.int), .fl (ms.map AV.str)]
theorem spans_plain (k : Nat) : AV.shifts k ((List.range n).map (spanAV ns)) = (List.range n).map (spanAV ns) := by rw [AV.shifts_eq, List.map_map]; rfl
theorem nofls_sp : NoFls ((List.range n).map (spanAV ns)) := .of fun v hv => by obtain ⟨i, _, rfl⟩ := List.mem_map.mp hv; exact .tup (.cons (.int _) (.cons (.int _) .nil))
theorem call_lst {vs vs' : List AV} {H : AH} {Q : AV → AH → Prop} {G : List AV} (hS : ∀ k, AV.shifts k G = G) (hN : NoFls G) (hr : Rens [] H vs vs') (hc : CallJ P l f vs' (fun v H => v = .ref 0 ∧ H = [G]) X) (h : Q (.ref H.length) (H ++ [G])) : CallP P l f vs H Q X :=
  CallP.frz hr hc (fun v H h => by rw [h.1, h.2]; exact ⟨.ref _, fun _ hx => by rw [List.mem_singleton.mp hx]; exact hN⟩) fun v Hc ⟨e1, e2⟩ => by
    subst e1 e2
    rw [← hS H.length] at h
    exact h
theorem acc_small {E : List AV} {g : Nat → List AV} {i n : Nat} (hE : E.length ≤ 1830) (hg : ∀ j, (g j).length ≤ 1) (hi : i ≤ n) (hn : n ≤ 30) : (E ++ acc g i).length < smallN := by
  rw [List.length_append]
  exact Nat.lt_of_le_of_lt (Nat.add_le_add hE (Nat.le_trans (acc_len hg i) (Nat.le_trans (Nat.le_of_eq (Nat.mul_one i)) (Nat.le_trans hi hn)))) (by decide)
theorem accs_le {F : List AV} {g : Nat → List AV} {k a : Nat} (hF : F.length ≤ a) (hg : ∀ j, (g j).length ≤ 30) (hk : k ≤ 30) : (F ++ acc g k).length ≤ a + 900 := by
  rw [List.length_append]
  exact Nat.add_le_add hF (Nat.le_trans (acc_len hg k) (Nat.mul_le_mul_right 30 hk))
/-- between the turns of through_faults -/
noncomputable def thJ (ns : List Int) (ms : List Str) (L : List Int) (F : List AV) (a5 a6 : Option AV) (tl loc : Loc) (H : AH) : Prop :=
  loc = some (stV ns ms) :: some (.fl ((rks L ns.length).map AV.int)) :: some (.ref 0) :: some (.ref 1) :: some (.ref 2) :: a5 :: a6 :: tl ∧ H = [F, (endsL ns).map AV.int, (List.range ns.length).map (spanAV ns)]
theorem thJ.turn {k p : Int} {it1 it2 : AV} {F F' : List AV} (e : F = F') : TurnTo (fun loc H => ∃ a6, thJ ns ms L F' (some (.int k)) a6 [some it1] loc H) 8 it2
    [some (stV ns ms), some (.fl ((rks L ns.length).map AV.int)), some (.ref 0), some (.ref 1), some (.ref 2), some (.int k), some (.int p), some it1, some it2] [F, (endsL ns).map AV.int, (List.range ns.length).map (spanAV ns)] := by
  subst e
  exact ⟨it2, [_, _, _, _, _, _, _, _], _, .inl ⟨rfl, rfl⟩, rfl, rfl, _, rfl, rfl⟩
theorem thJ.turn0 {a5 a6 : Option AV} {it : AV} {F F' : List AV} (e : F = F') : TurnTo (fun loc H => ∃ a5 a6, thJ ns ms L F' a5 a6 [] loc H) 7 it
    [some (stV ns ms), some (.fl ((rks L ns.length).map AV.int)), some (.ref 0), some (.ref 1), some (.ref 2), a5, a6, some it] [F, (endsL ns).map AV.int, (List.range ns.length).map (spanAV ns)] := by
  subst e
  exact ⟨it, [_, _, _, _, _, _, _], _, .inl ⟨rfl, rfl⟩, rfl, rfl, _, _, rfl, rfl⟩
theorem through_ok {fe fs fb : Nat} (F : FnIs P f ps rest (cs_through_faults fe fs fb)) (hp : ps.length = 2) (hr : rest.length = 5) (hk : 2 < l.k) (hq : l.q = true) (hn : ns.length ≤ 30) (hl : ns.length = ms.length + 1)
    (he : CallJ P ⟨l.k - 1, l.q⟩ fe [stV ns ms] (fun v H => v = .ref 0 ∧ H = [(endsL ns).map AV.int]) X)
    (hsp : CallJ P ⟨l.k - 1, l.q⟩ fs [stV ns ms] (fun v H => v = .ref 0 ∧ H = [(List.range ns.length).map (spanAV ns)]) X)
    (hb : ∀ c p : Nat, c + 1 < ns.length → p < ns.length → CallJ P ⟨l.k - 1, l.q⟩ fb [.fl ((rks L ns.length).map AV.int), .int c, .int p] (fun v H => v = .bool (btw L c p) ∧ H = []) X) :
    CallJ P l f [stV ns ms, .fl ((rks L ns.length).map AV.int)] (fun v H => v = .ref 0 ∧ H = [acc (fun c => acc (thV ns L c) ns.length) ms.length]) X := by
  have hk' : 0 < l.k - 1 := Nat.sub_pos_of_lt (Nat.lt_of_succ_lt hk)
  have hs : ns.length ≤ smallN := Nat.le_trans hn (by decide)
  have hm30 : ms.length ≤ 30 := Nat.le_of_succ_le (Nat.le_trans (Nat.le_of_eq hl.symm) hn)
  have hsm : (ms.map AV.str).length ≤ smallN := mapS_le (Nat.le_trans hm30 (by decide))
  refine CallJ.ren (F.call (Nat.lt_of_succ_lt (Nat.lt_of_succ_lt hk)) (by simp [hp]) ?_)
  rw [hr]
  unfold cs_through_faults
  (refine wpSs_cons.mpr ?_; tm_at "wps")
  refine ⟨by decide, ?_⟩
  (refine wpSs_cons.mpr ?_; tm_at "wps")
  refine ⟨hk', call_ints (.cons rens2' .nil) he ?_⟩
  (refine wpSs_cons.mpr ?_; tm_at "wps")
  refine ⟨hk', call_lst spans_plain nofls_sp (.cons rens2' .nil) hsp ?_⟩
  refine seqS (st_for0 (l := ⟨l.k - 1, l.q⟩) (N := (ms.map AV.str).length) (fun k loc H => ∃ a5 a6, thJ ns ms L (acc (fun c => acc (thV ns L c) ns.length) k) a5 a6 [] loc H) hq (fun K h => ?_) hsm ⟨_, _, _, .inl ⟨rfl, rfl⟩, rfl, rfl, _, _, rfl, rfl⟩ ?_ ?_)
  · unfold stV
    tm_at "wps"
    exact ⟨hq, hq, hsm, ⟨by decide, lim_of hsm, by decide⟩, h⟩
  · rintro k loc H hk1 hl1 ⟨a5, a6, rfl, rfl⟩
    rw [List.length_map] at hk1
    have hA := accs_le (F := []) (a := 0) (g := fun c => acc (thV ns L c) ns.length) (Nat.le_refl 0) (fun i => Nat.le_trans (acc_len (fun j => iff1_len _ _) _) (Nat.le_trans (Nat.le_of_eq (Nat.mul_one _)) hn)) (Nat.le_trans (Nat.le_of_lt hk1) hm30)
    have hr1 : (rks L ns.length).length ≤ smallN := by unfold rks; rw [List.length_map, List.length_range]; exact hs
    have hk2 : k + 1 < ns.length := hl ▸ Nat.succ_lt_succ hk1
    refine seqS (st_for0 (l := ⟨l.k - 1, l.q⟩) (N := ((rks L ns.length).map AV.int).length) (fun k' loc H => ∃ a6, thJ ns ms L (acc (fun c => acc (thV ns L c) ns.length) k ++ acc (thV ns L k) k') (some (.int k)) a6 [some (.rng 0 ((ms.map AV.str).length : Nat) 1)] loc H) hq (fun K h => ?_) (mapI_le hr1) ⟨_, _, _, .inl ⟨rfl, rfl⟩, rfl, rfl, _, rfl, by rw [show acc (thV ns L k) 0 = [] from rfl, List.append_nil]⟩ ?_ ?_)
    · tm_at "wps"
      exact ⟨hq, hq, mapI_le hr1, ⟨by decide, lim_of (mapI_le hr1), by decide⟩, h⟩
    · rintro p loc H hp1 hl2 ⟨a6, rfl, rfl⟩
      have hp2 : p < ns.length := by unfold rks at hp1; simpa using hp1
      unfold stV
      (refine wpSs_cons.mpr ?_; tm_at "wps")
      refine ⟨_, fun _ _ h => h, ?_⟩
      cases h1 : (!decide ((p : Int) = (k : Int))) with
      | false => exact Cut.here (thJ.turn (by rw [acc_succ, thV, show thF ns L k p = false by simp only [thF, h1, Bool.false_and], app_nil']))
      | true =>
        tm_at "wps"
        cases h2 : (!decide ((p : Int) = (k : Int) + 1)) with
        | false => exact Cut.here (thJ.turn (by rw [acc_succ, thV, show thF ns L k p = false by simp only [thF, h2, Bool.false_and, Bool.and_false], app_nil']))
        | true =>
          tm_at "wps"
          refine ⟨hk', call_bool (.cons (.fl (Rens.ints _)) (.cons (.int _) (.cons (.int _) .nil))) (hb k p hk2 hp2) ?_⟩
          cases h3 : btw L k p with
          | false => exact Cut.here (thJ.turn (by rw [acc_succ, thV, show thF ns L k p = false by simp only [thF, h3, Bool.false_and, Bool.and_false], app_nil']))
          | true =>
            tm_at "wps"
            (refine wpSs_cons.mpr ?_; tm_at "wps")
            refine ⟨_, fun _ _ h => h, i_fnA rfl hs rfl hp2 ?_⟩
            dsimp only [i_sp0]
            tm_at "wps"
            refine i_fn (g := fun i => plc ns (i + 1)) rfl hs rfl (Nat.lt_of_succ_lt hk2) ?_
            have ht : ∀ b, (decide (lo2 (plc ns p) (plc ns (p + 1)) < plc ns (k + 1)) && decide (plc ns (k + 1) < hi2 (plc ns p) (plc ns (p + 1)))) = b → thF ns L k p = b := fun b e => by simp only [thF, h1, h2, h3, Bool.true_and, e]
            refine brk (fun h4 => ?_) fun h4 => Cut.here (Cut.here (thJ.turn (by rw [acc_succ, thV, ht false (by rw [decide_eq_false (show ¬ lo2 (plc ns p) (plc ns (p + 1)) < plc ns (k + 1) from h4)]; rfl), app_nil'])))
            refine i_fnA rfl hs rfl hp2 ?_
            dsimp only [i_sp1, c_lt, o_bool]
            refine brk (fun h5 => ?_) fun h5 => Cut.here (Cut.here (thJ.turn (by rw [acc_succ, thV, ht false (by rw [decide_eq_false (show ¬ plc ns (k + 1) < hi2 (plc ns p) (plc ns (p + 1)) from h5), Bool.and_false]), app_nil'])))
            (refine wpSs_cons.mpr ?_; tm_at "wps")
            refine ⟨by decide, _, _, _, rfl, rfl, m_app (acc_small (Nat.le_trans hA (by decide)) (fun j => iff1_len _ _) (Nat.le_of_lt hp2) hn), (fun _ _ e => nomatch e), ?_⟩
            exact Cut.here (Cut.here (thJ.turn (by rw [acc_succ, thV, ht true (by rw [decide_eq_true (show lo2 (plc ns p) (plc ns (p + 1)) < plc ns (k + 1) from h4), decide_eq_true (show plc ns (k + 1) < hi2 (plc ns p) (plc ns (p + 1)) from h5)]; rfl), ← List.append_assoc]; rfl)))
    · rintro loc H ⟨a6, rfl, rfl⟩
      exact thJ.turn0 (by rw [acc_succ]; unfold rks; simp)
  · rintro loc H ⟨a5, a6, rfl, rfl⟩
    rw [List.length_map]
    exact ⟨[0], _, _, RenH.one rfl (Flts.th _).rens, .ref rfl, rfl, rfl⟩

theorem rng2_lt {a b : Int} {i : Nat} (h : i < (rngList a b 2).length) : a + i * 2 < b ∧ (i : Int) < b - a := by
  unfold rngList at h
  rw [List.length_map, List.length_range] at h
  unfold Builtin.Range.rangeSize at h
  split at h
  · split at h
    · omega
    · simp at h
  · rename_i h2; exact absurd (by decide) h2
noncomputable def cnt (m c : Nat) : Nat := (rngList ((c : Int) + 2) m 2).length
theorem cnt_le {m c : Nat} : cnt m c ≤ m := by
  cases e : cnt m c with
  | zero => exact Nat.zero_le _
  | succ i => have := (rng2_lt (a := (c : Int) + 2) (b := m) (i := i) (by unfold cnt at e; omega)).2; omega
theorem cnt_lt {k m i : Nat} (h : i < cnt m k) : k + 2 + i * 2 < m := by
  have := (rng2_lt (a := (k : Int) + 2) (b := m) (i := i) h).1
  omega
noncomputable def cxJ (ns : List Int) (ms : List Str) (L : List Int) (F : List AV) (a4 a5 : Option AV) (tl loc : Loc) (H : AH) : Prop :=
  loc = some (stV ns ms) :: some (.fl ((rks L ns.length).map AV.int)) :: some (.ref 0) :: some (.ref 1) :: a4 :: a5 :: tl ∧ H = [F, (endsL ns).map AV.int]
theorem cxJ.turn {k p : Int} {it1 it2 : AV} {F F' : List AV} (e : F = F') : TurnTo (fun loc H => ∃ a5, cxJ ns ms L F' (some (.int k)) a5 [some it1] loc H) 7 it2
    [some (stV ns ms), some (.fl ((rks L ns.length).map AV.int)), some (.ref 0), some (.ref 1), some (.int k), some (.int p), some it1, some it2] [F, (endsL ns).map AV.int] := by
  subst e
  exact ⟨it2, [_, _, _, _, _, _, _], _, .inl ⟨rfl, rfl⟩, rfl, rfl, _, rfl, rfl⟩
theorem cxJ.turn0 {a4 a5 : Option AV} {it : AV} {F F' : List AV} (e : F = F') : TurnTo (fun loc H => ∃ a4 a5, cxJ ns ms L F' a4 a5 [] loc H) 6 it
    [some (stV ns ms), some (.fl ((rks L ns.length).map AV.int)), some (.ref 0), some (.ref 1), a4, a5, some it] [F, (endsL ns).map AV.int] := by
  subst e
  exact ⟨it, [_, _, _, _, _, _], _, .inl ⟨rfl, rfl⟩, rfl, rfl, _, _, rfl, rfl⟩
noncomputable def crA (ns L : List Int) (m : Nat) : List AV := acc (fun c => acc (crV ns L c) (cnt m c)) m
theorem Flts.cr {k m : Nat} : Flts (Mine.acc (fun c => Mine.acc (crV ns L c) (cnt m c)) k) := .acc (fun i => .acc (fun j => .iff1 (.inr ⟨_, _, _, flt_ok3, rfl⟩)) _) k
theorem crossed_ok {fe fb : Nat} (F : FnIs P f ps rest (cs_crossed_faults fe fb)) (hp : ps.length = 2) (hr : rest.length = 4) (hk : 2 < l.k) (hq : l.q = true) (hn : ns.length ≤ 30) (hl : ns.length = ms.length + 1)
    (he : CallJ P ⟨l.k - 1, l.q⟩ fe [stV ns ms] (fun v H => v = .ref 0 ∧ H = [(endsL ns).map AV.int]) X)
    (hb : ∀ c p : Nat, c + 1 < ns.length → p < ns.length → CallJ P ⟨l.k - 1, l.q⟩ fb [.fl ((rks L ns.length).map AV.int), .int c, .int p] (fun v H => v = .bool (btw L c p) ∧ H = []) X) :
    CallJ P l f [stV ns ms, .fl ((rks L ns.length).map AV.int)] (fun v H => v = .ref 0 ∧ H = [crA ns L ms.length]) X := by
  have hk' : 0 < l.k - 1 := Nat.sub_pos_of_lt (Nat.lt_of_succ_lt hk)
  have hs : ns.length ≤ smallN := Nat.le_trans hn (by decide)
  have hm30 : ms.length ≤ 30 := Nat.le_of_succ_le (Nat.le_trans (Nat.le_of_eq hl.symm) hn)
  have hsm : (ms.map AV.str).length ≤ smallN := mapS_le (Nat.le_trans hm30 (by decide))
  refine CallJ.ren (F.call (Nat.lt_of_succ_lt (Nat.lt_of_succ_lt hk)) (by simp [hp]) ?_)
  rw [hr]
  unfold cs_crossed_faults
  (refine wpSs_cons.mpr ?_; tm_at "wps")
  refine ⟨by decide, ?_⟩
  (refine wpSs_cons.mpr ?_; tm_at "wps")
  refine ⟨hk', call_ints (.cons rens2' .nil) he ?_⟩
  refine seqS (st_for0 (l := ⟨l.k - 1, l.q⟩) (N := (ms.map AV.str).length) (fun k loc H => ∃ a4 a5, cxJ ns ms L (acc (fun c => acc (crV ns L c) (cnt ms.length c)) k) a4 a5 [] loc H) hq (fun K h => ?_) hsm ⟨_, _, _, .inl ⟨rfl, rfl⟩, rfl, rfl, _, _, rfl, rfl⟩ ?_ ?_)
  · unfold stV
    tm_at "wps"
    exact ⟨hq, hq, hsm, ⟨by decide, lim_of hsm, by decide⟩, h⟩
  · rintro k loc H hk1 hl1 ⟨a4, a5, rfl, rfl⟩
    have hkm : k < ms.length := by rwa [List.length_map] at hk1
    have hA := accs_le (F := []) (a := 0) (g := fun c => acc (crV ns L c) (cnt ms.length c)) (Nat.le_refl 0) (fun i => Nat.le_trans (acc_len (fun j => iff1_len _ _) _) (Nat.le_trans (Nat.le_of_eq (Nat.mul_one _)) (Nat.le_trans cnt_le hm30))) (Nat.le_trans (Nat.le_of_lt hkm) hm30)
    have hk2 : k + 1 < ns.length := hl ▸ Nat.succ_lt_succ hkm
    refine seqS (st_for (l := ⟨l.k - 1, l.q⟩) (a := (k : Int) + 2) (b := ((ms.map AV.str).length : Nat)) (c := 2) (N := cnt ms.length k) (fun i loc H => ∃ a5, cxJ ns ms L (acc (fun c => acc (crV ns L c) (cnt ms.length c)) k ++ acc (crV ns L k) i) (some (.int k)) a5 [some (.rng 0 ((ms.map AV.str).length : Nat) 1)] loc H) hq (fun K h => ?_) (by unfold cnt; rw [List.length_map]) (Nat.le_trans cnt_le (Nat.le_trans hm30 (by decide))) ⟨_, _, _, .inl ⟨rfl, rfl⟩, rfl, rfl, _, rfl, by rw [show acc (crV ns L k) 0 = [] from rfl, List.append_nil]⟩ ?_ ?_)
    · unfold stV
      tm_at "wps"
      exact ⟨hq, hq, hsm, ⟨by omega, lim_of hsm, by decide⟩, h⟩
    · rintro i loc H hi1 hl2 ⟨a5, rfl, rfl⟩
      have hdm : k + 2 + i * 2 < ms.length := cnt_lt hi1
      have ev : crV ns L k i = iff1 (crF ns L k (k + 2 + i * 2)) (.tup [.str "crossed", .int k, .int ((k + 2 + i * 2 : Nat) : Int)]) := rfl
      rw [show (k : Int) + 2 + (i : Int) * 2 = ((k + 2 + i * 2 : Nat) : Int) from rfl]
      generalize k + 2 + i * 2 = d at hdm ev ⊢
      have hd2 : d + 1 < ns.length := hl ▸ Nat.succ_lt_succ hdm
      have els : crF ns L k d = false → acc (fun c => acc (crV ns L c) (cnt ms.length c)) k ++ acc (crV ns L k) i = acc (fun c => acc (crV ns L c) (cnt ms.length c)) k ++ acc (crV ns L k) (i + 1) := fun e => by rw [acc_succ, ev, e, app_nil']
      (refine wpSs_cons.mpr ?_; tm_at "wps")
      refine ⟨_, fun _ _ h => h, i_fn (g := fun i => plc ns (i + 1)) rfl hs rfl (Nat.lt_of_succ_lt hk2) (i_fn (g := fun i => plc ns (i + 1)) rfl hs rfl (Nat.lt_of_succ_lt hd2) ?_)⟩
      refine brk (fun h1 => ?_) fun h1 => Cut.here (cxJ.turn (els (by unfold crF; rw [decide_eq_false h1]; rfl)))
      (refine wpSs_cons.mpr ?_; tm_at "wps")
      refine ⟨_, fun _ _ h => h, hk', call_bool (.cons (.fl (Rens.ints _)) (.cons (.int _) (.cons (.int _) .nil))) (hb k d hk2 (Nat.lt_of_succ_lt hd2)) ⟨hk', call_bool (.cons (.fl (Rens.ints _)) (.cons (.int _) (.cons (.int _) .nil))) (hb k (d + 1) hk2 hd2) (cmp_bools ?_)⟩⟩
      cases h2 : (btw L k d != btw L k (d + 1)) with
      | false => exact Cut.here (Cut.here (cxJ.turn (els (by unfold crF; rw [h2, Bool.and_false]))))
      | true =>
        (refine wpSs_cons.mpr ?_; tm_at "wps")
        refine ⟨by decide, _, _, _, rfl, rfl, m_app (acc_small (Nat.le_trans hA (by decide)) (fun j => iff1_len _ _) (Nat.le_of_lt hi1) (Nat.le_trans cnt_le hm30)), (fun _ _ e => nomatch e), ?_⟩
        exact Cut.here (Cut.here (cxJ.turn (by rw [acc_succ, ev, show crF ns L k d = true by unfold crF; rw [h2, decide_eq_true h1]; rfl, ← List.append_assoc]; rfl)))
    · rintro loc H ⟨a5, rfl, rfl⟩
      exact cxJ.turn0 (by rw [acc_succ])
  · rintro loc H ⟨a4, a5, rfl, rfl⟩
    rw [List.length_map]
    exact ⟨[0], _, _, RenH.one rfl Flts.cr.rens, .ref rfl, rfl, rfl⟩
end

open PySem PyProof.Rows PySem.SeqAt

noncomputable def fltD : AV → PyData
  | .tup [.str s, .int a] => .tuple [.str s, .int a]
  | .tup [.str s, .int a, .int b] => .tuple [.str s, .int a, .int b]
  | _ => .none
theorem FltV.eqv {v : AV} (h : FltV v) : (fltD v).eqv (fltD v) = true := by
  rcases h with ⟨s, a, hs, rfl⟩ | ⟨s, a, b, hs, rfl⟩ <;> simp [fltD, PyData.eqv, PyData.eqvAll]
theorem Flts.eqvA : ∀ {F : List AV}, Flts F → PyData.eqvAll (F.map fltD) (F.map fltD) = true
  | [], _ => rfl
  | v :: r, h => by
    rw [List.map_cons]
    unfold PyData.eqvAll
    rw [(h v (.head _)).eqv, Flts.eqvA fun w hw => h w (.tail _ hw)]; rfl
theorem Flts.eqv {F : List AV} (h : Flts F) : (PyData.list (F.map fltD)).eqv (PyData.list (F.map fltD)) = true := by
  unfold PyData.eqv; exact h.eqvA
/-- all faults of an order -/
noncomputable def ftA (ns : List Int) (ms : List Str) (L : List Int) : List AV := acc (mkV L ms) ms.length ++ acc (fun c => acc (thV ns L c) ns.length) ms.length ++ crA ns L ms.length
theorem ftA_flts {ns : List Int} {ms : List Str} {L : List Int} : Flts (ftA ns ms L) := ((Flts.mk _).app (Flts.th _)).app Flts.cr
theorem ftA_len {ns : List Int} {ms : List Str} {L : List Int} (hn : ns.length ≤ 30) (hl : ns.length = ms.length + 1) : (acc (mkV L ms) ms.length).length ≤ 30 ∧ (acc (fun c => acc (thV ns L c) ns.length) ms.length).length ≤ 900 ∧ (crA ns L ms.length).length ≤ 900 := by
  have h1 := acc_len (g := mkV L ms) (m := 1) (fun i => iff1_len _ _) ms.length
  have h2 := acc_len (g := fun c => acc (thV ns L c) ns.length) (m := 30) (fun i => Nat.le_trans (acc_len (fun j => iff1_len _ _) _) (by omega)) ms.length
  have h3 := acc_len (g := fun c => acc (crV ns L c) (cnt ms.length c)) (m := 30) (fun i => Nat.le_trans (acc_len (fun j => iff1_len _ _) _) (by have := cnt_le (m := ms.length) (c := i); omega)) ms.length
  exact ⟨by omega, by omega, by unfold crA; omega⟩
section
variable {P : PC} {l : Lv} {f : Nat} {ps rest : List Str} {X : Str → Prop} {ns : List Int} {ms : List Str} {L : List Int} {n : Nat}
theorem stV_ren {φ : List Nat} {H : AH} : Ren φ H (stV ns ms) (stV ns ms) := rens2'
theorem faults_ok {fn fh fm ft fx : Nat} (F : FnIs P f ps rest (cs_faults fn fh fm ft fx)) (hp : ps.length = 2) (hr : rest.length = 1) (hk : 1 < l.k) (hn : ns.length ≤ 30) (hl : ns.length = ms.length + 1)
    (hno : CallJ P ⟨l.k - 1, l.q⟩ fn [stV ns ms, .fl (L.map AV.int)] (fun v H => v = .bool true ∧ H = []) X)
    (hh : CallJ P ⟨l.k - 1, l.q⟩ fh [.fl (L.map AV.int)] (fun v H => v = .ref 0 ∧ H = [(rks L ns.length).map AV.int]) X)
    (hm : CallJ P ⟨l.k - 1, l.q⟩ fm [stV ns ms, .fl ((rks L ns.length).map AV.int)] (fun v H => v = .ref 0 ∧ H = [acc (mkV L ms) ms.length]) X)
    (ht : CallJ P ⟨l.k - 1, l.q⟩ ft [stV ns ms, .fl ((rks L ns.length).map AV.int)] (fun v H => v = .ref 0 ∧ H = [acc (fun c => acc (thV ns L c) ns.length) ms.length]) X)
    (hx : CallJ P ⟨l.k - 1, l.q⟩ fx [stV ns ms, .fl ((rks L ns.length).map AV.int)] (fun v H => v = .ref 0 ∧ H = [crA ns L ms.length]) X) :
    CallJ P l f [stV ns ms, .fl (L.map AV.int)] (fun v H => v = .ref 0 ∧ H = [ftA ns ms L]) X := by
  have hk' : 0 < l.k - 1 := Nat.sub_pos_of_lt hk
  obtain ⟨g1, g2, g3⟩ := ftA_len (L := L) hn hl
  refine CallJ.ren (F.call (Nat.lt_of_succ_lt hk) (by simp [hp]) ?_)
  rw [hr]
  unfold cs_faults
  (refine wpSs_cons.mpr ?_; tm_at "wps")
  refine ⟨hk', call_bool (.cons stV_ren (.cons (.fl (Rens.ints _)) .nil)) hno ?_⟩
  (refine wpSs_cons.mpr ?_; tm_at "wps")
  refine ⟨hk', call_ints (.cons (.fl (Rens.ints _)) .nil) hh ?_⟩
  (refine wpSs_cons.mpr ?_; tm_at "wps")
  refine ⟨hk', call_lst (Flts.mk _).shifts (Flts.mk _).nofls (.cons stV_ren (.cons (.frz (by simp) rfl (Rens.ints _)) .nil)) hm ⟨hk', call_lst (Flts.th _).shifts (Flts.th _).nofls (.cons stV_ren (.cons (.frz (by simp) rfl (Rens.ints _)) .nil)) ht ?_⟩⟩
  tm_at "wps"
  refine ⟨Nat.le_trans (Nat.add_le_add g1 g2) (by decide), hk', call_lst Flts.cr.shifts Flts.cr.nofls (.cons stV_ren (.cons (.frz (by simp) rfl (Rens.ints _)) .nil)) hx ?_⟩
  tm_at "wps"
  refine ⟨Nat.le_trans (Nat.add_le_add (Nat.le_trans (Nat.le_of_eq (List.length_append)) (Nat.add_le_add g1 g2)) g3) (by decide), ?_⟩
  exact ⟨[5], _, _, RenH.one rfl ftA_flts.rens, .ref rfl, rfl, rfl⟩
end

open PySem PyProof.Rows PySem.SeqAt

theorem execs_app0 {M : Model} {Γ : Ctx} {env : Env} (b : List PySem.Stmt) {Q : Flow → Pos → Shared → Prop} {E : Value → Pos → Shared → Prop} : ∀ (a : List PySem.Stmt) {p : Pos} {s : Shared},
    Sem.wp M Γ (execs a env) (fun f p' s₁ => match f with | .next => Sem.wp M Γ (execs b env) Q E p' s₁ | f => Q f p' s₁) E p s → Sem.wp M Γ (execs (a ++ b) env) Q E p s
  | [], _, _, h => h
  | st :: a, p, s, h => by
    show Sem.wp M Γ (execs (st :: (a ++ b)) env) Q E p s
    rw [execs_cons, Sem.wp_bind'] at h ⊢
    refine Sem.wp_mono M Γ _ (fun f p' s' h' => ?_) (fun _ _ _ h' => h') _ _ h
    cases f with
    | next => exact execs_app0 b a h'
    | _ => exact h'
/-- a block in two parts -/
theorem execs_app {M : Model} {A : Around} {env : Env} {E : Value → Shared → Prop} {Q : Flow → Shared → Prop} {s : Shared} {a b : List PySem.Stmt}
    (h : wpAny M A (execs a env) (fun f s₁ => match f with | .next => wpAny M A (execs b env) Q E s₁ | f => Q f s₁) E s) : wpAny M A (execs (a ++ b) env) Q E s := fun Γ p hΓ =>
  execs_app0 b a (Sem.wp_mono M Γ _ (fun f p' s' h' => by
    cases f with
    | next => exact h' Γ p' hΓ
    | _ => exact h') (fun _ _ _ h' => h') _ _ (h Γ p hΓ))

/-- a call that raises -/
noncomputable def CallX (P : PC) (l : Lv) (f : Nat) (vs : List AV) (K : Addr) : Prop :=
  ∀ (A : Around) (s : Shared) (S : Sx) (xs : List Value) (x : Str) (a : Addr) (base : Heap) (outer : List Env), Aok l A → GOk P s.heap → P.nt.fns[f]? = some x → P.mg x = some (.ref a) → S.prog = P.prog → S.w = P.w → SD S s.heap → VRels S [] s.heap vs xs →
    A.frames = some outer → base.StaysIn s.heap → s.heap.FunFrames base outer →
    codeAny (model P.prog P.w) A (.call (.ref a) ⟨xs, []⟩) (fun r s' => ∃ e t h' tk, r = .error (.ref e) ∧ s' = { s with heap := h', toks := tk } ∧ Heap.FlyingW base outer e (.ref K) (.ref t) h' ∧ s.heap.UpToSlots h') s

section
variable {P : PC} {l : Lv} {A : Around} {env : Env} {names : List Str} {S : Sx} {ρ : List Addr} {loc : List (Option AV)} {H : AH} {s : Shared} {E : Value → Shared → Prop}

theorem raise_ok (ho : EnvOk env) (C : Cx P l A env names S ρ loc H s) (hh : A.handled = none) {c m : Str} (hg : isGlob env.kindOf c = true) {K Z : Addr} (hc : P.mg c = some (.ref K)) (X : XCls s.heap K Z) {np cp rp kp : Pos} {kk : Nat} {Q : Flow → Shared → Prop}
    (h : ∀ h1 tk h' e vs, Kp s.heap h1 → Heap.MadeExcOf h1 h' e (.ref K) vs → E (.ref e) { s with heap := h', toks := tk }) :
    wpAny (model P.prog P.w) A (exec (.Raise (some (.Call (.Name c np) [.Constant (.str m) kk kp] [] cp)) none rp) env) Q E s := by
  unfold isGlob at hg
  simp at hg
  have hd : (c == ("__debug__" : Str)) = false := by simpa using hg.2
  obtain ⟨_, N, mN, h1, ⟨nm, q, bs, hdct, sn, sub, ab, col, dd, k0, k1, k2, k3, k5, rfl⟩, h2, h3⟩ := X.obj
  refine wpAny_Raise_call_subU (C := K) (nm := nm) (q := q) (N := N) (bs := bs) (bm := .ref Z :: veMro) (hdct := hdct) (sn := sn) (sub := sub) (ab := ab) (col := col) (dd := dd) (k0 := k0) (k1 := k1) (k2 := k2) (k3 := k3) (k5 := k5) (mN := mN) (bmB := veMro)
    F.excBase_ValueError rfl F.excBase_ValueError rfl hh rfl (h3 _ (.tail _ (.head _))) (Calls.Name_function_global ho.1 hg.1 (Calls.loadGlobal_global (by rw [ho.2.1]; exact C.gok.g) hc ⟨rfl, ?_⟩) hd)
  have hargs := args_ok (X := fun _ => False) (E := E) (pos := cp) (fun e c h => (expr_ok (l := l) (rfl : P.nt = P.nt) 1 env names ho e c h).1) [.Constant (.str m) kk kp] [.const (.str m)] rfl (Q := fun vs _ => vs = [.str m]) C exOk_any rfl
  refine Calls.evalArgs_plain (wpAny_mono hargs (fun vs s₂ hv => ?_) fun _ _ y => y)
  obtain ⟨h1', tk, e, vs', G, rfl, k, f, X', V, q⟩ := hv
  have hl := V.length
  rw [q] at hl
  exact ⟨rfl, (by show vs.length ≤ sizeLine; rw [← hl]; exact (by decide : 1 ≤ sizeLine)), k _ _ h1, h2.keeps k, (X.keeps k).tail.tail, fun h' e hm => h _ _ _ _ _ k hm⟩
end

/-- a def whose block comes to a raise behind an if -/
theorem CallX.of_raise {P : PC} {l : Lv} {f : Nat} {x : Str} {d : DefRec} {ps rest : List Str} {n : Nat} {vs : List AV} {pre post els : List PySem.Stmt} {test : PySem.Expr} {c m : Str} {np cp rp kp ip : Pos} {kk : Nat} {cpre : List CS} {ct : CE} {K : Addr}
    (hf : P.nt.fns[f]? = some x) (hd : P.defs[f]? = some d) (hk : 0 < l.k)
    (hb : ∀ xs pm code doc, xs.length = ps.length → bindArgs (Calls.docDef d.name d.params d.body d.scope pm code doc) ⟨xs, []⟩ = pure (ps.zip xs))
    (hs : defOk d.scope ps rest = true) (hl : vs.length = ps.length) (hq : l.q = true)
    (hbody : d.body = pre ++ .If test [.Raise (some (.Call (.Name c np) [.Constant (.str m) kk kp] [] cp)) none rp] els ip :: post)
    (hcp : allSome (pre.map (compS P.nt n (fun x => d.scope.names.lookup x) (ps ++ rest))) = some cpre) (hct : compE P.nt n (fun x => d.scope.names.lookup x) (ps ++ rest) test = some ct)
    (hg : isGlob (fun x => d.scope.names.lookup x) c = true) (ho : P.own c K = some true) (hm : P.mg c = some (.ref K))
    (hw : wpSs P ⟨l.k - 1, l.q⟩ cpre (vs.map some ++ List.replicate rest.length none) [] (fun loc H => wpE P ⟨l.k - 1, l.q⟩ (fun _ => False) ct loc H (isB fun b _ => b = true)) (fun _ _ => False) (fun _ _ _ => False)) : CallX P l f vs K := by
  intro A s S xs x' a base outer hA hG hx ha hpp hpw hsd V hfr hst hff
  refine enter_ok hf hd hk hb hs hl hA hG hx ha hpp hpw hsd V fun env s₁ S' efr ekd hEok hsub hp' hw' F => ?_
  rw [hbody]
  have hcp' : allSome (pre.map (compS P.nt n env.kindOf (ps ++ rest))) = some cpre := by rw [ekd]; exact hcp
  have hct' : compE P.nt n env.kindOf (ps ++ rest) test = some ct := by rw [ekd]; exact hct
  refine execs_app (wpAny_mono (body_ok (P := P) (l := ⟨l.k - 1, l.q⟩) rfl hEok hcp' (A.deeper env) S s [] S' [] _ [] s₁ _ _ _ _ F xOk_any hw) (fun fl s' hfl => ?_) fun _ _ y => y)
  cases fl with
  | ret rv => obtain ⟨_, _, _, _, _, _, _, q⟩ := hfl; exact q.elim
  | brk => exact hfl.elim
  | cont => exact hfl.elim
  | next =>
  obtain ⟨ρ2, loc2, H2, m2, F2, q2⟩ := hfl
  refine wpAny_execs_cons (wpAny_If (wpAny_mono ((expr_ok (l := ⟨l.k - 1, l.q⟩) (rfl : P.nt = P.nt) n env (ps ++ rest) hEok test ct hct').2 (A.deeper env) S' ρ2 loc2 H2 s' _ _ _ F2.cx exOk_any q2) (fun t s₃ hx => ?_) fun _ _ y => y))
  obtain ⟨h3, tk3, n3, G3, rfl, k3, f3, X3, q3⟩ := hx
  have q3' : t = true := q3
  subst q3'
  have F3 := F2.kp (tk := tk3) k3 f3 X3
  obtain ⟨XC, _⟩ := F3.cx.gok.ow c K true ho
  refine wpAny_execs_cons (raise_ok hEok F3.cx (F3.aok.1 hq) (by rw [ekd]; exact hg) hm XC fun h1 tk h' e vs k1 hmade => ?_)
  obtain ⟨m, cm, I, _⟩ := F3.ic
  have hn : env.scope.kind ≠ .module := by rw [hEok.1]; decide
  have hLn : s.heap.get? env.locals = none := Heap.get?_none_of_le I.toInCall.fresh
  have keep : Kp s.heap h1 := fun b o e => k1 b o (I.toInCall.keep b o e)
  have hLb : base.get? env.locals = none := by
    cases q : base.get? env.locals with
    | none => rfl
    | some o => have := hst _ _ q; rw [hLn] at this; cases this
  have hff' : h1.FunFrames base (env :: outer) := .cons hn efr (I.toInCall.ns.keeps k1) hLb (hff.of_keeps fun b o e _ => ⟨o, keep b o e, rfl⟩)
  obtain ⟨_, _, I2, _⟩ := F2.ic
  obtain ⟨hs', tks', es'⟩ := I2.toInCall.same
  refine wpAny_leaves_madeW (Around.frames_deeper hfr) efr (fun b o e => keep b o (hst b o e)) hff' hmade fun h' t x1 _ _ x4 => ?_
  refine ⟨e, t, h', tk, rfl, ?_, x1, (Heap.UpToSlots.of_keeps fun b o q => hmade.keeps b o (keep b o q)).trans x4⟩
  rw [es']

open PySem PyProof.Rows PySem.SeqAt

/-- all but L is kept, up to a frame's own notes -/
noncomputable def UpBut (L : Addr) (h h' : Heap) : Prop := ∀ b o, b ≠ L → h.get? b = some o → (∀ vs, o.data ≠ .fields vs) → ∃ sl, h'.get? b = some { o with slots := sl }

/-- a try whose block raises, and whose clause takes it by the class above -/
theorem try_ok {P : PC} {A : Around} {env : Env} {s : Shared} {base : Heap} {outer : List Env} {K : Addr} {z n : Str} {zp hp tp : Pos} {body suite : List PySem.Stmt} {b₀ : PySem.Stmt} {m₀ : Str → Option Value} {Q : Flow → Shared → Prop} {E : Value → Shared → Prop}
    (ho : EnvOk env) (efr : env.frame = some env.locals) (hfr : A.frames = some (env :: outer)) (hg : isGlob env.kindOf z = true) (hz : P.mg z = some (.ref P.sup)) (hn : env.kindOf n = some .local) (hG : GOk P base) (XC : XCls base K P.sup) (hns : s.heap.Ns env.locals m₀)
    (hbody : wpAny (model P.prog P.w) A (execs body env) (fun _ _ => False) (fun e s' => ∃ e' t h' tk, e = .ref e' ∧ s' = { s with heap := h', toks := tk } ∧ Heap.FlyingW base (env :: outer) e' (.ref K) (.ref t) h' ∧ s.heap.UpToSlots h') s)
    (hsuite : ∀ e h' tk, base.StaysIn h' → XI h' e K → h'.Ns env.locals (fun x => if x = n then some (.ref e) else m₀ x) →
      wpAny (model P.prog P.w) (A.mark (some (.ref e))) (execs (b₀ :: suite) env) (fun f s' => ∃ h2 tk2, s' = { s with heap := h2, toks := tk2 } ∧ Kp h' h2 ∧ ∀ h3 tk3, base.StaysIn h3 → UpBut env.locals s.heap h3 → Q f { s with heap := h3, toks := tk3 }) (fun _ _ => False) { s with heap := h', toks := tk }) :
    wpAny (model P.prog P.w) A (exec (.Try body [.ExceptHandler (some (.Name z zp)) (some n) (b₀ :: suite) hp] [] [] tp) env) Q E s := by
  refine wpAny_Try_except (wpAny_mono hbody (fun _ _ y => y.elim) fun e s' hE => ?_)
  obtain ⟨e, t, h', tk, rfl, rfl, hfl, hup⟩ := hE
  refine wpAny_looks_onW hfr efr hfl fun h₄ hheld₄ hsm₄ => ?_
  refine wpAny_landsW hheld₄ fun h₅ hfl₅ hsm₅ => ?_
  have up5 := (hup.trans hsm₄).trans hsm₅
  obtain ⟨oe, hoe, hoc⟩ := hfl₅.there
  unfold isGlob at hg
  simp at hg
  have hd : (z == ("__debug__" : Str)) = false := by simpa using hg.2
  have hsc : (env.scope.kind == .class || (env.scope.kind == .module && env.locals != env.globals)) = false := by rw [ho.1]; rfl
  refine wpAny_handleBy_cons (codeAny_handlers_test (Calls.Name_function_global ho.1 hg.1 (Calls.loadGlobal_global (by rw [ho.2.1]; exact hG.g.keeps hfl₅.1) hz ?_) hd)) (by intro q; cases q)
  refine matches_x (XC.keeps hfl₅.1) hoe hoc (codeAny_handlers_suite_as ?_)
  refine lands_againW hfl₅ fun h₆ hfl₆ hsm₆ => ?_
  have up6 := up5.trans hsm₆
  obtain ⟨oe', hoe', hoc'⟩ := hfl₆.there
  have hLb : base.get? env.locals = none := by
    obtain ⟨_, ⟨L, _, hf, hn', _⟩, _⟩ := hfl₆.2.2.1
    rw [efr] at hf; cases hf; exact hn'
  have hne : ∀ b o, base.get? b = some o → b ≠ env.locals := fun b o q e => by rw [e, hLb] at q; cases q
  refine wpAny_storeName_local hn (up6.ns hns) (fun h₇ hn₇ hs₇ => ?_) hsc
  have heL : e ≠ env.locals := fun q => by
    obtain ⟨o, es, ep, ho', hd', _⟩ := up6.ns hns
    obtain ⟨oe2, ws, g1, _, g2, _⟩ := hfl₆.first
    rw [q, ho'] at g1; cases g1
    rw [hd'] at g2; cases g2
  refine wpAny_mono (hsuite e h₇ _ (fun b o q => hs₇.extBut b o (hne b o q) (hfl₆.1 b o q)) ⟨oe', hs₇.extBut e _ heL hoe', hoc'⟩ hn₇) (fun f s₃ hs => ?_) fun _ _ y => y.elim
  obtain ⟨h2, tk2, rfl, k, hQ⟩ := hs
  refine wpAny_nameGoes hn (hn₇.keeps k) hsc fun h₈ m₈ hn₈ hs₈ => hQ h₈ _ (fun b o q => hs₈.extBut b o (hne b o q) (k b o (hs₇.extBut b o (hne b o q) (hfl₆.1 b o q)))) fun b o hb q hnf => ?_
  obtain ⟨sl, q6⟩ := up6 b o q hnf
  exact ⟨sl, hs₈.extBut b _ hb (k b _ (hs₇.extBut b _ hb q6))⟩

/-- a block that raises -/
noncomputable def RaisesX (P : PC) (l : Lv) (K : Addr) (kd : Str → Option NameKind) (names : List Str) (b : List PySem.Stmt) (loc : Loc) : Prop :=
  ∀ (A : Around) (env : Env) (S : Sx) (s : Shared) (base : Heap) (outer : List Env), Cx P l A env names S [] loc [] s → EnvOk env → env.kindOf = kd → A.frames = some (env :: outer) → base.StaysIn s.heap → s.heap.FunFrames base (env :: outer) →
    wpAny (model P.prog P.w) A (execs b env) (fun _ _ => False) (fun e s' => ∃ e' t h' tk, e = .ref e' ∧ s' = { s with heap := h', toks := tk } ∧ Heap.FlyingW base (env :: outer) e' (.ref K) (.ref t) h' ∧ s.heap.UpToSlots h') s

theorem RaisesX.call {P : PC} {l : Lv} {K : Addr} {kd : Str → Option NameKind} {names : List Str} {g : Str} {gi n : Nat} {gp cp ep : Pos} {a0 : PySem.Expr} {args : List PySem.Expr} {c0 : CE} {cs : List CE} {loc : Loc} {rest : List PySem.Stmt}
    (hg : isGlob kd g = true) (hgi : P.nt.fns[gi]? = some g) (he : allSome ((a0 :: args).map (compE P.nt n kd names)) = some (c0 :: cs))
    (hw : wpEs P l (fun _ => False) (c0 :: cs) loc [] fun vs H => ∃ vs', Rens [] H vs vs' ∧ CallX P l gi vs' K) : RaisesX P l K kd names (.Expr (.Call (.Name g gp) (a0 :: args) [] cp) ep :: rest) loc := by
  intro A env S s base outer C ho ekd hfr hst hff
  subst ekd
  obtain ⟨a, o, ea, eo, fd, efd⟩ := C.gok.fn gi g hgi
  unfold isGlob at hg
  simp at hg
  have hd : (g == ("__debug__" : Str)) = false := by simpa using hg.2
  obtain ⟨c1, t1, e1, e2, e3⟩ := allSome_cons he
  refine wpAny_execs_cons (wpAny_Expr_any (Call_ (Calls.Name_function_global ho.1 hg.1 (Calls.loadGlobal_global (by rw [ho.2.1]; exact C.gok.g) ea ?_) hd)) (by unfold interactive; rw [ho.1]; rfl) (swaps_false rfl))
  refine callWith_def efd (wpAny_mono (args_ok (X := fun _ => False) (fun e c h => (expr_ok (l := l) (rfl : P.nt = P.nt) n env names ho e c h).1) (a0 :: args) (c0 :: cs) he C exOk_any hw) (fun xs s₁ hx1 => ?_) fun _ _ y => y) (not_starred e1 args)
  obtain ⟨h1, tk1, n1, vs, G1, rfl, k1, f1, X1, V1, vs', R, hX⟩ := hx1
  have C1 := C.kp (tk := tk1) k1 f1 X1
  refine ⟨k1 _ _ eo, wpAny_call (codeAny_mono (hX A { s with heap := h1, toks := tk1 } S xs g a base (env :: outer) C1.aok C1.gok hgi ea C1.pp C1.pw C1.sd (V1.frz X1 R) hfr (fun b o q => k1 b o (hst b o q)) (hff.of_keeps fun b o q _ => ⟨o, k1 b o q, rfl⟩)) fun r s' hr => ?_)⟩
  obtain ⟨e, t, h', tk, rfl, rfl, hfl, hup⟩ := hr
  exact ⟨e, t, h', tk, rfl, rfl, hfl, (Heap.UpToSlots.of_keeps k1).trans hup⟩

/-- a call that gives a truth, and may note something in the frames -/
noncomputable def CallS (P : PC) (l : Lv) (f : Nat) (vs : List AV) (b : Bool) : Prop :=
  ∀ (A : Around) (s : Shared) (S : Sx) (xs : List Value) (x : Str) (a : Addr) (base : Heap) (outer : List Env), Aok l A → GOk P base → P.nt.fns[f]? = some x → P.mg x = some (.ref a) → S.prog = P.prog → S.w = P.w → SD S s.heap → VRels S [] s.heap vs xs →
    A.frames = some outer → base.StaysIn s.heap → s.heap.FunFrames base outer →
    codeAny (model P.prog P.w) A (.call (.ref a) ⟨xs, []⟩) (fun r s' => ∃ h' tk, r = .ok (.ret (.bool b)) ∧ s' = { s with heap := h', toks := tk } ∧ base.StaysIn h' ∧ s.heap.UpToSlots h') s

theorem CallS.of_try {P : PC} {l : Lv} {f : Nat} {x : Str} {d : DefRec} {ps rest : List Str} {n : Nat} {vs : List AV} {tb post : List PySem.Stmt} {z nm : Str} {zp hp tp rp : Pos} {re : PySem.Expr} {cre : CE} {K : Addr} {b : Bool} {t0 : Str}
    (hf : P.nt.fns[f]? = some x) (hd : P.defs[f]? = some d) (hk : 0 < l.k)
    (hb : ∀ xs pm code doc, xs.length = ps.length → bindArgs (Calls.docDef d.name d.params d.body d.scope pm code doc) ⟨xs, []⟩ = pure (ps.zip xs))
    (hs : defOk d.scope ps rest = true) (hl : vs.length = ps.length)
    (hbody : d.body = .Try tb [.ExceptHandler (some (.Name z zp)) (some nm) [.Return (some re) rp] hp] [] [] tp :: post)
    (hg : isGlob (fun x => d.scope.names.lookup x) z = true) (hz : P.mg z = some (.ref P.sup)) (hn : d.scope.names.lookup nm = some .local) (ho : P.own t0 K = some true)
    (htb : RaisesX P ⟨l.k - 1, l.q⟩ K (fun x => d.scope.names.lookup x) (ps ++ rest) tb (vs.map some ++ List.replicate rest.length none))
    (hcr : compE P.nt n (fun x => d.scope.names.lookup x) [nm] re = some cre)
    (hwr : wpE P ⟨l.k - 1, false⟩ (fun _ => False) cre [some (.exc K)] [] fun v _ => v = .bool b) : CallS P l f vs b := by
  intro A s S xs x' a base outer hA hG hx ha hpp hpw hsd V hfr hst hff
  refine enter_ok hf hd hk hb hs hl hA (hG.kp hst) hx ha hpp hpw hsd V fun env s₁ S' efr ekd hEok hsub hp' hw' F => ?_
  rw [hbody]
  obtain ⟨m, cm, I, _⟩ := F.ic
  have I' := I.toInCall
  have hnk : env.scope.kind ≠ .module := by rw [hEok.1]; decide
  have hLn : s.heap.get? env.locals = none := Heap.get?_none_of_le I'.fresh
  have hLb : base.get? env.locals = none := by
    cases q : base.get? env.locals with
    | none => rfl
    | some o => have := hst _ _ q; rw [hLn] at this; cases this
  obtain ⟨hs1, tk1, es1⟩ := I'.same
  refine wpAny_execs_cons (try_ok hEok efr (Around.frames_deeper hfr) (by rw [ekd]; exact hg) hz (by rw [ekd]; exact hn) hG (hG.ow t0 K true ho).1 I'.ns
    (htb (A.deeper env) env S' s₁ base outer F.cx hEok ekd (Around.frames_deeper hfr) (fun b o q => I'.keep b o (hst b o q)) (.cons hnk efr I'.ns hLb (hff.of_keeps fun b o q _ => ⟨o, I'.keep b o q, rfl⟩)))
    fun e h' tk hbs hxi hns => ?_)
  have C : Cx P ⟨l.k - 1, false⟩ ((A.deeper env).mark (some (.ref e))) env [nm] ⟨[], P.prog, P.w⟩ [] [some (.exc K)] [] { s₁ with heap := h', toks := tk } := {
    aok := ⟨(fun q => nomatch q), F.aok.2.1, F.aok.2.2⟩
    gok := hG.kp hbs, pp := rfl, pw := rfl
    sd := fun _ hm => nomatch hm
    sim := ⟨rfl, List.nodup_nil, (fun _ hm => nomatch hm), fun i vs e => by simp at e⟩
    loc := fun i y v ey ev => by
      cases i with
      | zero =>
        cases ey; cases ev
        exact ⟨.ref e, .inl ⟨by rw [ekd]; exact hn, _, hns, by simp⟩, .exc (fun hm => nomatch hm) (fun hm => nomatch hm) hxi⟩
      | succ i => simp at ey }
  refine wpAny_execs_cons (wpAny_Return_some (wpAny_mono ((expr_ok (l := ⟨l.k - 1, false⟩) (rfl : P.nt = P.nt) n env [nm] hEok re cre (by rw [ekd]; exact hcr)).1 _ _ [] _ [] _ _ _ _ C exOk_any hwr) (fun v s₂ hv => ?_) fun _ _ y => y))
  obtain ⟨h2, tk2, e2, av, G2, rfl, k2, f2, X2, V2, rfl⟩ := hv
  cases V2
  refine ⟨h2, tk2, rfl, k2, fun h3 tk3 hb3 hu3 => ?_⟩
  refine ⟨h3, tk3, rfl, by rw [es1], hb3, fun c o q hnf => hu3 c o (fun q' => ?_) (I'.keep c o q) hnf⟩
  rw [q', hLn] at q; cases q

open PySem PyProof.Rows PySem.SeqAt PySem.W

section
variable {K : FC} {ρ : List Addr} {loc : Loc} {H : AH} {s : Shared} {h' : Heap} {tk : Nat} {E : Value → Shared → Prop}

/-- a note in the frame's own object -/
theorem Fr.noted (F : Fr K ρ loc H s) (hk : ∀ b o, b ≠ K.env.locals → s.heap.get? b = some o → h'.get? b = some o) (hu : s.heap.UpToSlots h') : Fr K ρ loc H { s with heap := h', toks := tk } := by
  obtain ⟨m, cm, I, q⟩ := F.ic
  have hk' : ∀ c o, c ∉ K.S.ad → s.heap.get? c = some o → h'.get? c = some o := fun c o hc e => hk c o (fun q => hc (q ▸ F.hL)) e
  have hns := hu.ns I.toInCall.ns
  exact { aok := F.aok, eok := F.eok, nd := F.nd, g0 := F.g0, pp := F.pp, pw := F.pw
          sd := fun a ha => by
            by_cases hab : a = K.env.locals
            · subst hab; obtain ⟨o, _, _, ho, _⟩ := hns; exact ⟨o, ho⟩
            · obtain ⟨o, ho⟩ := F.sd a ha; exact ⟨o, hk a o hab ho⟩
          sim := F.sim.chg hk'
          fr := F.fr, sub := F.sub, hL := F.hL, hC := F.hC, len := F.len
          ic := ⟨m, cm, ⟨⟨let ⟨_, _, e⟩ := I.toInCall.same; ⟨h', tk, by rw [e]⟩, hns, fun b o e => hk b o (Nat.ne_of_lt (Nat.lt_of_lt_of_le (Heap.lt_size e) I.toInCall.fresh)) (I.toInCall.keep b o e), I.toInCall.fresh⟩,
            fun n c hc => let ⟨o, ho, r⟩ := I.cell n c hc; ⟨o, hk c o (Nat.ne_of_gt (I.above n c (mem_of_lookup hc))) ho, r⟩, I.apart, I.above⟩, fun i x v e1 e2 => let ⟨rv, h1, h2⟩ := q i x v e1 e2; ⟨rv, h1, h2.chg hk'⟩⟩
          hh := fun i rv v e1 e2 => (F.hh i rv v e1 e2).chg hk' }

/-- a call that notes something, in the outermost def -/
theorem callS_evK {g : Str} {gi n : Nat} {gp cp : Pos} {a0 : PySem.Expr} {args : List PySem.Expr} {c0 : CE} {cs : List CE} {b : Bool} {R : AH → Prop} {Q : Value → Shared → Prop} (F : Fr K ρ loc H s) (hA : K.A.frames = some [K.env]) (efr : K.env.frame = some K.env.locals)
    (hg : isGlob K.env.kindOf g = true) (hgi : K.P.nt.fns[gi]? = some g) (he : allSome ((a0 :: args).map (compE K.P.nt n K.env.kindOf K.names)) = some (c0 :: cs))
    (hw : wpEs K.P K.l (fun _ => False) (c0 :: cs) loc H fun vs H' => ∃ vs', Rens [] H' vs vs' ∧ CallS K.P K.l gi vs' b ∧ R H')
    (hQ : ∀ ρ' H' s', Fr K ρ' loc H' s' → R H' → (∀ b o, b ≠ K.env.locals → s.heap.get? b = some o → s'.heap.get? b = some o) → Q (.bool b) s') : wpAny (model K.P.prog K.P.w) K.A (eval (.Call (.Name g gp) (a0 :: args) [] cp) K.env) Q E s := by
  have C := F.cx
  have ho := F.eok
  obtain ⟨a, o, ea, eo, fd, efd⟩ := C.gok.fn gi g hgi
  unfold isGlob at hg
  simp at hg
  have hd : (g == ("__debug__" : Str)) = false := by simpa using hg.2
  obtain ⟨c1, t1, e1, e2, e3⟩ := allSome_cons he
  refine Call_ (Calls.Name_function_global ho.1 hg.1 (Calls.loadGlobal_global (by rw [ho.2.1]; exact C.gok.g) ea ?_) hd)
  refine callWith_def efd (wpAny_mono (args_ok (X := fun _ => False) (fun e c h => (expr_ok (l := K.l) (rfl : K.P.nt = K.P.nt) n K.env K.names ho e c h).1) (a0 :: args) (c0 :: cs) he C exOk_any hw) (fun xs s₁ hx1 => ?_) fun _ _ y => y) (not_starred e1 args)
  obtain ⟨h1, tk1, n1, vs, G1, rfl, k1, f1, X1, V1, vs', Rn, hS, hR⟩ := hx1
  have F1 := F.kp (tk := tk1) k1 f1 X1
  have C1 := F1.cx
  obtain ⟨m, cm, I, _⟩ := F1.ic
  have hb : (hideAll h1 [K.env.locals]).StaysIn h1 := fun b o q => of_hideAll _ q
  have hnk : K.env.scope.kind ≠ .module := by rw [ho.1]; decide
  have hg0 : GOk K.P (hideAll h1 [K.env.locals]) := F1.g0.kp fun b o q => hideAll_get _ (F1.keep b o q) fun hm => by
    rw [List.mem_singleton] at hm
    exact Nat.ne_of_lt (Nat.lt_of_lt_of_le (Heap.lt_size q) I.toInCall.fresh) hm
  refine ⟨k1 _ _ eo, wpAny_call (codeAny_mono (hS K.A { s with heap := h1, toks := tk1 } K.S xs g a _ [K.env] C1.aok hg0 hgi ea C1.pp C1.pw C1.sd (V1.frz X1 Rn) hA hb (.cons hnk efr I.toInCall.ns (hideAll_none _ (.head _)) trivial)) fun r s' hr => ?_)⟩
  obtain ⟨h2, tk2, rfl, rfl, hb2, hu2⟩ := hr
  have hk2 : ∀ b o, b ≠ K.env.locals → h1.get? b = some o → h2.get? b = some o := fun b o hb q => hb2 b o (hideAll_get _ q fun hm => hb (List.mem_singleton.mp hm))
  exact hQ _ _ _ (F1.noted (tk := tk2) hk2 hu2) hR fun b o hb q => hk2 b o hb (k1 b o q)
end

open PySem PyProof.Rows PySem.SeqAt

theorem sub_some {α : Type} {p : α → Prop} {o : Option { a // p a }} {a : α} (h : o.map (·.1) = some a) : p a := by
  obtain ⟨⟨b, hb⟩, _, rfl⟩ := Option.map_eq_some_iff.mp h
  exact hb
noncomputable def ifOfS : (st : PySem.Stmt) → Option { q : PySem.Expr × List PySem.Stmt × List PySem.Stmt × Pos // st = .If q.1 q.2.1 q.2.2.1 q.2.2.2 }
  | .If t a b p => some ⟨(t, a, b, p), rfl⟩
  | _ => none
noncomputable def ifOf (st : PySem.Stmt) : Option (PySem.Expr × List PySem.Stmt × List PySem.Stmt × Pos) := (ifOfS st).map (·.1)
theorem ifOf_some {st : PySem.Stmt} {q : PySem.Expr × List PySem.Stmt × List PySem.Stmt × Pos} (h : ifOf st = some q) : st = .If q.1 q.2.1 q.2.2.1 q.2.2.2 := sub_some (p := fun q : PySem.Expr × List PySem.Stmt × List PySem.Stmt × Pos => st = .If q.1 q.2.1 q.2.2.1 q.2.2.2) h
noncomputable def raiseOfS : (st : PySem.Stmt) → Option { q : Option PySem.Expr × Option PySem.Expr × Pos // st = .Raise q.1 q.2.1 q.2.2 }
  | .Raise a b p => some ⟨(a, b, p), rfl⟩
  | _ => none
noncomputable def raiseOf (st : PySem.Stmt) : Option (Option PySem.Expr × Option PySem.Expr × Pos) := (raiseOfS st).map (·.1)
theorem raiseOf_some {st : PySem.Stmt} {q : Option PySem.Expr × Option PySem.Expr × Pos} (h : raiseOf st = some q) : st = .Raise q.1 q.2.1 q.2.2 := sub_some (p := fun q : Option PySem.Expr × Option PySem.Expr × Pos => st = .Raise q.1 q.2.1 q.2.2) h
noncomputable def retOfS : (st : PySem.Stmt) → Option { q : Option PySem.Expr × Pos // st = .Return q.1 q.2 }
  | .Return a p => some ⟨(a, p), rfl⟩
  | _ => none
noncomputable def retOf (st : PySem.Stmt) : Option (Option PySem.Expr × Pos) := (retOfS st).map (·.1)
theorem retOf_some {st : PySem.Stmt} {q : Option PySem.Expr × Pos} (h : retOf st = some q) : st = .Return q.1 q.2 := sub_some (p := fun q : Option PySem.Expr × Pos => st = .Return q.1 q.2) h
noncomputable def tryOfS : (st : PySem.Stmt) → Option { q : List PySem.Stmt × List ExceptHandler × List PySem.Stmt × List PySem.Stmt × Pos // st = .Try q.1 q.2.1 q.2.2.1 q.2.2.2.1 q.2.2.2.2 }
  | .Try a b c d p => some ⟨(a, b, c, d, p), rfl⟩
  | _ => none
noncomputable def tryOf (st : PySem.Stmt) : Option (List PySem.Stmt × List ExceptHandler × List PySem.Stmt × List PySem.Stmt × Pos) := (tryOfS st).map (·.1)
theorem tryOf_some {st : PySem.Stmt} {q : List PySem.Stmt × List ExceptHandler × List PySem.Stmt × List PySem.Stmt × Pos} (h : tryOf st = some q) : st = .Try q.1 q.2.1 q.2.2.1 q.2.2.2.1 q.2.2.2.2 := sub_some (p := fun q : List PySem.Stmt × List ExceptHandler × List PySem.Stmt × List PySem.Stmt × Pos => st = .Try q.1 q.2.1 q.2.2.1 q.2.2.2.1 q.2.2.2.2) h
noncomputable def strOfS : (st : PySem.Expr) → Option { q : Str × Nat × Pos // st = .Constant (.str q.1) q.2.1 q.2.2 }
  | .Constant (.str m) k p => some ⟨(m, k, p), rfl⟩
  | _ => none
noncomputable def strOf (st : PySem.Expr) : Option (Str × Nat × Pos) := (strOfS st).map (·.1)
theorem strOf_some {st : PySem.Expr} {q : Str × Nat × Pos} (h : strOf st = some q) : st = .Constant (.str q.1) q.2.1 q.2.2 := sub_some (p := fun q : Str × Nat × Pos => st = .Constant (.str q.1) q.2.1 q.2.2) h
noncomputable def exprOfS : (st : PySem.Stmt) → Option { q : PySem.Expr × Pos // st = .Expr q.1 q.2 }
  | .Expr e p => some ⟨(e, p), rfl⟩
  | _ => none
noncomputable def exprOf (st : PySem.Stmt) : Option (PySem.Expr × Pos) := (exprOfS st).map (·.1)
theorem exprOf_some {st : PySem.Stmt} {q : PySem.Expr × Pos} (h : exprOf st = some q) : st = .Expr q.1 q.2 := sub_some (p := fun q : PySem.Expr × Pos => st = .Expr q.1 q.2) h
noncomputable def one {α : Type} : List α → Option α
  | [a] => some a
  | _ => none
theorem one_some {α : Type} {l : List α} {a : α} (h : one l = some a) : l = [a] := by
  rcases l with _ | ⟨b, _ | ⟨c, r⟩⟩ <;> cases h
  rfl

/-- the class that a raise of the plain sort names -/
noncomputable def raiseName (st : PySem.Stmt) : Option Str :=
  (raiseOf st).bind fun q => if q.2.1.isNone then q.1.bind fun e => (plainCall e).bind fun c => (one c.2).bind fun k => (strOf k).map fun _ => c.1 else none
theorem raiseName_some {st : PySem.Stmt} {c : Str} (h : raiseName st = some c) : ∃ np m kk kp cp rp, st = .Raise (some (.Call (.Name c np) [.Constant (.str m) kk kp] [] cp)) none rp := by
  obtain ⟨q, e1, h⟩ := Option.bind_eq_some_iff.mp h
  split at h
  · rename_i hn
    obtain ⟨e, e2, h⟩ := Option.bind_eq_some_iff.mp h
    obtain ⟨fa, e3, h⟩ := Option.bind_eq_some_iff.mp h
    obtain ⟨k, e4, h⟩ := Option.bind_eq_some_iff.mp h
    obtain ⟨z, e5, rfl⟩ := Option.map_eq_some_iff.mp h
    obtain ⟨pf, pc, rfl⟩ := plainCall_some e3
    exact ⟨pf, z.1, z.2.1, z.2.2, pc, q.2.2, by rw [raiseOf_some e1, e2, Option.isNone_iff_eq_none.mp hn, one_some e4, strOf_some e5]⟩
  · cases h
/-- if TEST: raise C(..), as the i-th statement -/
noncomputable def raiseAt (b : List PySem.Stmt) (i : Nat) : Option (PySem.Expr × Str) :=
  b[i]?.bind fun st => (ifOf st).bind fun q => (one q.2.1).bind fun r => (raiseName r).map fun c => (q.1, c)
theorem raiseAt_some {b : List PySem.Stmt} {i : Nat} {t : PySem.Expr} {c : Str} (h : raiseAt b i = some (t, c)) : ∃ np m kk kp cp rp els ip, b = b.take i ++ .If t [.Raise (some (.Call (.Name c np) [.Constant (.str m) kk kp] [] cp)) none rp] els ip :: b.drop (i + 1) := by
  obtain ⟨st, e1, h⟩ := Option.bind_eq_some_iff.mp h
  obtain ⟨q, e2, h⟩ := Option.bind_eq_some_iff.mp h
  obtain ⟨r, e3, h⟩ := Option.bind_eq_some_iff.mp h
  obtain ⟨c', e4, h⟩ := Option.map_eq_some_iff.mp h
  cases h
  obtain ⟨np, m, kk, kp, cp, rp, rfl⟩ := raiseName_some e4
  obtain ⟨hi, e1'⟩ := List.getElem?_eq_some_iff.mp e1
  refine ⟨np, m, kk, kp, cp, rp, q.2.2.1, q.2.2.2, ?_⟩
  have e := ifOf_some e2
  rw [one_some e3] at e
  rw [← e, ← e1', List.getElem_cons_drop, List.take_append_drop]

/-- what a def that may raise must be -/
noncomputable def RaiseIs (P : PC) (f : Nat) (ps rest : List Str) (cpre : List CS) (ct : CE) (c : Str) : Prop :=
  ∃ x d n i t, P.nt.fns[f]? = some x ∧ P.defs[f]? = some d ∧ defOk d.scope ps rest = true ∧ raiseAt d.body i = some (t, c) ∧ allSome ((d.body.take i).map (compS P.nt n (fun x => d.scope.names.lookup x) (ps ++ rest))) = some cpre ∧
    compE P.nt n (fun x => d.scope.names.lookup x) (ps ++ rest) t = some ct ∧ isGlob (fun x => d.scope.names.lookup x) c = true ∧
    ∀ xs pm code doc, xs.length = ps.length → bindArgs (Calls.docDef d.name d.params d.body d.scope pm code doc) ⟨xs, []⟩ = pure (ps.zip xs)
theorem RaiseIs.call {P : PC} {l : Lv} {f : Nat} {ps rest : List Str} {cpre : List CS} {ct : CE} {c : Str} {vs : List AV} {K : Addr} (F : RaiseIs P f ps rest cpre ct c) (hk : 0 < l.k) (hq : l.q = true) (hl : vs.length = ps.length) (ho : P.own c K = some true) (hm : P.mg c = some (.ref K))
    (hw : wpSs P ⟨l.k - 1, l.q⟩ cpre (vs.map some ++ List.replicate rest.length none) [] (fun loc H => wpE P ⟨l.k - 1, l.q⟩ (fun _ => False) ct loc H (isB fun b _ => b = true)) (fun _ _ => False) (fun _ _ _ => False)) : CallX P l f vs K := by
  obtain ⟨x, d, n, i, t, h1, h2, h3, h4, h5, h6, h7, h8⟩ := F
  obtain ⟨np, m, kk, kp, cp, rp, els, ip, hb⟩ := raiseAt_some h4
  exact CallX.of_raise h1 h2 hk h8 h3 hl hq hb h5 h6 h7 ho hm hw

noncomputable def hdlOf : ExceptHandler → Option PySem.Expr × Option Str × List PySem.Stmt × Pos
  | .ExceptHandler t n b p => (t, n, b, p)
/-- try: B except Z as N: return R -/
noncomputable def tryAt (b : List PySem.Stmt) : Option (List PySem.Stmt × Str × Str × PySem.Expr) :=
  b[0]?.bind fun st => (tryOf st).bind fun q => if q.2.2.1.isEmpty && q.2.2.2.1.isEmpty then (one q.2.1).bind fun h => (hdlOf h).1.bind fun t => (nameOf t).bind fun z => (hdlOf h).2.1.bind fun n => (one (hdlOf h).2.2.1).bind fun r => (retOf r).bind fun e => e.1.map fun e => (q.1, z, n, e) else none
theorem tryAt_some {b tb : List PySem.Stmt} {z n : Str} {re : PySem.Expr} (h : tryAt b = some (tb, z, n, re)) : ∃ zp rp hp tp, b = .Try tb [.ExceptHandler (some (.Name z zp)) (some n) [.Return (some re) rp] hp] [] [] tp :: b.drop 1 := by
  obtain ⟨st, e1, h⟩ := Option.bind_eq_some_iff.mp h
  obtain ⟨q, e2, h⟩ := Option.bind_eq_some_iff.mp h
  split at h
  · rename_i hc
    obtain ⟨hd, e3, h⟩ := Option.bind_eq_some_iff.mp h
    obtain ⟨t, e4, h⟩ := Option.bind_eq_some_iff.mp h
    obtain ⟨z', e5, h⟩ := Option.bind_eq_some_iff.mp h
    obtain ⟨n', e6, h⟩ := Option.bind_eq_some_iff.mp h
    obtain ⟨r, e7, h⟩ := Option.bind_eq_some_iff.mp h
    obtain ⟨e, e8, h⟩ := Option.bind_eq_some_iff.mp h
    obtain ⟨e', e9, h⟩ := Option.map_eq_some_iff.mp h
    cases h
    obtain ⟨zp, rfl⟩ := nameOf_some e5
    simp only [Bool.and_eq_true, List.isEmpty_iff] at hc
    obtain ⟨t0, n0, b0, p0⟩ := hd
    replace e4 : t0 = _ := e4
    replace e6 : n0 = _ := e6
    replace e7 : one b0 = _ := e7
    refine ⟨zp, e.2, p0, q.2.2.2.2, ?_⟩
    have e10 := tryOf_some e2
    have e11 := retOf_some e8
    rw [e9] at e11
    rw [hc.1, hc.2, one_some e3, e4, e6, one_some e7, e11] at e10
    obtain ⟨hi, e1'⟩ := List.getElem?_eq_some_iff.mp e1
    rw [← e10, ← e1', List.getElem_cons_drop, List.drop_zero]
  · cases h
/-- what a def must be that catches -/
noncomputable def TryIs (P : PC) (f : Nat) (ps rest : List Str) (kd : Str → Option NameKind) (tb : List PySem.Stmt) (z nm : Str) (cre : CE) : Prop :=
  ∃ x d n re, P.nt.fns[f]? = some x ∧ P.defs[f]? = some d ∧ defOk d.scope ps rest = true ∧ (fun x => d.scope.names.lookup x) = kd ∧ tryAt d.body = some (tb, z, nm, re) ∧ isGlob kd z = true ∧ kd nm = some .local ∧
    compE P.nt n kd [nm] re = some cre ∧ ∀ xs pm code doc, xs.length = ps.length → bindArgs (Calls.docDef d.name d.params d.body d.scope pm code doc) ⟨xs, []⟩ = pure (ps.zip xs)
theorem TryIs.call {P : PC} {l : Lv} {f : Nat} {ps rest : List Str} {kd : Str → Option NameKind} {tb : List PySem.Stmt} {z nm t0 : Str} {cre : CE} {vs : List AV} {K : Addr} {b : Bool} (F : TryIs P f ps rest kd tb z nm cre) (hk : 0 < l.k) (hl : vs.length = ps.length)
    (hz : P.mg z = some (.ref P.sup)) (ho : P.own t0 K = some true) (htb : RaisesX P ⟨l.k - 1, l.q⟩ K kd (ps ++ rest) tb (vs.map some ++ List.replicate rest.length none))
    (hwr : wpE P ⟨l.k - 1, false⟩ (fun _ => False) cre [some (.exc K)] [] fun v _ => v = .bool b) : CallS P l f vs b := by
  obtain ⟨x, d, n, re, h1, h2, h3, rfl, h4, h5, h6, h7, h8⟩ := F
  obtain ⟨zp, rp, hp, tp, hb⟩ := tryAt_some h4
  exact CallS.of_try h1 h2 hk h8 h3 hl hb h5 hz h6 ho htb h7 hwr
noncomputable def ntOfS : (st : PySem.Expr) → Option { q : PySem.Expr × Pos // st = .UnaryOp .Not q.1 q.2 }
  | .UnaryOp .Not e p => some ⟨(e, p), rfl⟩
  | _ => none
noncomputable def ntOf (st : PySem.Expr) : Option (PySem.Expr × Pos) := (ntOfS st).map (·.1)
theorem ntOf_some {st : PySem.Expr} {q : PySem.Expr × Pos} (h : ntOf st = some q) : st = .UnaryOp .Not q.1 q.2 := sub_some (p := fun q : PySem.Expr × Pos => st = .UnaryOp .Not q.1 q.2) h

open PySem PyProof.Rows PySem.SeqAt

theorem o_exc {P : PC} {t : Str} {c : Addr} {K : Bool → Prop} : onExc P t (.exc c) K = opt (P.own t c) K := rfl

noncomputable def cs_sole : List CS := [
  .assign 2 (.lst [(.isown "BadStrip" (.var 0)), (.isown "BadOrder" (.var 0)), (.isown "NoFold" (.var 0))]),
  .assign 2 (.bin .Add (.var 2) (.lst [(.isown "NothingDone" (.var 0)), (.isown "TooMany" (.var 0)), (.isown "BadText" (.var 0))])),
  .ite (.or (.cmp .NotEq (.meth .count (.var 2) [(.const (.bool true))]) (.const (.int (1)))) (.not (.isown "ValueError" (.var 0))))
    [      .ret (.const (.bool false))]
    [],
  .ret (.cmp .Eq (.idx (.lst [(.const (.str "strip")), (.const (.str "order")), (.const (.str "fold")), (.const (.str "nothing")), (.const (.str "many")), (.const (.str "text"))]) (.meth .index (.var 2) [(.const (.bool true))])) (.var 1))]

/-- the classes, as isinstance sees an object of the one at c -/
structure Kinds (P : PC) (c : Addr) (b0 b1 b2 b3 b4 b5 : Bool) : Prop where
  k0 : P.own "BadStrip" c = some b0
  k1 : P.own "BadOrder" c = some b1
  k2 : P.own "NoFold" c = some b2
  k3 : P.own "NothingDone" c = some b3
  k4 : P.own "TooMany" c = some b4
  k5 : P.own "BadText" c = some b5
  kv : P.own "ValueError" c = some true

noncomputable def bAV (bs : List Bool) : List AV := bs.map AV.bool
noncomputable def bPD (bs : List Bool) : List PyData := bs.map PyData.bool
theorem sole_ok {P : PC} {l : Lv} {f : Nat} {ps rest : List Str} {X : Str → Prop} (F : FnIs P f ps rest cs_sole) (hp : ps.length = 2) (hr : rest.length = 1) (hk : 0 < l.k) {c : Addr} {b0 b1 b2 b3 b4 b5 : Bool} (K : Kinds P c b0 b1 b2 b3 b4 b5) {due : Str} {j : Nat}
    (hc : ((bPD [b0, b1, b2, b3, b4, b5]).countP fun e => e.eqv (.bool true)) = 1) (hi : ((bPD [b0, b1, b2, b3, b4, b5]).findIdx? fun e => e.eqv (.bool true)) = some j) (hd : (["strip", "order", "fold", "nothing", "many", "text"] : List Str)[j]? = some due) (hs : PyData.strOk due = true) :
    CallJ P l f [.exc c, .str due] (fun v _ => v = .bool true) X := by
  refine F.call hk (by simp [hp]) ?_
  rw [hr]
  unfold cs_sole
  (refine wpSs_cons.mpr ?_; tm_at "wps")
  rw [o_exc, K.k0, opt_some, o_exc, K.k1, opt_some, o_exc, K.k2, opt_some]
  refine ⟨by decide, ?_⟩
  (refine wpSs_cons.mpr ?_; tm_at "wps")
  rw [o_exc, K.k3, opt_some, o_exc, K.k4, opt_some, o_exc, K.k5, opt_some]
  refine ⟨by decide, ?_⟩
  refine ⟨by decide, ?_⟩
  (refine wpSs_cons.mpr ?_; tm_at "wps")
  have rb : ∀ H, Rds H 9 (bAV [b0, b1, b2, b3, b4, b5]) (bPD [b0, b1, b2, b3, b4, b5]) := fun H => Rds.ofAll fun x _ => .bool x
  refine ⟨fun loc H => loc = [some (.exc c), some (.str due), some (.ref 2)] ∧ H[2]? = some (bAV [b0, b1, b2, b3, b4, b5]) ∧ H.length = 3, ?_, _, _, _, rfl, rb _, .bool true, (by decide : 6 ≤ smallN), ?_⟩
  · rintro loc H ⟨rfl, h2, hl⟩
    (refine wpSs_cons.mpr ?_; tm_at "wps")
    have hj : j < 6 := (List.getElem?_eq_some_iff.mp hd).1
    refine ⟨by decide, _, _, _, j, (List.getElem?_append_left (by rw [hl]; decide)).trans h2, rb _, .bool true, (by decide : 6 ≤ smallN), hi, ?_⟩
    refine i_at (vs := (["strip", "order", "fold", "nothing", "many", "text"] : List Str).map AV.str) (List.getElem?_concat_length) (by decide) (Int.natCast_nonneg j) (Int.ofNat_lt.mpr hj) (w := .str due) (by rw [Int.toNat_natCast, List.getElem?_map, hd]; rfl) ?_
    refine ⟨_, _, .str _ hs, .str _ hs, ?_⟩
    simp [PyData.eqv]
  · rw [hc]
    tm_at "wps"
    rw [show decide (((1 : Nat) : Int) = 1) = true from rfl, o_exc, K.kv]
    exact Cut.here ⟨rfl, rfl, rfl⟩

open PySem PyProof.Rows PySem.SeqAt

noncomputable def cs_isnum : List CS := [
  .ret (.and (.isin .int (.var 0)) (.and (.not (.isin .bool (.var 0))) (.chain .LtE .LtE (.var 1) (.var 0) (.var 2))))]
/-- an item that a strip's list may hold -/
noncomputable def Pl : AV → Prop
  | .none => True
  | .bool _ => True
  | .int _ => True
  | .str x => PyData.strOk x = true
  | .fl _ => True
  | _ => False
noncomputable def isNum (a b : Int) : AV → Bool
  | .int i => decide (a ≤ i) && decide (i ≤ b)
  | _ => false
theorem isnum_ok {P : PC} {l : Lv} {f : Nat} {ps rest : List Str} {X : Str → Prop} (F : FnIs P f ps rest cs_isnum) (hp : ps.length = 3) (hr : rest.length = 0) (hk : 0 < l.k) {a b : Int} {v : AV} (hv : Pl v) :
    CallJ P l f [v, .int a, .int b] (fun r H => r = .bool (isNum a b v) ∧ H = []) X := by
  refine F.call hk (by simp [hp]) ?_
  rw [hr]
  unfold cs_isnum
  (refine wpSs_cons.mpr ?_; tm_at "wps")
  cases v with
  | none => exact ⟨rfl, rfl⟩
  | bool => exact ⟨rfl, rfl⟩
  | str => exact ⟨rfl, rfl⟩
  | fl => exact ⟨rfl, rfl⟩
  | int i =>
    show if decide (a ≤ i) = true then opCmp .LtE (.int i) (.int b) [] _ else _
    exact brk (fun h => ⟨by simp [isNum, h], rfl⟩) fun h => ⟨by simp [isNum, h], rfl⟩
  | _ => exact hv.elim

theorem offRng_to {v : AV} {p : Prop} (h : v.offX = true) (hp : p) : offRng v p := by cases v <;> first | (cases h; done) | exact hp
mutual
theorem shift0 : ∀ v : AV, AV.shift 0 v = v
  | .none => rfl
  | .bool _ => rfl
  | .int _ => rfl
  | .str _ => rfl
  | .exc _ => rfl
  | .rng _ _ _ => rfl
  | .ref i => congrArg AV.ref (Nat.zero_add i)
  | .tup vs => congrArg AV.tup (shifts0 vs)
  | .fl vs => congrArg AV.fl (shifts0 vs)
  | .dict ks vs => congrArg (AV.dict ks) (shifts0 vs)
theorem shifts0 : ∀ vs : List AV, AV.shifts 0 vs = vs
  | [] => rfl
  | v :: vs => by rw [shs_cons, shift0 v, shifts0 vs]
end

theorem pl_ints {ns : List Int} : ∀ v ∈ ns.map AV.int, Pl v := fun v hv => by obtain ⟨i, _, rfl⟩ := List.mem_map.mp hv; trivial
theorem rn_ints {ns : List Int} (H : AH) : ∀ v ∈ ns.map AV.int, Ren [] H v v := fun v hv => by obtain ⟨i, _, rfl⟩ := List.mem_map.mp hv; exact .int i
theorem mod_in (x : Int) {m : Int} (h : 0 < m) : 0 ≤ x % m ∧ x % m < m := ⟨Int.emod_nonneg x (Int.ne_of_gt h), Int.emod_lt_of_pos x h⟩
theorem all_app {p : AV → Prop} {A B : List AV} {w : AV} (hA : ∀ v ∈ A, p v) (hw : p w) (hB : ∀ v ∈ B, p v) : ∀ v ∈ A ++ [w] ++ B, p v := fun v hv => by
  rcases List.mem_append.mp hv with h | h
  · rcases List.mem_append.mp h with h | h
    · exact hA v h
    · rw [List.mem_singleton.mp h]; exact hw
  · exact hB v h

open PySem PyProof.Rows PySem.SeqAt

noncomputable def kdOf (d : DefRec) : Str → Option NameKind := fun x => d.scope.names.lookup x
section
variable {prog : Program} {w : World} {mg mb : Str → Option Value} {consts : List (Str × AV)} {defs : List DefRec} {own : Str → Addr → Option Bool} {sup : Addr} {f : Nat} {ps rest : List Str}
noncomputable def raiseC (nt : NT) (d : DefRec) (names : List Str) (i : Nat) : Option (List CS × CE × Str) :=
  (raiseAt d.body i).bind fun q => (allSome ((d.body.take i).map (compS nt 40 (kdOf d) names))).bind fun cp => (compE nt 40 (kdOf d) names q.1).map fun ct => (cp, ct, q.2)
theorem RaiseIs.of {i : Nat} {cpre : List CS} {ct : CE} {c : Str} (h : f < defs.length) (hs : defOk (defs[f]'h).scope ps rest = true) (hc : raiseC ⟨defs.map (·.name), consts⟩ (defs[f]'h) (ps ++ rest) i = some (cpre, ct, c)) (hg : isGlob (kdOf (defs[f]'h)) c = true)
    (hb : ∀ xs pm code doc, xs.length = ps.length → bindArgs (Calls.docDef (defs[f]'h).name (defs[f]'h).params (defs[f]'h).body (defs[f]'h).scope pm code doc) ⟨xs, []⟩ = pure (ps.zip xs)) :
    RaiseIs ⟨prog, w, mg, mb, ⟨defs.map (·.name), consts⟩, defs, own, sup⟩ f ps rest cpre ct c := by
  obtain ⟨q, e1, hc⟩ := Option.bind_eq_some_iff.mp hc
  obtain ⟨cp, e2, hc⟩ := Option.bind_eq_some_iff.mp hc
  obtain ⟨ct', e3, hc⟩ := Option.map_eq_some_iff.mp hc
  cases hc
  exact ⟨(defs[f]'h).name, defs[f]'h, 40, i, q.1, by simp [h], by simp [h], hs, e1, e2, e3, hg, hb⟩

end
theorem allSome_ne {α β : Type} {f : α → Option β} {l : List α} {c : β} {r : List β} (h : allSome (l.map f) = some (c :: r)) : ∃ a t, l = a :: t := by
  cases l with
  | nil => cases h
  | cons a t => exact ⟨a, t, rfl⟩
theorem law_callS {P : PC} {s₁ : Shared} {fa l : Addr} {ns : List Int} {Pa : Params} {Q : Value → Shared → Prop} {E : Value → Shared → Prop}
    (hw : PySem.W.Well Pa s₁.heap (.ref l) (PySem.W.ofPy (PyData.list (ns.map PyData.int))))
    (hc : ∀ (S : Sx) (xs : List Value), S.prog = P.prog → S.w = P.w → SD S s₁.heap → VRels S [] s₁.heap [.fl (ns.map AV.int)] xs → Aok ⟨20, true⟩ callerA → callerA.frames = some [] →
      codeAny (model P.prog P.w) callerA (.call (.ref fa) ⟨xs, []⟩) (fun r s' => ∃ h' tk, r = .ok (.ret (.bool true)) ∧ s' = { s₁ with heap := h', toks := tk } ∧ Kp s₁.heap h') s₁)
    (h : ∀ h' tk, Kp s₁.heap h' → Q (.bool true) { s₁ with heap := h', toks := tk }) : wpAny (model P.prog P.w) callerA (call (.ref fa) [.ref l]) Q E s₁ := by
  have hpl : ∃ vs, s₁.heap.PlainList l vs ∧ VRels ⟨[], P.prog, P.w⟩ [] s₁.heap (ns.map AV.int) vs.toList := by
    have e : PySem.W.ofPy (PyData.list (ns.map PyData.int)) = .list (ns.map PySem.W.WData.int) := by
      simp only [PySem.W.ofPy, ofPy_ints]
    rw [e] at hw
    cases hw with
    | list hg hwl => exact ⟨_, ⟨_, hg⟩, by simpa using ints_of_well hwl rfl _ _ _⟩
  obtain ⟨vs, hp, V⟩ := hpl
  refine wpAny_call (codeAny_mono (hc ⟨[], P.prog, P.w⟩ [.ref l] rfl rfl (fun _ h => nomatch h) (.cons (.fl (fun h => nomatch h) (fun h => nomatch h) hp V) .nil) ⟨fun _ => rfl, by decide, by decide⟩ rfl) fun r s' hr => ?_)
  obtain ⟨h', tk, rfl, rfl, k⟩ := hr
  exact h h' tk k
theorem bind1 {d : DefRec} {ps : List Str} (hl : ps.length = 1) (hb : ∀ a pm code doc, bindArgs (Calls.docDef d.name d.params d.body d.scope pm code doc) ⟨[a], []⟩ = pure (ps.zip [a])) (xs : List Value) (pm : Value) (code : Value) (doc : Value) (e : xs.length = ps.length) :
    bindArgs (Calls.docDef d.name d.params d.body d.scope pm code doc) ⟨xs, []⟩ = pure (ps.zip xs) := by
  rw [hl] at e
  rcases xs with _ | ⟨a, _ | ⟨b9, r⟩⟩
  · cases e
  · exact hb a pm code doc
  · cases e

open PySem PyProof.Rows PySem.SeqAt PySem.W

/-- how a raise is seen from the frame that it comes to -/
noncomputable def Flies (s : Shared) (base : Heap) (fs : List Env) (K : Addr) (e : Value) (s' : Shared) : Prop := ∃ e' t h' tk, e = .ref e' ∧ s' = { s with heap := h', toks := tk } ∧ Heap.FlyingW base fs e' (.ref K) (.ref t) h' ∧ s.heap.UpToSlots h'

theorem callX_ev {P : PC} {l : Lv} {K : Addr} {A : Around} {env : Env} {names : List Str} {S : Sx} {s : Shared} {base : Heap} {outer : List Env} {g : Str} {gi n : Nat} {gp cp : Pos} {a0 : PySem.Expr} {args : List PySem.Expr} {c0 : CE} {cs : List CE} {loc : Loc}
    (C : Cx P l A env names S [] loc [] s) (ho : EnvOk env) (hfr : A.frames = some (env :: outer)) (hst : base.StaysIn s.heap) (hff : s.heap.FunFrames base (env :: outer))
    (hg : isGlob env.kindOf g = true) (hgi : P.nt.fns[gi]? = some g) (he : allSome ((a0 :: args).map (compE P.nt n env.kindOf names)) = some (c0 :: cs))
    (hw : wpEs P l (fun _ => False) (c0 :: cs) loc [] fun vs H => ∃ vs', Rens [] H vs vs' ∧ CallX P l gi vs' K) : wpAny (model P.prog P.w) A (eval (.Call (.Name g gp) (a0 :: args) [] cp) env) (fun _ _ => False) (Flies s base (env :: outer) K) s := by
  obtain ⟨a, o, ea, eo, fd, efd⟩ := C.gok.fn gi g hgi
  unfold isGlob at hg
  simp at hg
  have hd : (g == ("__debug__" : Str)) = false := by simpa using hg.2
  obtain ⟨c1, t1, e1, e2, e3⟩ := allSome_cons he
  refine Call_ (Calls.Name_function_global ho.1 hg.1 (Calls.loadGlobal_global (by rw [ho.2.1]; exact C.gok.g) ea ?_) hd)
  refine callWith_def efd (wpAny_mono (args_ok (X := fun _ => False) (fun e c h => (expr_ok (l := l) (rfl : P.nt = P.nt) n env names ho e c h).1) (a0 :: args) (c0 :: cs) he C exOk_any hw) (fun xs s₁ hx1 => ?_) fun _ _ y => y) (not_starred e1 args)
  obtain ⟨h1, tk1, n1, vs, G1, rfl, k1, f1, X1, V1, vs', R, hX⟩ := hx1
  have C1 := C.kp (tk := tk1) k1 f1 X1
  refine ⟨k1 _ _ eo, wpAny_call (codeAny_mono (hX A { s with heap := h1, toks := tk1 } S xs g a base (env :: outer) C1.aok C1.gok hgi ea C1.pp C1.pw C1.sd (V1.frz X1 R) hfr (fun b o q => k1 b o (hst b o q)) (hff.of_keeps fun b o q _ => ⟨o, k1 b o q, rfl⟩)) fun r s' hr => ?_)⟩
  obtain ⟨e, t, h', tk, rfl, rfl, hfl, hup⟩ := hr
  exact ⟨e, t, h', tk, rfl, rfl, hfl, (Heap.UpToSlots.of_keeps k1).trans hup⟩

/-- return G(..) == B -/
theorem RaisesX.retcmp {P : PC} {l : Lv} {K : Addr} {kd : Str → Option NameKind} {names : List Str} {g : Str} {gi n : Nat} {gp cp rp pp : Pos} {op : CmpOp} {b a0 : PySem.Expr} {args : List PySem.Expr} {c0 : CE} {cs : List CE} {loc : Loc} {rest : List PySem.Stmt} (hm : behindInMarks op b = false)
    (hg : isGlob kd g = true) (hgi : P.nt.fns[gi]? = some g) (he : allSome ((a0 :: args).map (compE P.nt n kd names)) = some (c0 :: cs))
    (hw : wpEs P l (fun _ => False) (c0 :: cs) loc [] fun vs H => ∃ vs', Rens [] H vs vs' ∧ CallX P l gi vs' K) : RaisesX P l K kd names (.Return (some (.Compare (.Call (.Name g gp) (a0 :: args) [] cp) [op] [b] pp)) rp :: rest) loc := by
  intro A env S s base outer C ho ekd hfr hst hff
  subst ekd
  exact wpAny_execs_cons (wpAny_Return_some (wpAny_Compare1 (wpAny_mono (callX_ev C ho hfr hst hff hg hgi he hw) (fun _ _ y => y.elim) fun _ _ y => y) hm))

/-- an if, one of whose branches raises -/
theorem RaisesX.ite {P : PC} {l : Lv} {K : Addr} {kd : Str → Option NameKind} {names : List Str} {t : PySem.Expr} {a b rest : List PySem.Stmt} {ip : Pos} {n : Nat} {ct : CE} {loc : Loc} {v : Bool} (hc : compE P.nt n kd names t = some ct) (hw : wpE P l (fun _ => False) ct loc [] (isB fun c H => c = v ∧ H = []))
    (h : RaisesX P l K kd names (if v = true then a else b) loc) : RaisesX P l K kd names (.If t a b ip :: rest) loc := by
  intro A env S s base outer C ho ekd hfr hst hff
  subst ekd
  refine wpAny_execs_cons (wpAny_If (wpAny_mono ((expr_ok (l := l) (rfl : P.nt = P.nt) n env names ho t ct hc).2 A S [] loc [] s _ _ _ C exOk_any hw) (fun c s₁ hx => ?_) fun _ _ y => y))
  obtain ⟨h1, tk1, n1, G1, rfl, k1, f1, X1, rfl, hG⟩ := hx
  have hG' : G1 = [] := hG
  subst hG'
  have hn : n1 = [] := List.length_eq_zero_iff.mp X1.len
  subst hn
  have C1 := C.kp (tk := tk1) k1 f1 X1
  have r := h A env S { s with heap := h1, toks := tk1 } base outer C1 ho rfl hfr (fun b o q => k1 b o (hst b o q)) (hff.of_keeps fun b o q _ => ⟨o, k1 b o q, rfl⟩)
  have r' := wpAny_mono r (fun _ _ y => y) fun e s' hr => (show Flies s base (env :: outer) K e s' from by
    obtain ⟨e, t, h', tk, rfl, rfl, hfl, hup⟩ := hr
    exact ⟨e, t, h', tk, rfl, rfl, hfl, (Heap.UpToSlots.of_keeps k1).trans hup⟩)
  cases c with
  | true => exact wpAny_mono r' (fun _ _ y => y.elim) fun _ _ y => y
  | false => exact wpAny_mono r' (fun _ _ y => y.elim) fun _ _ y => y

/-- a def whose block raises -/
theorem CallX.of_raises {P : PC} {l : Lv} {f : Nat} {x : Str} {d : DefRec} {ps rest : List Str} {vs : List AV} {K : Addr}
    (hf : P.nt.fns[f]? = some x) (hd : P.defs[f]? = some d) (hk : 0 < l.k)
    (hb : ∀ xs pm code doc, xs.length = ps.length → bindArgs (Calls.docDef d.name d.params d.body d.scope pm code doc) ⟨xs, []⟩ = pure (ps.zip xs))
    (hs : defOk d.scope ps rest = true) (hl : vs.length = ps.length) (h : RaisesX P ⟨l.k - 1, l.q⟩ K (fun x => d.scope.names.lookup x) (ps ++ rest) d.body (vs.map some ++ List.replicate rest.length none)) : CallX P l f vs K := by
  intro A s S xs x' a base outer hA hG hx ha hpp hpw hsd V hfr hst hff
  refine enter_ok hf hd hk hb hs hl hA hG hx ha hpp hpw hsd V fun env s₁ S' efr ekd hEok hsub hp' hw' F => ?_
  obtain ⟨m, cm, I, _⟩ := F.ic
  have I' := I.toInCall
  have hnk : env.scope.kind ≠ .module := by rw [hEok.1]; decide
  have hLn : s.heap.get? env.locals = none := Heap.get?_none_of_le I'.fresh
  have hLb : base.get? env.locals = none := by
    cases q : base.get? env.locals with
    | none => rfl
    | some o => have := hst _ _ q; rw [hLn] at this; cases this
  obtain ⟨hs1, tk1, es1⟩ := I'.same
  refine wpAny_mono (h (A.deeper env) env S' s₁ base outer F.cx hEok ekd (Around.frames_deeper hfr) (fun b o q => I'.keep b o (hst b o q)) (.cons hnk efr I'.ns hLb (hff.of_keeps fun b o q _ => ⟨o, I'.keep b o q, rfl⟩))) (fun _ _ y => y.elim) fun e s' hr => ?_
  obtain ⟨e, t, h', tk, rfl, rfl, hfl, hup⟩ := hr
  refine wpAny_leaves_onW (Around.frames_deeper hfr) efr hfl fun h2 hfl2 hup2 => ?_
  exact ⟨e, t, h2, tk, rfl, by rw [es1], hfl2, ((Heap.UpToSlots.of_keeps I'.keep).trans hup).trans hup2⟩

open PySem PyProof.Rows PySem.SeqAt PySem.W

/-- a call of a def, compiled -/
noncomputable def callC (nt : NT) (kd : Str → Option NameKind) (names : List Str) (n : Nat) (c : Str × List PySem.Expr) : Option (Nat × List CE) :=
  if isGlob kd c.1 then (idxOf c.1 nt.fns).bind fun gi => (allSome (c.2.map (compE nt n kd names))).bind fun cas => if cas.isEmpty then none else some (gi, cas) else none
theorem callC_some {nt : NT} {kd : Str → Option NameKind} {names : List Str} {n : Nat} {g : Str} {args : List PySem.Expr} {gi : Nat} {cas : List CE} (h : callC nt kd names n (g, args) = some (gi, cas)) :
    isGlob kd g = true ∧ nt.fns[gi]? = some g ∧ ∃ a0 as c0 cs, args = a0 :: as ∧ cas = c0 :: cs ∧ allSome ((a0 :: as).map (compE nt n kd names)) = some (c0 :: cs) := by
  unfold callC at h
  split at h
  · rename_i hg
    obtain ⟨gi', e1, h⟩ := Option.bind_eq_some_iff.mp h
    obtain ⟨cas', e2, h⟩ := Option.bind_eq_some_iff.mp h
    split at h
    · cases h
    · rename_i hne
      cases h
      refine ⟨hg, idxOf_get e1, ?_⟩
      cases cas with
      | nil => exact absurd rfl hne
      | cons c0 cs =>
        obtain ⟨a0, as, rfl⟩ := allSome_ne e2
        exact ⟨a0, as, c0, cs, rfl, rfl, e2⟩
  · cases h
/-- the arguments' forms, and what is raised -/
noncomputable def raisesW (P : PC) (l : Lv) (K : Addr) (k : Nat × List CE) (loc : Loc) : Prop := wpEs P l (fun _ => False) k.2 loc [] fun vs H => ∃ vs', Rens [] H vs vs' ∧ CallX P l k.1 vs' K
noncomputable def callHd (b : List PySem.Stmt) : Option (Str × List PySem.Expr) := b[0]?.bind fun st => (exprOf st).bind fun e => plainCall e.1
theorem callHd_some {b : List PySem.Stmt} {g : Str} {args : List PySem.Expr} (h : callHd b = some (g, args)) : ∃ gp cp ep, b = .Expr (.Call (.Name g gp) args [] cp) ep :: b.drop 1 := by
  obtain ⟨st, e1, h⟩ := Option.bind_eq_some_iff.mp h
  obtain ⟨e, e2, h⟩ := Option.bind_eq_some_iff.mp h
  obtain ⟨pf, pc, e3⟩ := plainCall_some h
  obtain ⟨hi, e1'⟩ := List.getElem?_eq_some_iff.mp e1
  refine ⟨pf, pc, e.2, ?_⟩
  have e4 := exprOf_some e2
  rw [e3] at e4
  rw [← e4, ← e1', List.getElem_cons_drop, List.drop_zero]
theorem RaisesX.hd {P : PC} {l : Lv} {K : Addr} {kd : Str → Option NameKind} {names : List Str} {b : List PySem.Stmt} {c : Str × List PySem.Expr} {n : Nat} {k : Nat × List CE} {loc : Loc} (h : callHd b = some c) (hc : callC P.nt kd names n c = some k) (hw : raisesW P l K k loc) : RaisesX P l K kd names b loc := by
  obtain ⟨gp, cp, ep, hb⟩ := callHd_some h
  obtain ⟨h1, h2, a0, as, c0, cs, e1, e2, e3⟩ := callC_some hc
  rw [hb, e1]
  unfold raisesW at hw
  rw [e2] at hw
  exact RaisesX.call h1 h2 e3 hw
/-- ifs in a row, each with a call -/
noncomputable def chainC (nt : NT) (kd : Str → Option NameKind) (names : List Str) (n : Nat) : Nat → List PySem.Stmt → Option (List (CE × Nat × List CE) × Nat × List CE)
  | 0, _ => none
  | m + 1, b => match callHd b with
    | some c => (callC nt kd names n c).map fun k => ([], k)
    | none => (one b).bind fun st => (ifOf st).bind fun q => (compE nt n kd names q.1).bind fun ct => (callHd q.2.1).bind fun c => (callC nt kd names n c).bind fun k => (chainC nt kd names n m q.2.2.1).map fun r => ((ct, k) :: r.1, r.2)
noncomputable def chainW (P : PC) (l : Lv) (K : Addr) (last : Nat × List CE) (loc : Loc) : List (CE × Nat × List CE) → Prop
  | [] => raisesW P l K last loc
  | (ct, k) :: r => ∃ v : Bool, wpE P l (fun _ => False) ct loc [] (isB fun c H => c = v ∧ H = []) ∧ if v = true then raisesW P l K k loc else chainW P l K last loc r
theorem chainX_ok {P : PC} {l : Lv} {K : Addr} {kd : Str → Option NameKind} {names : List Str} {n : Nat} {loc : Loc} : ∀ (m : Nat) (b : List PySem.Stmt) (cs : List (CE × Nat × List CE)) (last : Nat × List CE), chainC P.nt kd names n m b = some (cs, last) → chainW P l K last loc cs → RaisesX P l K kd names b loc
  | 0, _, _, _, h, _ => by cases h
  | m + 1, b, cs, last, h, hw => by
    unfold chainC at h
    cases e : callHd b with
    | some c =>
      rw [e] at h
      obtain ⟨k, e1, h⟩ := Option.map_eq_some_iff.mp h
      cases h
      exact RaisesX.hd e e1 hw
    | none =>
      rw [e] at h
      obtain ⟨st, e1, h⟩ := Option.bind_eq_some_iff.mp h
      obtain ⟨q, e2, h⟩ := Option.bind_eq_some_iff.mp h
      obtain ⟨ct, e3, h⟩ := Option.bind_eq_some_iff.mp h
      obtain ⟨c, e4, h⟩ := Option.bind_eq_some_iff.mp h
      obtain ⟨k, e5, h⟩ := Option.bind_eq_some_iff.mp h
      obtain ⟨r, e6, h⟩ := Option.map_eq_some_iff.mp h
      cases h
      obtain ⟨v, w1, w2⟩ := hw
      rw [one_some e1, ifOf_some e2]
      refine RaisesX.ite e3 w1 ?_
      cases v with
      | true => exact RaisesX.hd e4 e5 w2
      | false => exact chainX_ok m _ _ _ e6 w2

/-- what a def must be whose first statement is a call that may raise -/
noncomputable def FirstIs (P : PC) (f : Nat) (ps rest : List Str) (k : Nat × List CE) : Prop :=
  ∃ x d n c, P.nt.fns[f]? = some x ∧ P.defs[f]? = some d ∧ defOk d.scope ps rest = true ∧ callHd d.body = some c ∧ callC P.nt (fun x => d.scope.names.lookup x) (ps ++ rest) n c = some k ∧
    ∀ xs pm code doc, xs.length = ps.length → bindArgs (Calls.docDef d.name d.params d.body d.scope pm code doc) ⟨xs, []⟩ = pure (ps.zip xs)
theorem FirstIs.call {P : PC} {l : Lv} {f : Nat} {ps rest : List Str} {k : Nat × List CE} {vs : List AV} {K : Addr} (F : FirstIs P f ps rest k) (hk : 0 < l.k) (hl : vs.length = ps.length) (hw : raisesW P ⟨l.k - 1, l.q⟩ K k (vs.map some ++ List.replicate rest.length none)) : CallX P l f vs K := by
  obtain ⟨x, d, n, c, h1, h2, h3, h4, h5, h6⟩ := F
  exact CallX.of_raises h1 h2 hk h6 h3 hl (RaisesX.hd h4 h5 hw)
noncomputable def cmpOfS : (st : PySem.Expr) → Option { q : PySem.Expr × List CmpOp × List PySem.Expr × Pos // st = .Compare q.1 q.2.1 q.2.2.1 q.2.2.2 }
  | .Compare a ops rs p => some ⟨(a, ops, rs, p), rfl⟩
  | _ => none
noncomputable def cmpOf (st : PySem.Expr) : Option (PySem.Expr × List CmpOp × List PySem.Expr × Pos) := (cmpOfS st).map (·.1)
theorem cmpOf_some {st : PySem.Expr} {q : PySem.Expr × List CmpOp × List PySem.Expr × Pos} (h : cmpOf st = some q) : st = .Compare q.1 q.2.1 q.2.2.1 q.2.2.2 := sub_some (p := fun q : PySem.Expr × List CmpOp × List PySem.Expr × Pos => st = .Compare q.1 q.2.1 q.2.2.1 q.2.2.2) h
/-- return G(..) OP B -/
noncomputable def retCmp (b : List PySem.Stmt) : Option ((Str × List PySem.Expr) × CmpOp × PySem.Expr) :=
  b[0]?.bind fun st => (retOf st).bind fun r => r.1.bind fun e => (cmpOf e).bind fun q => (one q.2.1).bind fun op => (one q.2.2.1).bind fun y => if behindInMarks op y then none else (plainCall q.1).map fun c => (c, op, y)
theorem retCmp_some {b : List PySem.Stmt} {g : Str} {args : List PySem.Expr} {op : CmpOp} {y : PySem.Expr} (h : retCmp b = some ((g, args), op, y)) : behindInMarks op y = false ∧ ∃ gp cp pp rp, b = .Return (some (.Compare (.Call (.Name g gp) args [] cp) [op] [y] pp)) rp :: b.drop 1 := by
  obtain ⟨st, e1, h⟩ := Option.bind_eq_some_iff.mp h
  obtain ⟨r, e2, h⟩ := Option.bind_eq_some_iff.mp h
  obtain ⟨e, e3, h⟩ := Option.bind_eq_some_iff.mp h
  obtain ⟨q, e4, h⟩ := Option.bind_eq_some_iff.mp h
  obtain ⟨op', e5, h⟩ := Option.bind_eq_some_iff.mp h
  obtain ⟨y', e6, h⟩ := Option.bind_eq_some_iff.mp h
  split at h
  · cases h
  · rename_i hm
    obtain ⟨c, e7, h⟩ := Option.map_eq_some_iff.mp h
    cases h
    obtain ⟨pf, pc, e8⟩ := plainCall_some e7
    obtain ⟨hi, e1'⟩ := List.getElem?_eq_some_iff.mp e1
    refine ⟨by simpa using hm, pf, pc, q.2.2.2, r.2, ?_⟩
    have e9 := retOf_some e2
    have e10 := cmpOf_some e4
    rw [e8, one_some e5, one_some e6] at e10
    rw [e3, e10] at e9
    rw [← e9, ← e1', List.getElem_cons_drop, List.drop_zero]
noncomputable def RetCmpIs (P : PC) (f : Nat) (ps rest : List Str) (k : Nat × List CE) : Prop :=
  ∃ x d n c, P.nt.fns[f]? = some x ∧ P.defs[f]? = some d ∧ defOk d.scope ps rest = true ∧ (retCmp d.body).map (·.1) = some c ∧ callC P.nt (fun x => d.scope.names.lookup x) (ps ++ rest) n c = some k ∧
    ∀ xs pm code doc, xs.length = ps.length → bindArgs (Calls.docDef d.name d.params d.body d.scope pm code doc) ⟨xs, []⟩ = pure (ps.zip xs)
theorem RetCmpIs.call {P : PC} {l : Lv} {f : Nat} {ps rest : List Str} {k : Nat × List CE} {vs : List AV} {K : Addr} (F : RetCmpIs P f ps rest k) (hk : 0 < l.k) (hl : vs.length = ps.length) (hw : raisesW P ⟨l.k - 1, l.q⟩ K k (vs.map some ++ List.replicate rest.length none)) : CallX P l f vs K := by
  obtain ⟨x, d, n, c, h1, h2, h3, h4, h5, h6⟩ := F
  refine CallX.of_raises h1 h2 hk h6 h3 hl ?_
  obtain ⟨⟨⟨g, args⟩, op, y⟩, h4', rfl⟩ := Option.map_eq_some_iff.mp h4
  obtain ⟨hm, gp, cp, pp, rp, hb⟩ := retCmp_some h4'
  obtain ⟨g1, g2, a0, as, c0, cs, e1, e2, e3⟩ := callC_some h5
  rw [hb]
  have e1' : args = a0 :: as := e1
  rw [e1']
  unfold raisesW at hw
  rw [e2] at hw
  exact RaisesX.retcmp hm g1 g2 e3 hw
/-- what a def must be that catches what one of several calls raises -/
noncomputable def TryChainIs (P : PC) (f : Nat) (ps rest : List Str) (z nm : Str) (cre : CE) (cs : List (CE × Nat × List CE)) (last : Nat × List CE) : Prop :=
  ∃ kd tb n m, TryIs P f ps rest kd tb z nm cre ∧ chainC P.nt kd (ps ++ rest) n m tb = some (cs, last)
section
variable {prog : Program} {w : World} {mg mb : Str → Option Value} {consts : List (Str × AV)} {defs : List DefRec} {own : Str → Addr → Option Bool} {sup : Addr} {f : Nat} {ps rest : List Str}
noncomputable def firstC (nt : NT) (d : DefRec) (names : List Str) : Option (Nat × List CE) := (callHd d.body).bind fun c => callC nt (kdOf d) names 40 c
theorem FirstIs.of {k : Nat × List CE} (h : f < defs.length) (hs : defOk (defs[f]'h).scope ps rest = true) (hc : firstC ⟨defs.map (·.name), consts⟩ (defs[f]'h) (ps ++ rest) = some k)
    (hb : ∀ xs pm code doc, xs.length = ps.length → bindArgs (Calls.docDef (defs[f]'h).name (defs[f]'h).params (defs[f]'h).body (defs[f]'h).scope pm code doc) ⟨xs, []⟩ = pure (ps.zip xs)) :
    FirstIs ⟨prog, w, mg, mb, ⟨defs.map (·.name), consts⟩, defs, own, sup⟩ f ps rest k := by
  obtain ⟨c, e1, e2⟩ := Option.bind_eq_some_iff.mp hc
  exact ⟨(defs[f]'h).name, defs[f]'h, 40, c, by simp [h], by simp [h], hs, e1, e2, hb⟩
noncomputable def retCmpC (nt : NT) (d : DefRec) (names : List Str) : Option (Nat × List CE) := ((retCmp d.body).map (·.1)).bind fun c => callC nt (kdOf d) names 40 c
theorem RetCmpIs.of {k : Nat × List CE} (h : f < defs.length) (hs : defOk (defs[f]'h).scope ps rest = true) (hc : retCmpC ⟨defs.map (·.name), consts⟩ (defs[f]'h) (ps ++ rest) = some k)
    (hb : ∀ xs pm code doc, xs.length = ps.length → bindArgs (Calls.docDef (defs[f]'h).name (defs[f]'h).params (defs[f]'h).body (defs[f]'h).scope pm code doc) ⟨xs, []⟩ = pure (ps.zip xs)) :
    RetCmpIs ⟨prog, w, mg, mb, ⟨defs.map (·.name), consts⟩, defs, own, sup⟩ f ps rest k := by
  obtain ⟨c, e1, e2⟩ := Option.bind_eq_some_iff.mp hc
  exact ⟨(defs[f]'h).name, defs[f]'h, 40, c, by simp [h], by simp [h], hs, e1, e2, hb⟩
noncomputable def tryChainC (nt : NT) (d : DefRec) (names : List Str) : Option (Str × Str × CE × List (CE × Nat × List CE) × Nat × List CE) :=
  (tryAt d.body).bind fun q => (compE nt 40 (kdOf d) [q.2.2.1] q.2.2.2).bind fun ce => (chainC nt (kdOf d) names 40 9 q.1).map fun r => (q.2.1, q.2.2.1, ce, r)
theorem TryChainIs.of {z nm : Str} {cre : CE} {cs : List (CE × Nat × List CE)} {last : Nat × List CE} (h : f < defs.length) (hs : defOk (defs[f]'h).scope ps rest = true) (hc : tryChainC ⟨defs.map (·.name), consts⟩ (defs[f]'h) (ps ++ rest) = some (z, nm, cre, cs, last))
    (hz : isGlob (kdOf (defs[f]'h)) z = true) (hn : kdOf (defs[f]'h) nm = some .local)
    (hb : ∀ xs pm code doc, xs.length = ps.length → bindArgs (Calls.docDef (defs[f]'h).name (defs[f]'h).params (defs[f]'h).body (defs[f]'h).scope pm code doc) ⟨xs, []⟩ = pure (ps.zip xs)) :
    TryChainIs ⟨prog, w, mg, mb, ⟨defs.map (·.name), consts⟩, defs, own, sup⟩ f ps rest z nm cre cs last := by
  obtain ⟨q, e1, hc⟩ := Option.bind_eq_some_iff.mp hc
  obtain ⟨ce, e2, hc⟩ := Option.bind_eq_some_iff.mp hc
  obtain ⟨r, e3, hc⟩ := Option.map_eq_some_iff.mp hc
  cases hc
  exact ⟨kdOf (defs[f]'h), q.1, 40, 9, ⟨(defs[f]'h).name, defs[f]'h, 40, q.2.2.2, by simp [h], by simp [h], hs, rfl, e1, hz, hn, e2, hb⟩, e3⟩
end

open PySem PyProof.Rows PySem.SeqAt PySem.W

/-- for X in range(..), in the outermost def: the block may note something in the frame -/
theorem forS_ok {P : PC} {l : Lv} {A : Around} {env : Env} {names : List Str} {S₀ S : Sx} {s₀ s : Shared} {hid : List Value} {ρ : List Addr} {loc : Loc} {H : AH} {x : Str} {i n N : Nat} {px p : Pos} {it : PySem.Expr} {body : List PySem.Stmt} {c : CE} {J : Nat → Loc → AH → Prop} {Q : Flow → Shared → Prop} {E : Value → Shared → Prop}
    (Fm : Fr ⟨P, l, A, env, names, S₀, s₀, hid, S⟩ ρ loc H s) (hq : l.q = true) (hx : slotOf env.kindOf names x = some i) (hit : compE P.nt n env.kindOf names it = some c)
    (h : wpE P l (fun _ => False) c loc H fun v H₁ => v = .rng 0 N 1 ∧ ∃ loc0 H0, RenL (loc ++ [some v]) H₁ (loc0 ++ [some v]) H0 ∧ loc0.length = loc.length ∧ J 0 loc0 H0) 
    (hB : ∀ (y : Value) (I : Addr) (k : Nat) (ρ' : List Addr) (loc' : Loc) (H' : AH) (s' : Shared) (E' : Value → Shared → Prop), k < N → loc'.length = loc.length → J k loc' H' → Fr ⟨P, l, A, env, names, S₀, s₀, hid ++ [y], ⟨S.ad ++ [I], S.prog, S.w⟩⟩ ρ' (loc'.set i (some (.int k)) ++ [some (.rng 0 N 1)]) H' s' →
      wpAny (model P.prog P.w) A (execs body env) (fun f s'' => f = .next ∧ ∃ ρ'' loc'' H'', Fr ⟨P, l, A, env, names, S₀, s₀, hid ++ [y], ⟨S.ad ++ [I], S.prog, S.w⟩⟩ ρ'' (loc'' ++ [some (.rng 0 N 1)]) H'' s'' ∧ loc''.length = loc.length ∧ J (k + 1) loc'' H'' ∧ ∀ b o, b ≠ env.locals → s'.heap.get? b = some o → s''.heap.get? b = some o) E' s')
    (hE : ∀ ρ' loc' H' s', Fr ⟨P, l, A, env, names, S₀, s₀, hid, S⟩ ρ' loc' H' s' → J N loc' H' → Q .next s') : wpAny (model P.prog P.w) A (exec (.For (.Name x px) it body [] p) env) Q E s := by
  have hh := Fm.aok.1 hq
  have ho := Fm.eok
  have ie := (expr_ok (l := l) (rfl : P.nt = P.nt) n env names ho it c hit).1
  refine wpAny_For (wpAny_mono (ie A S ρ loc H s _ _ E Fm.cx exOk_any h) (fun y s₁ hy => ?_) fun _ _ y => y) (fun y => folded_id hit y)
  obtain ⟨h1, tk1, n1, v1, G1, rfl, k1, f1, X1, V1, rfl, loc0, H0, R0, hl0, J0⟩ := hy
  have F1 := Fm.kp (tk := tk1) k1 f1 X1
  have F1' := F1.hide (vs := [.rng 0 N 1]) (xs := [y]) (.cons V1 .nil)
  obtain ⟨ρ2, hs2, F2⟩ := F1'.ren R0
  have hlen : loc.length = names.length + hid.length := Fm.len
  have il : i < names.length := by
    unfold slotOf at hx
    split at hx
    · exact (List.getElem?_eq_some_iff.mp (idxOf_get hx)).1
    · cases hx
  have gv : ∀ {ρ' : List Addr} {loc' : Loc} {H' : AH} {s' : Shared} {S' : Sx}, Fr ⟨P, l, A, env, names, S₀, s₀, hid ++ [y], S'⟩ ρ' (loc' ++ [some (.rng 0 N 1)]) H' s' → loc'.length = loc.length → VRel S' ρ' s'.heap (.rng 0 N 1) y := by
    intro ρ' loc' H' s' S' F hl
    have := Fr.hidden (K := ⟨P, l, A, env, names, S₀, s₀, hid, S'⟩) (vs := [.rng 0 N 1]) (xs := [y]) F (by rw [hl]; exact hlen) rfl
    cases this with
    | cons V _ => exact V
  have el : ((rngList 0 N 1).map AV.int).length = N := by rw [List.length_map, rngList1_len]; omega
  have ei : ∀ H', iterOf H' (.rng 0 N 1) = some ((rngList 0 N 1).map AV.int) := fun _ => rfl
  refine iter_start (s := { s with heap := h1, toks := tk1 }) F2.sim (gv F2 hl0) (ei _) fun I h₂ t0 k₂ hIn => ?_
  rw [el] at t0
  have F3 := F2.guard (x' := [I]) (tk := tk1) (fun b hb => by simp at hb; subst hb; exact hIn) k₂ (fun b hb => by simp at hb; subst hb; exact t0.alive)
  have hIL : I ≠ env.locals := fun q => by obtain ⟨o, ho⟩ := F2.sd _ F2.hL; rw [← q, hIn] at ho; cases ho
  have hIC : ∀ n c, (n, c) ∈ env.cells → I ≠ c := fun n c hm q => by obtain ⟨o, ho⟩ := F2.sd _ (F2.hC n c hm); rw [← q, hIn] at ho; cases ho
  have hIS : I ∉ S.ad := fun q => by obtain ⟨o, ho⟩ := F2.sd _ q; rw [hIn] at ho; cases ho
  have hI0 : s₀.heap.get? I = none := by
    cases q0 : s₀.heap.get? I with
    | none => rfl
    | some o => have := F2.keep _ _ q0; rw [hIn] at this; cases this
  let JJ : Nat → Shared → Prop := fun m s' => ∃ (k : Nat) (ρk : List Addr) (lock : Loc) (Hk : AH), k + m = N ∧ Fr ⟨P, l, A, env, names, S₀, s₀, hid ++ [y], ⟨S.ad ++ [I], S.prog, S.w⟩⟩ ρk (lock ++ [some (.rng 0 N 1)]) Hk s' ∧ lock.length = loc.length ∧ J k lock Hk ∧ ItAt s'.heap I y N k (AV.ik (.rng 0 N 1))
  refine codeAny_forLoop JJ (fun m s' hJ => ?_) N ⟨0, ρ2, loc0, H0, Nat.zero_add N, F3, hl0, J0, t0⟩
  obtain ⟨k, ρk, lock, Hk, hkm, Fk, hlk, Ik, tk⟩ := hJ
  have Vk := gv Fk hlk
  by_cases hkn : k < N
  · have eu : ((rngList 0 N 1).map AV.int)[k]? = some (.int k) := by
      rw [rngList1]
      simp [hkn]
    refine iter_item hh Fk.sim Vk (ei _) eu (by rw [el]; exact tk) fun z h3 tk3 Vu t3 hk3 => ?_
    rw [el] at t3
    have Fk3 := Fk.junk (x' := [I]) (h' := h3) (tk := tk3) (fun b hb => List.mem_append_right _ hb) (fun c o hc e => hk3 c o (by simpa using hc) e) (fun b hb => by simp at hb; subst hb; exact t3.alive) (fun b hb => by simp at hb; subst hb; exact ⟨hIL, hIC, hI0⟩)
    have Vu3 : VRel ⟨S.ad ++ [I], S.prog, S.w⟩ ρk h3 (.int k) z := Vu.mono2 fun b o _ hb e => hk3 b o (fun q => hb (List.mem_append_right _ (by simp [q]))) e
    refine wpAny_assign_Name (wpAny_mono (store_ok Fk3 hx Vu3) (fun _ s4 h4 => ?_) fun _ _ y => y)
    obtain ⟨m4, F4⟩ := h4
    rw [set_app (Nat.lt_of_lt_of_le il (Nat.le_trans (Nat.le_add_right _ _) (Nat.le_of_eq (hlk.trans hlen).symm)))] at F4
    refine wpAny_mono (hB y I k ρk lock Hk s4 _ hkn hlk Ik F4) (fun f s5 hf => ?_) fun _ _ y => y
    obtain ⟨rfl, ρ6, loc6, H6, F6, hl6, I6, hkeep⟩ := hf
    obtain ⟨m', rfl⟩ := next_turn hkm hkn
    refine ⟨m', Nat.lt_succ_self _, k + 1, ρ6, loc6, H6, (Nat.succ_add_eq_add_succ k m').trans hkm, F6, hl6, I6, ?_⟩
    have hIr : I ∉ ρk := fun q => Fk.sim.off I q (List.mem_append_right _ (List.mem_singleton.mpr rfl))
    exact t3.at fun o e => hkeep I o hIL (m4.mv I o hIL hIC hIr e)
  · have hkN : k = N := last_turn hkm hkn
    subst hkN
    refine iter_done hh Fk.sim Vk (ei _) (by rw [el]; exact tk) fun h3 tk3 hk3 => ?_
    refine wpAny_execs_nil ?_
    refine hE ρk lock Hk _ (Fr.unhide (K := ⟨P, l, A, env, names, S₀, s₀, hid, S⟩) (xs := [y]) (Fk.unguard (x' := [I]) (S := S) rfl (fun c o hc e => hk3 c o (by simpa using hc) e) (fun b hb => by simp at hb; subst hb; exact ⟨hIS, hI0⟩) Fm.sub Fm.hL Fm.hC) (by rw [List.length_append]; rfl) (fun i hi => (List.getElem?_append_left hi).symm)) Ik

open PySem PyProof.Rows PySem.SeqAt PySem.W

section
variable {K : FC} {ρ : List Addr} {loc : Loc} {H : AH} {s : Shared} {E : Value → Shared → Prop}
theorem notS_evK {g : Str} {gi n : Nat} {gp cp up : Pos} {a0 : PySem.Expr} {args : List PySem.Expr} {c0 : CE} {cs : List CE} {b : Bool} {R : AH → Prop} {Q : Bool → Shared → Prop} (F : Fr K ρ loc H s) (hA : K.A.frames = some [K.env]) (efr : K.env.frame = some K.env.locals)
    (hg : isGlob K.env.kindOf g = true) (hgi : K.P.nt.fns[gi]? = some g) (he : allSome ((a0 :: args).map (compE K.P.nt n K.env.kindOf K.names)) = some (c0 :: cs))
    (hw : wpEs K.P K.l (fun _ => False) (c0 :: cs) loc H fun vs H' => ∃ vs', Rens [] H' vs vs' ∧ CallS K.P K.l gi vs' b ∧ R H')
    (hQ : ∀ ρ' H' s', Fr K ρ' loc H' s' → R H' → (∀ b o, b ≠ K.env.locals → s.heap.get? b = some o → s'.heap.get? b = some o) → Q (!b) s') : wpAny (model K.P.prog K.P.w) K.A (isTrue (.UnaryOp .Not (.Call (.Name g gp) (a0 :: args) [] cp) up) K.env (eval (.UnaryOp .Not (.Call (.Name g gp) (a0 :: args) [] cp) up) K.env)) Q E s := by
  show wpAny _ K.A (do return !(← isTrue (.Call (.Name g gp) (a0 :: args) [] cp) K.env (eval (.Call (.Name g gp) (a0 :: args) [] cp) K.env))) _ _ s
  refine wpAny_bind ?_
  show wpAny _ K.A (do let v ← eval (.Call (.Name g gp) (a0 :: args) [] cp) K.env; standAt (PySem.Expr.Call (.Name g gp) (a0 :: args) [] cp).pos; holding [v] (truthy v)) _ _ s
  exact wpAny_bind (callS_evK F hA efr hg hgi he hw fun ρ' H' s' F' r k => wpAny_bind (wpAny_standAt (wpAny_holding (wpAny_truthy_bool (wpAny_pure (hQ ρ' H' s' F' r k))))))
end
noncomputable def forOfS : (st : PySem.Stmt) → Option { q : PySem.Expr × PySem.Expr × List PySem.Stmt × List PySem.Stmt × Pos // st = .For q.1 q.2.1 q.2.2.1 q.2.2.2.1 q.2.2.2.2 }
  | .For t it b e p => some ⟨(t, it, b, e, p), rfl⟩
  | _ => none
noncomputable def forOf (st : PySem.Stmt) : Option (PySem.Expr × PySem.Expr × List PySem.Stmt × List PySem.Stmt × Pos) := (forOfS st).map (·.1)
theorem forOf_some {st : PySem.Stmt} {q : PySem.Expr × PySem.Expr × List PySem.Stmt × List PySem.Stmt × Pos} (h : forOf st = some q) : st = .For q.1 q.2.1 q.2.2.1 q.2.2.2.1 q.2.2.2.2 := sub_some (p := fun q : PySem.Expr × PySem.Expr × List PySem.Stmt × List PySem.Stmt × Pos => st = .For q.1 q.2.1 q.2.2.1 q.2.2.2.1 q.2.2.2.2) h
/-- for X in IT: if not G(..): .., as the i-th statement -/
noncomputable def forAt (b : List PySem.Stmt) (i : Nat) : Option (Str × PySem.Expr × Str × List PySem.Expr) :=
  b[i]?.bind fun st => (forOf st).bind fun q => if q.2.2.2.1.isEmpty then (nameOf q.1).bind fun x => (one q.2.2.1).bind fun r => (ifOf r).bind fun u => if u.2.2.1.isEmpty then (ntOf u.1).bind fun e => (plainCall e.1).map fun c => (x, q.2.1, c) else none else none
theorem forAt_some {b : List PySem.Stmt} {i : Nat} {x g : Str} {it : PySem.Expr} {args : List PySem.Expr} (h : forAt b i = some (x, it, g, args)) : ∃ px gp cp up th ip fp, b = b.take i ++ .For (.Name x px) it [.If (.UnaryOp .Not (.Call (.Name g gp) args [] cp) up) th [] ip] [] fp :: b.drop (i + 1) := by
  obtain ⟨st, e1, h⟩ := Option.bind_eq_some_iff.mp h
  obtain ⟨q, e2, h⟩ := Option.bind_eq_some_iff.mp h
  split at h
  · rename_i hc
    obtain ⟨x', e3, h⟩ := Option.bind_eq_some_iff.mp h
    obtain ⟨r, e4, h⟩ := Option.bind_eq_some_iff.mp h
    obtain ⟨u, e5, h⟩ := Option.bind_eq_some_iff.mp h
    split at h
    · rename_i hc2
      obtain ⟨e, e6, h⟩ := Option.bind_eq_some_iff.mp h
      obtain ⟨c, e7, h⟩ := Option.map_eq_some_iff.mp h
      cases h
      obtain ⟨px, e8⟩ := nameOf_some e3
      obtain ⟨pf, pc, e9⟩ := plainCall_some e7
      obtain ⟨hi, e1'⟩ := List.getElem?_eq_some_iff.mp e1
      refine ⟨px, pf, pc, e.2, u.2.1, u.2.2.2, q.2.2.2.2, ?_⟩
      have f1 := forOf_some e2
      have f2 := ifOf_some e5
      have f3 := ntOf_some e6
      rw [e9] at f3
      rw [f3, List.isEmpty_iff.mp hc2] at f2
      rw [e8, one_some e4, f2, List.isEmpty_iff.mp hc] at f1
      rw [← f1, ← e1', List.getElem_cons_drop, List.take_append_drop]
    · cases h
  · cases h
noncomputable def LawForIs (P : PC) (f gi : Nat) (ps rest : List Str) (c1 : List CS) (i : Nat) (cit : CE) (ca : List CE) (c3 : List CS) : Prop :=
  ∃ x d n j xv it g as, P.nt.fns[f]? = some x ∧ P.defs[f]? = some d ∧ defOk d.scope ps rest = true ∧ forAt d.body j = some (xv, it, g, as) ∧ allSome ((d.body.take j).map (compS P.nt n (fun x => d.scope.names.lookup x) (ps ++ rest))) = some c1 ∧
    compE P.nt n (fun x => d.scope.names.lookup x) (ps ++ rest) it = some cit ∧ slotOf (fun x => d.scope.names.lookup x) (ps ++ rest) xv = some i ∧ allSome (as.map (compE P.nt n (fun x => d.scope.names.lookup x) (ps ++ rest))) = some ca ∧
    allSome ((d.body.drop (j + 1)).map (compS P.nt n (fun x => d.scope.names.lookup x) (ps ++ rest))) = some c3 ∧ isGlob (fun x => d.scope.names.lookup x) g = true ∧ P.nt.fns[gi]? = some g ∧
    ∀ xs pm code doc, xs.length = ps.length → bindArgs (Calls.docDef d.name d.params d.body d.scope pm code doc) ⟨xs, []⟩ = pure (ps.zip xs)
theorem LawForIs.run {P : PC} {l : Lv} {f gi i N : Nat} {ps rest : List Str} {c1 c3 : List CS} {cit ca : CE} {cas : List CE} {vs : List AV} {J : Loc → AH → Prop} (F : LawForIs P f gi ps rest c1 i cit (ca :: cas) c3) (hk : 0 < l.k) (hq : l.q = true) (hl : vs.length = ps.length)
    (w1 : wpSs P ⟨l.k - 1, l.q⟩ c1 (vs.map some ++ List.replicate rest.length none) [] (fun loc H => wpE P ⟨l.k - 1, l.q⟩ (fun _ => False) cit loc H fun v H₁ => v = .rng 0 N 1 ∧ ∃ loc0 H0, RenL (loc ++ [some v]) H₁ (loc0 ++ [some v]) H0 ∧ loc0.length = loc.length ∧ J loc0 H0) (fun _ _ => False) (fun _ _ _ => False))
    (w2 : ∀ k loc H, k < N → J loc H → wpEs P ⟨l.k - 1, l.q⟩ (fun _ => False) (ca :: cas) (loc.set i (some (.int (k : Nat))) ++ [some (.rng 0 N 1)]) H fun vs H' => ∃ vs', Rens [] H' vs vs' ∧ CallS P ⟨l.k - 1, l.q⟩ gi vs' true ∧
      ∃ loc'' H'', RenL (loc.set i (some (.int (k : Nat))) ++ [some (.rng 0 N 1)]) H' (loc'' ++ [some (.rng 0 N 1)]) H'' ∧ loc''.length = loc.length ∧ J loc'' H'')
    (w3 : ∀ loc H, J loc H → wpSs P ⟨l.k - 1, l.q⟩ c3 loc H (fun _ _ => False) (fun v _ => v = .bool true) (fun _ _ _ => False))
    {A : Around} {s : Shared} {S : Sx} {xs : List Value} {x' : Str} {a : Addr} (hA : Aok l A) (hfr : A.frames = some []) (hG : GOk P s.heap) (hx : P.nt.fns[f]? = some x') (ha : P.mg x' = some (.ref a)) (hpp : S.prog = P.prog) (hpw : S.w = P.w) (hsd : SD S s.heap) (V : VRels S [] s.heap vs xs) :
    codeAny (model P.prog P.w) A (.call (.ref a) ⟨xs, []⟩) (fun r s' => ∃ h' tk, r = .ok (.ret (.bool true)) ∧ s' = { s with heap := h', toks := tk } ∧ Kp s.heap h') s := by
  obtain ⟨x, d, n, j, xv, it, g, as, hf, hd, hs, h4, h1, ht, hxv, ha0, h3, hg, hgi, hb⟩ := F
  obtain ⟨a0, t0, rfl⟩ := allSome_ne ha0
  obtain ⟨px, gp, cp, up, th, ip, fp, hbody⟩ := forAt_some h4
  refine enter_ok hf hd hk hb hs hl hA hG hx ha hpp hpw hsd V fun env s₁ S' efr ekd hEok hsub hp' hw' F => ?_
  rw [hbody]
  rw [← ekd] at h1 ht ha0 h3 hg hxv
  have hfr' : (A.deeper env).frames = some [env] := Around.frames_deeper hfr
  refine execs_app (wpAny_mono (body_ok (P := P) (l := ⟨l.k - 1, l.q⟩) rfl hEok h1 (A.deeper env) S s [] S' [] _ [] s₁ _ _ _ _ F xOk_any w1) (fun fl s' hfl => ?_) fun _ _ y => y)
  cases fl with
  | ret rv => obtain ⟨_, _, _, _, _, _, _, q⟩ := hfl; exact q.elim
  | brk => exact hfl.elim
  | cont => exact hfl.elim
  | next =>
  obtain ⟨ρ1, loc1, H1, m1, F1, q1⟩ := hfl
  refine wpAny_execs_cons (forS_ok (J := fun _ => J) F1 hq hxv ht q1 (fun y I k ρ' loc' H' s' E' hkN hl' hJ Fk => ?_) fun ρ' loc' H' s' F' hJ => ?_)
  · refine wpAny_execs_cons (wpAny_If (notS_evK Fk hfr' efr hg hgi ha0 (w2 k loc' H' hkN hJ) fun ρ5 H5 s5 F5 r5 hkeep => wpAny_execs_nil (wpAny_execs_nil ?_)))
    obtain ⟨loc6, H6, R6, hl6, J6⟩ := r5
    obtain ⟨ρ6, _, F6⟩ := F5.ren R6
    exact ⟨rfl, ρ6, loc6, H6, F6, hl6.trans hl', J6, hkeep⟩
  · refine wpAny_mono (body_ok (P := P) (l := ⟨l.k - 1, l.q⟩) rfl hEok h3 (A.deeper env) S s [] S' _ _ _ _ _ _ _ _ F' xOk_any (w3 loc' H' hJ)) (fun fl s' hfl => ?_) fun _ _ y => y
    cases fl with
    | ret rv =>
      obtain ⟨_, _, _, _, _, F', V', rfl⟩ := hfl
      cases V'
      obtain ⟨m, cm, I', _⟩ := F'.ic
      obtain ⟨h', tk, es⟩ := I'.toInCall.same
      subst es
      exact ⟨h', tk, rfl, rfl, I'.toInCall.keep⟩
    | brk => exact hfl.elim
    | cont => exact hfl.elim
    | next => obtain ⟨_, _, _, _, _, q⟩ := hfl; exact q.elim
section
variable {prog : Program} {w : World} {mg mb : Str → Option Value} {consts : List (Str × AV)} {defs : List DefRec} {own : Str → Addr → Option Bool} {sup : Addr} {f : Nat} {ps rest : List Str}
noncomputable def lawForC (nt : NT) (d : DefRec) (names : List Str) (j : Nat) : Option ((List CS × Nat × CE) × List CE × List CS × Str) :=
  (forAt d.body j).bind fun q => (allSome ((d.body.take j).map (compS nt 40 (kdOf d) names))).bind fun c1 => (compE nt 40 (kdOf d) names q.2.1).bind fun ct => (slotOf (kdOf d) names q.1).bind fun i => (allSome (q.2.2.2.map (compE nt 40 (kdOf d) names))).bind fun ca =>
    (allSome ((d.body.drop (j + 1)).map (compS nt 40 (kdOf d) names))).map fun c3 => ((c1, i, ct), ca, c3, q.2.2.1)
theorem LawForIs.of {i j gi : Nat} {c1 c3 : List CS} {ct : CE} {ca : List CE} {g : Str} (h : f < defs.length) (hs : defOk (defs[f]'h).scope ps rest = true) (hc : lawForC ⟨defs.map (·.name), consts⟩ (defs[f]'h) (ps ++ rest) j = some ((c1, i, ct), ca, c3, g))
    (hg : isGlob (kdOf (defs[f]'h)) g = true) (hgi : (defs.map (·.name))[gi]? = some g)
    (hb : ∀ xs pm code doc, xs.length = ps.length → bindArgs (Calls.docDef (defs[f]'h).name (defs[f]'h).params (defs[f]'h).body (defs[f]'h).scope pm code doc) ⟨xs, []⟩ = pure (ps.zip xs)) :
    LawForIs ⟨prog, w, mg, mb, ⟨defs.map (·.name), consts⟩, defs, own, sup⟩ f gi ps rest c1 i ct ca c3 := by
  obtain ⟨q, e1, hc⟩ := Option.bind_eq_some_iff.mp hc
  obtain ⟨c1', e2, hc⟩ := Option.bind_eq_some_iff.mp hc
  obtain ⟨ct', e3, hc⟩ := Option.bind_eq_some_iff.mp hc
  obtain ⟨i', e4, hc⟩ := Option.bind_eq_some_iff.mp hc
  obtain ⟨ca', e5, hc⟩ := Option.bind_eq_some_iff.mp hc
  obtain ⟨c3', e6, hc⟩ := Option.map_eq_some_iff.mp hc
  obtain ⟨xv, it, g0, as⟩ := q
  cases hc
  exact ⟨(defs[f]'h).name, defs[f]'h, 40, j, xv, it, _, as, by simp [h], by simp [h], hs, e1, e2, e3, e4, e5, e6, hg, hgi, hb⟩
end

open PySem PyProof.Rows PySem.SeqAt

noncomputable def nb1 : List CS := [.assign 2 (.prim .len [(.idx (.var 0) (.const (.int (0))))])]
noncomputable def nt1 : CE := .or (.not (.isin .list (.var 1))) (.cmp .NotEq (.prim .len [(.var 1)]) (.var 2))
noncomputable def nb2 : List CS := [.assign 2 (.prim .len [(.idx (.var 0) (.const (.int (0))))]), .ite nt1 [.raise ""] []]
noncomputable def nt2 (fi : Nat) : CE := .not (.prim .all [(.comp (.call fi [(.var 1), (.const (.int (0))), (.bin .Sub (.var 0) (.const (.int (1))))]) [] [2] 0 (.var 1))])
/-- what need_order turns down -/
structure BadOrd (n : Nat) (v : AV) : Prop where
  self : ∀ H, Ren [] H v v
  bad : (v.offX = true ∧ isInst .list v = false) ∨ (∃ vs, v = .fl vs ∧ vs.length ≤ smallN ∧ vs.length ≠ n) ∨
    ∃ vs w, v = .fl vs ∧ vs.length = n ∧ (∀ v ∈ vs, Pl v) ∧ (∀ H, ∀ v ∈ vs, Ren [] H v v) ∧ w ∈ vs ∧ isNum 0 ((n : Int) - 1) w = false
section
variable {P : PC} {l : Lv} {f fi : Nat} {ps rest : List Str} {ns : List Int} {ms : List Str} {K : Addr} {v : AV}
theorem need_bad (F1 : RaiseIs P f ps rest nb1 nt1 "BadOrder") (F2 : RaiseIs P f ps rest nb2 (nt2 fi) "BadOrder") (hp : ps.length = 2) (hr : rest.length = 1) (hk : 1 < l.k) (hq : l.q = true) (ho : P.own "BadOrder" K = some true) (hm : P.mg "BadOrder" = some (.ref K)) (hn : ns.length ≤ 30)
    (hi : ∀ v, Pl v → CallJ P ⟨l.k - 1, l.q⟩ fi [v, .int 0, .int ((ns.length : Int) - 1)] (fun r H => r = .bool (isNum 0 ((ns.length : Int) - 1) v) ∧ H = []) fun _ => False) (hb : BadOrd ns.length v) :
    CallX P l f [.tup [.fl (ns.map AV.int), .fl (ms.map AV.str)], v] K := by
  have hk' : 0 < l.k := Nat.lt_trans (by decide) hk
  have sn : (ns.map AV.int).length ≤ smallN := by rw [List.length_map]; exact Nat.le_trans hn (by decide)
  have el : (((ns.map AV.int).length : Nat) : Int) = (ns.length : Int) := by rw [List.length_map]
  rcases hb.bad with ⟨h1, h2⟩ | ⟨vs, rfl, h1, h2⟩ | ⟨vs, w, rfl, h1, h2, h3, h4, h5⟩
  · refine F1.call hk' hq (by simp [hp]) ho hm ?_
    rw [hr]
    unfold nb1
    (refine wpSs_cons.mpr ?_; tm_at "wps")
    refine ⟨hq, sn, ?_⟩
    unfold nt1
    refine wpSs_nil.mpr ?_
    tm_at "wps"
    refine offRng_to h1 ?_
    rw [h2]
    rfl
  · refine F1.call hk' hq (by simp [hp]) ho hm ?_
    rw [hr]
    unfold nb1
    (refine wpSs_cons.mpr ?_; tm_at "wps")
    refine ⟨hq, sn, ?_⟩
    unfold nt1
    refine wpSs_nil.mpr ?_
    tm_at "wps"
    refine ⟨hq, h1, ?_⟩
    show (!decide _) = true
    rw [el, decide_eq_false (show ¬ ((vs.length : Int) = (ns.length : Int)) from fun q => h2 (Int.ofNat.inj q))]
    rfl
  · refine F2.call hk' hq (by simp [hp]) ho hm ?_
    have sv : vs.length ≤ smallN := by rw [h1]; exact Nat.le_trans hn (by decide)
    rw [hr]
    unfold nb2
    (refine wpSs_cons.mpr ?_; tm_at "wps")
    refine ⟨hq, sn, ?_⟩
    rw [el]
    refine wpSs_cons.mpr ?_
    unfold nt1
    tm_at "wps"
    refine ⟨fun loc H => loc = [some (.tup [.fl (ns.map AV.int), .fl (ms.map AV.str)]), some (.fl vs), some (.int ns.length)] ∧ H = [], ?_, hq, sv, ?_⟩
    · rintro loc H ⟨rfl, rfl⟩
      unfold nt2
      refine wpSs_nil.mpr ?_
      tm_at "wps"
      refine ⟨hq, hq, _, _, _, rfl, sv, Rens.self (h3 _), .cons rfl (.int _) .nil, comp_map (fun v => .bool (isNum 0 ((ns.length : Int) - 1) v)) (fun x hx k hk => opt_bind0 hk) ?_ ?_⟩
      · intro x hx k hk'
        refine opt_bind0 ⟨Nat.sub_pos_of_lt hk, ?_⟩
        tm_at "wps"
        refine CallP.plain (.cons (h3 _ x hx) (.cons (.int _) (.cons (.int _) .nil))) (hi x (h2 x hx)) ?_
        rintro v Hc ⟨rfl, rfl⟩
        exact ⟨_, .bool _, .inr (.bool _), hk'⟩
      · refine ⟨vs.map (isNum 0 ((ns.length : Int) - 1)), by rw [List.map_map]; rfl, ?_⟩
        rw [List.all_map]
        have e : vs.all (id ∘ isNum 0 ((ns.length : Int) - 1)) = false := by
          rw [List.all_eq_false]
          exact ⟨w, h4, by show ¬ (isNum 0 _ w = true); rw [h5]; exact Bool.noConfusion⟩
        rw [e]
        rfl
    · rw [h1]
      refine brk_not (fun h => absurd rfl h) fun _ => Cut.here ⟨rfl, rfl⟩

theorem faults_bad (F : FirstIs P f ps rest (fi, [.var 0, .var 1])) (hp : ps.length = 2) (hk : 0 < l.k) (hv : ∀ H, Ren [] H v v) (hx : CallX P ⟨l.k - 1, l.q⟩ fi [.tup [.fl (ns.map AV.int), .fl (ms.map AV.str)], v] K) : CallX P l f [.tup [.fl (ns.map AV.int), .fl (ms.map AV.str)], v] K :=
  F.call hk (by simp [hp]) ⟨_, .cons rens2 (.cons (hv _) .nil), hx⟩
theorem lies_bad (F : RetCmpIs P f ps rest (fi, [.var 0, .var 1])) (hp : ps.length = 2) (hk : 0 < l.k) (hv : ∀ H, Ren [] H v v) (hx : CallX P ⟨l.k - 1, l.q⟩ fi [.tup [.fl (ns.map AV.int), .fl (ms.map AV.str)], v] K) : CallX P l f [.tup [.fl (ns.map AV.int), .fl (ms.map AV.str)], v] K :=
  F.call hk (by simp [hp]) ⟨_, .cons rens2 (.cons (hv _) .nil), hx⟩
theorem over_bad {z : Int} (F : FirstIs P f ps rest (fi, [.var 0, .var 1])) (hp : ps.length = 3) (hk : 0 < l.k) (hv : ∀ H, Ren [] H v v) (hx : CallX P ⟨l.k - 1, l.q⟩ fi [.tup [.fl (ns.map AV.int), .fl (ms.map AV.str)], v] K) : CallX P l f [.tup [.fl (ns.map AV.int), .fl (ms.map AV.str)], v, .int z] K :=
  F.call hk (by simp [hp]) ⟨_, .cons rens2 (.cons (hv _) .nil), hx⟩
noncomputable def ch05 : List (CE × Nat × List CE) := [(.cmp .Eq (.var 2) (.const (.int 0)), 3, [.var 0, .var 1]), (.cmp .Eq (.var 2) (.const (.int 1)), 9, [.var 0, .var 1]), (.cmp .Eq (.var 2) (.const (.int 2)), 10, [.var 0, .var 1])]
theorem refused05 {way : Nat} (F : TryChainIs P 17 ["_law_strip_here", "_law_thing", "_law_way"] ["_law_error"] "FoldError" "_law_error" (.call 16 [.var 0, .const (.str "order")]) ch05 (11, [.var 0, .var 1, .const (.int 0)])) (hk : 1 < l.k) (hz : P.mg "FoldError" = some (.ref P.sup)) (ho : P.own "BadOrder" K = some true)
    (hv : ∀ H, Ren [] H v v) (x3 : CallX P ⟨l.k - 1, l.q⟩ 3 [.tup [.fl (ns.map AV.int), .fl (ms.map AV.str)], v] K) (x9 : CallX P ⟨l.k - 1, l.q⟩ 9 [.tup [.fl (ns.map AV.int), .fl (ms.map AV.str)], v] K) (x10 : CallX P ⟨l.k - 1, l.q⟩ 10 [.tup [.fl (ns.map AV.int), .fl (ms.map AV.str)], v] K)
    (x11 : CallX P ⟨l.k - 1, l.q⟩ 11 [.tup [.fl (ns.map AV.int), .fl (ms.map AV.str)], v, .int 0] K) (hs : CallJ P ⟨l.k - 1, false⟩ 16 [.exc K, .str "order"] (fun v _ => v = .bool true) fun _ => False) :
    CallS P l 17 [.tup [.fl (ns.map AV.int), .fl (ms.map AV.str)], v, .int way] true := by
  obtain ⟨kd, tb, n, m, F, hc⟩ := F
  refine F.call (Nat.lt_trans (by decide) hk) rfl hz ho (chainX_ok m tb _ _ hc ?_) ?_
  · refine ⟨decide ((way : Int) = 0), ⟨rfl, rfl⟩, brk (fun _ => ⟨_, .cons rens2 (.cons (hv _) .nil), x3⟩) fun _ => ?_⟩
    refine ⟨decide ((way : Int) = 1), ⟨rfl, rfl⟩, brk (fun _ => ⟨_, .cons rens2 (.cons (hv _) .nil), x9⟩) fun _ => ?_⟩
    refine ⟨decide ((way : Int) = 2), ⟨rfl, rfl⟩, brk (fun _ => ⟨_, .cons rens2 (.cons (hv _) .nil), x10⟩) fun _ => ?_⟩
    exact ⟨_, .cons rens2 (.cons (hv _) (.cons (.int _) .nil)), x11⟩
  · refine ⟨Nat.sub_pos_of_lt hk, ?_⟩
    tm_at "wps"
    exact CallP.plain (.cons (.exc _) (.cons (.str _) .nil)) hs fun v Hc q => by subst q; rfl
end

open PySem PyProof.Rows PySem.SeqAt

noncomputable def truE (a : Int) (b : Bool) : CE := .comp (.idx (.lst [(.var 0), (.const (.bool b))]) (.prim .int [(.cmp .Eq (.var 0) (.const (.int a)))])) [] [] 0 (.var 0)
noncomputable def od1 : List CS := [
  .assign 2 (.prim .len [(.var 0)]),
  .assign 3 (.bin .Mod (.bin .FloorDiv (.var 1) (.const (.int (15)))) (.var 2)),
  .assign 4 (.idx (.lst [(.var 2), (.neg (.const (.int (1)))), (.const .none), (.const (.str "0")), (.bin .Pow (.const (.int (10))) (.const (.int (20)))), (.lst [(.const (.int (0)))])]) (.bin .Mod (.bin .FloorDiv (.var 1) (.const (.int (450)))) (.const (.int (6))))),
  .assign 5 (truE 0 false),
  .ite (.cmp .Gt (.var 2) (.const (.int (1)))) [.assign 5 (truE 1 true)] []]
noncomputable def od2 : List CS := [
  .assign 6 (.lst [(.bin .Add (.var 0) (.lst [(.var 2)])), (.slc (.var 0) (.const .none) (.neg (.const (.int (1)))) (.const .none)), (.bin .Add (.var 0) (.slc (.var 0) (.const .none) (.const (.int (1))) (.const .none))), (.prim .tuple [(.var 0)]), (.const .none), (.const (.str "order")), (.const (.int (5))), (.dct [] []), (.lst []), (.var 5)]),
  .assign 6 (.bin .Add (.var 6) (.lst [(.bin .Add (.bin .Add (.slc (.var 0) (.const .none) (.var 3) (.const .none)) (.lst [(.var 4)])) (.slc (.var 0) (.bin .Add (.var 3) (.const (.int (1)))) (.const .none) (.const .none))), (.lst [(.var 0)]), (.comp (.bin .Add (.var 0) (.const (.int (1)))) [] [] 0 (.var 0)), (.bin .Add (.var 0) (.lst [(.const .none)]))])),
  .ret (.idx (.bin .Add (.var 6) (.lst [(.bin .Mult (.lst [(.const .none)]) (.var 2))])) (.bin .Mod (.var 1) (.const (.int (15)))))]
noncomputable def cs_odd : List CS := od1 ++ od2
structure OddW (n : Nat) (w : AV) : Prop where
  pl : Pl w
  rn : ∀ H, Ren [] H w w
  no : isNum 0 ((n : Int) - 1) w = false
structure TruW (n : Nat) (T : List AV) : Prop where
  len : T.length = n
  pl : ∀ v ∈ T, Pl v
  rn : ∀ H, ∀ v ∈ T, Ren [] H v v
  no : ∃ w ∈ T, isNum 0 ((n : Int) - 1) w = false
noncomputable def truth (a : Int) (b : Bool) : AV → AV
  | .int i => if i = a then .bool b else .int i
  | v => v
theorem truW {L : List Int} {n : Nat} {a : Int} {b : Bool} (hl : L.length = n) (ha : a ∈ L) : TruW n ((L.map AV.int).map (truth a b)) := by
  have hm : ∀ v ∈ (L.map AV.int).map (truth a b), v = .bool b ∨ ∃ i, v = .int i := fun v hv => by
    obtain ⟨u, hu, rfl⟩ := List.mem_map.mp hv
    obtain ⟨i, _, rfl⟩ := List.mem_map.mp hu
    unfold truth
    dsimp only
    split
    · exact .inl rfl
    · exact .inr ⟨i, rfl⟩
  refine ⟨by rw [List.length_map, List.length_map, hl], fun v hv => ?_, fun H v hv => ?_, .bool b, ?_, rfl⟩
  · rcases hm v hv with rfl | ⟨i, rfl⟩ <;> trivial
  · rcases hm v hv with rfl | ⟨i, rfl⟩
    · exact .bool _
    · exact .int _
  · refine List.mem_map.mpr ⟨.int a, List.mem_map.mpr ⟨a, ha, rfl⟩, ?_⟩
    unfold truth
    simp
section
variable {P : PC} {l : Lv} {X : Str → Prop} {loc : Loc} {H : AH} {L : List Int} {Q : AV → AH → Prop} {Qn : Loc → AH → Prop} {Qr : AV → AH → Prop} {Qx : Str → Loc → AH → Prop} {cell pos : Int} {n : Nat}
theorem truE_ok {a : Int} {b : Bool} (hq : l.q = true) (h0 : loc[0]?.join = some (.fl (L.map AV.int))) (hl : L.length ≤ smallN) (h : Q (.ref H.length) (H ++ [(L.map AV.int).map (truth a b)])) : wpE P l X (truE a b) loc H Q := by
  unfold truE
  refine ⟨hq, ?_⟩
  tm_at "wps"
  rw [h0]
  refine ⟨_, _, _, rfl, by rw [List.length_map]; exact hl, Rens.ints L, .nil, comp_map (truth a b) (fun x hx k hk => opt_bind0 hk) ?_ h⟩
  intro x hx k hk'
  obtain ⟨i, _, rfl⟩ := List.mem_map.mp hx
  refine opt_bind0 ⟨by decide, hq, ?_⟩
  tm_at "wps"
  by_cases hi : i = a
  · rw [decide_eq_true hi]
    rw [show truth a b (.int i) = .bool b from if_pos hi] at hk'
    exact i_at (vs := [.int i, .bool b]) rfl (by show 2 ≤ smallN; decide) (by decide) (by show (1 : Int) < 2; decide) (w := .bool b) rfl ⟨_, .bool _, .inr (.bool _), hk'⟩
  · rw [decide_eq_false hi]
    rw [show truth a b (.int i) = .int i from if_neg hi] at hk'
    exact i_at (vs := [.int i, .bool b]) rfl (by show 2 ≤ smallN; decide) (by decide) (by show (0 : Int) < 2; decide) (w := .int i) rfl ⟨_, .int _, .inr (.int _), hk'⟩
noncomputable def odL (L : List Int) (cell at_ : Int) (w : AV) (T : List AV) : Loc := [some (.fl (L.map AV.int)), some (.int cell), some (.int L.length), some (.int at_), some w, some (.fl T), none]
noncomputable def odR (L : List Int) (cell : Int) (loc : Loc) (H : AH) : Prop := ∃ (at_ : Int) (w : AV) (T : List AV), 0 ≤ at_ ∧ at_ < L.length ∧ OddW L.length w ∧ TruW L.length T ∧ loc = odL L cell at_ w T ∧ H = []
theorem mem_rngI {n : Nat} {i : Nat} (h : i < n) : (i : Int) ∈ rngI n := by
  unfold rngI
  exact List.mem_map.mpr ⟨i, List.mem_range.mpr h, rfl⟩
theorem od1_ok (hq : l.q = true) (hL : L.Perm (rngI L.length)) (h0 : 0 < L.length) (h1 : L.length ≤ 30) (h : ∀ loc H, odR L cell loc H → Qn loc H) : wpSs P l od1 [some (.fl (L.map AV.int)), some (.int cell), none, none, none, none, none] [] Qn Qr Qx := by
  have sl : (L.map AV.int).length ≤ smallN := by rw [List.length_map]; exact Nat.le_trans h1 (by decide)
  have sL : L.length ≤ smallN := Nat.le_trans h1 (by decide)
  have hm := mod_in (cell / 15) (m := (L.length : Int)) (by omega)
  have hm2 := mod_in (cell / 450) (m := 6) (by decide)
  unfold od1
  (refine wpSs_cons.mpr ?_; tm_at "wps")
  rw [List.length_map]
  refine ⟨hq, sL, ?_⟩
  (refine wpSs_cons.mpr ?_; tm_at "wps")
  refine ⟨⟨by decide, by decide⟩, by omega, ?_⟩
  (refine wpSs_cons.mpr ?_; tm_at "wps")
  refine ⟨⟨by decide, by decide, by decide⟩, by decide, by decide, ⟨by decide, by decide⟩, by decide, i_any rfl (by show 6 ≤ smallN; decide) hm2.1 hm2.2 fun w hw => ?_⟩
  have hw' : ∃ w', (∀ H : AH, H[0]? = some [.int 0] → Ren [] H w w') ∧ OddW L.length w' := by
    simp only [List.mem_cons, List.not_mem_nil, or_false] at hw
    have big : ¬ ((10 : Int) ^ Int.toNat 20 ≤ (L.length : Int) - 1) := by
      have : (10 : Int) ^ Int.toNat 20 = 100000000000000000000 := by decide +kernel
      omega
    rcases hw with rfl | rfl | rfl | rfl | rfl | rfl
    · exact ⟨_, fun _ _ => .int _, trivial, fun _ => .int _, by simp [isNum]; omega⟩
    · exact ⟨_, fun _ _ => .int _, trivial, fun _ => .int _, by simp [isNum]⟩
    · exact ⟨_, fun _ _ => .none, trivial, fun _ => .none, rfl⟩
    · exact ⟨_, fun _ _ => .str _, (by decide +kernel : PyData.strOk "0" = true), fun _ => .str _, rfl⟩
    · exact ⟨_, fun _ _ => .int _, trivial, fun _ => .int _, (show (decide (0 ≤ (10 : Int) ^ Int.toNat 20) && decide ((10 : Int) ^ Int.toNat 20 ≤ (L.length : Int) - 1)) = false by rw [decide_eq_false big, Bool.and_false])⟩
    · exact ⟨.fl [.int 0], fun _ h => .frz (fun h => nomatch h) h (.cons (.int _) .nil), trivial, fun _ => .fl (.cons (.int _) .nil), rfl⟩
  clear hw
  obtain ⟨w', w0, w1⟩ := hw'
  refine wpSs_cons.mpr ?_
  rw [q_assign]
  refine truE_ok hq rfl sL ?_
  refine wpSs_cons.mpr ?_
  tm_at "wps"
  refine ⟨odR L cell, h, brk (fun h2 => ?_) fun _ => ?_⟩
  · refine wpSs_cons.mpr ?_
    rw [q_assign]
    refine truE_ok hq rfl sL ?_
    refine ⟨_, _, .inr ⟨[], RenH.nil, .keep (.fl (Rens.ints _)) (.keep (.int _) (.keep (.int _) (.keep (.int _) (.keep (w0 _ rfl) (.keep (.frz (fun h => nomatch h) rfl (Rens.self ?_)) (.drop .nil))))))⟩, _, w', _, hm.1, hm.2, w1, truW (a := 1) (b := true) rfl (hL.mem_iff.mpr (mem_rngI (i := 1) (by omega))), rfl, rfl⟩
    exact (truW (n := L.length) (a := 1) (b := true) rfl (hL.mem_iff.mpr (mem_rngI (i := 1) (by omega)))).rn _
  · refine ⟨_, _, .inr ⟨[], RenH.nil, .keep (.fl (Rens.ints _)) (.keep (.int _) (.keep (.int _) (.keep (.int _) (.keep (w0 _ rfl) (.keep (.frz (fun h => nomatch h) rfl (Rens.self ?_)) (.drop .nil))))))⟩, _, w', _, hm.1, hm.2, w1, truW (a := 0) (b := false) rfl (hL.mem_iff.mpr (mem_rngI (i := 0) h0)), rfl, rfl⟩
    exact (truW (n := L.length) (a := 0) (b := false) rfl (hL.mem_iff.mpr (mem_rngI (i := 0) h0))).rn _
theorem hz_a {n : Nat} (h : 0 < n) : min (n - 1) n ≠ n := by omega
theorem hz_b {n : Nat} (h1 : n ≤ 30) : n + min (Int.toNat 1) n ≤ 60 := by omega
theorem hz_b' {n : Nat} (h : 0 < n) : n + min (Int.toNat 1) n ≠ n := by show n + min 1 n ≠ n; omega
theorem hz_c {a : Int} {n : Nat} (a0 : 0 ≤ a) (a1 : a < n) : min a.toNat n + 1 + (n - (a + 1).toNat) = n := by omega
theorem hz_d {n : Nat} (h : 0 < n) : ¬ (((n - 1 : Nat) : Int) + 1 ≤ (n : Int) - 1) := by omega
theorem hz_m {n : Nat} : clipAt n (-1) = n - 1 := by unfold clipAt; split <;> omega
theorem sl_init {o : AV} {vs : List AV} (e : o.items? H = some vs) (hl : vs.length ≤ smallN) (h : Q (.ref H.length) (H ++ [vs.take (vs.length - 1)])) : opSlc o .none (.int (-1)) .none H Q := by
  refine opSlc_l e ⟨vs, none, some (-1), none, e, hl, rfl, rfl, rfl, by simp, ?_⟩
  rw [slPick_plain]
  have e2 : clipAt vs.length (-1) = vs.length - 1 := hz_m
  simp only [Option.elim_none, Option.elim_some, List.drop_zero, Nat.sub_zero]
  rw [e2]
  exact h
noncomputable def inc : AV → AV
  | .int i => .int (i + 1)
  | v => v
theorem bad_len {vs : List AV} (rn : ∀ H, ∀ v ∈ vs, Ren [] H v v) (h : vs.length ≤ smallN) (hn : vs.length ≠ n) : BadOrd n (.fl vs) := ⟨fun H => .fl (Rens.self (rn H)), .inr (.inl ⟨vs, rfl, h, hn⟩)⟩
theorem bad_item {vs : List AV} {w : AV} (rn : ∀ H, ∀ v ∈ vs, Ren [] H v v) (h : vs.length = n) (pl : ∀ v ∈ vs, Pl v) (hw : w ∈ vs) (hn : isNum 0 ((n : Int) - 1) w = false) : BadOrd n (.fl vs) := ⟨fun H => .fl (Rens.self (rn H)), .inr (.inr ⟨vs, w, rfl, h, pl, rn, hw, hn⟩)⟩
noncomputable def GivesO (n : Nat) (v : AV) (H : AH) : Prop := ∃ v', Ren [] H v v' ∧ BadOrd n v'
theorem none_rn {k : Nat} (H : AH) : ∀ v ∈ (List.replicate k [AV.none]).flatten, Ren [] H v v := fun v hv => by
  obtain ⟨l, h1, h2⟩ := List.mem_flatten.mp hv
  rw [List.eq_of_mem_replicate h1, List.mem_singleton] at h2
  rw [h2]; exact .none
theorem none_pl {k : Nat} : ∀ v ∈ (List.replicate k [AV.none]).flatten, Pl v := fun v hv => by
  obtain ⟨l, h1, h2⟩ := List.mem_flatten.mp hv
  rw [List.eq_of_mem_replicate h1, List.mem_singleton] at h2
  rw [h2]; trivial
theorem app_rn {A B : List AV} {H : AH} (hA : ∀ v ∈ A, Ren [] H v v) (hB : ∀ v ∈ B, Ren [] H v v) : ∀ v ∈ A ++ B, Ren [] H v v := fun v hv => (List.mem_append.mp hv).elim (hA v) (hB v)
theorem one_rn {w : AV} {H : AH} (h : Ren [] H w w) : ∀ v ∈ [w], Ren [] H v v := fun v hv => by rw [List.mem_singleton.mp hv]; exact h
theorem tk_rn {L : List Int} {k : Nat} (H : AH) : ∀ v ∈ (L.map AV.int).take k, Ren [] H v v := fun v hv => rn_ints H v (List.mem_of_mem_take hv)
theorem dr_rn {L : List Int} {k : Nat} (H : AH) : ∀ v ∈ (L.map AV.int).drop k, Ren [] H v v := fun v hv => rn_ints H v (List.mem_of_mem_drop hv)
theorem od3_ok {at_ : Int} {w u : AV} {T : List AV} (hL : L.Perm (rngI L.length)) (h0 : 0 < L.length) (h1 : L.length ≤ 30) (a0 : 0 ≤ at_) (a1 : at_ < L.length) (W : OddW L.length w) (TW : TruW L.length T)
    (g1 : H[1]? = some (L.map AV.int ++ [.int L.length])) (g2 : H[2]? = some ((L.map AV.int).take ((L.map AV.int).length - 1))) (g4 : H[4]? = some (L.map AV.int ++ (L.map AV.int).take (Int.toNat 1))) (g5 : H[5]? = some []) (g11 : H[11]? = some ((L.map AV.int).take at_.toNat ++ [w] ++ (L.map AV.int).drop (at_ + 1).toNat))
    (g12 : H[12]? = some [.fl (L.map AV.int)]) (g13 : H[13]? = some ((L.map AV.int).map inc)) (g15 : H[15]? = some (L.map AV.int ++ [.none])) (g19 : H[19]? = some (List.replicate L.length [AV.none]).flatten)
    (hu : u ∈ [AV.ref 1, AV.ref 2, AV.ref 4, AV.tup (L.map AV.int), AV.none, AV.str "order", AV.int 5, AV.dict [] [], AV.ref 5, AV.fl T, AV.ref 11, AV.ref 12, AV.ref 13, AV.ref 15, AV.ref 19]) : GivesO L.length u H := by
  have ll : (L.map AV.int).length = L.length := List.length_map _
  have frz : ∀ {i : Nat} {vs : List AV}, H[i]? = some vs → (∀ H, ∀ v ∈ vs, Ren [] H v v) → ((∀ H, ∀ v ∈ vs, Ren [] H v v) → BadOrd L.length (.fl vs)) → GivesO L.length (.ref i) H := fun g r b => ⟨_, .frz (fun h => nomatch h) g (Rens.self (r H)), b r⟩
  simp only [List.mem_cons, List.not_mem_nil, or_false] at hu
  rcases hu with rfl | rfl | rfl | rfl | rfl | rfl | rfl | rfl | rfl | rfl | rfl | rfl | rfl | rfl | rfl
  · exact frz g1 (fun H => app_rn (rn_ints H) (one_rn (.int _))) fun r => bad_len r (by rw [List.length_append, ll]; exact Nat.le_trans (Nat.add_le_add_right h1 1) (by decide)) (by rw [List.length_append, ll]; exact Nat.succ_ne_self _)
  · exact frz g2 tk_rn fun r => bad_len r (by rw [List.length_take, ll]; exact Nat.le_trans (Nat.min_le_right _ _) (Nat.le_trans h1 (by decide))) (by rw [List.length_take, ll]; exact hz_a h0)
  · exact frz g4 (fun H => app_rn (rn_ints H) (tk_rn H)) fun r => bad_len r (by rw [List.length_append, List.length_take, ll]; exact Nat.le_trans (hz_b h1) (by decide)) (by rw [List.length_append, List.length_take, ll]; exact hz_b' h0)
  · exact ⟨_, .tup (Rens.ints _), fun _ => .tup (Rens.ints _), .inl ⟨rfl, rfl⟩⟩
  · exact ⟨_, .none, fun _ => .none, .inl ⟨rfl, rfl⟩⟩
  · exact ⟨_, .str _, fun _ => .str _, .inl ⟨rfl, rfl⟩⟩
  · exact ⟨_, .int _, fun _ => .int _, .inl ⟨rfl, rfl⟩⟩
  · exact ⟨_, .dict .nil, fun _ => .dict .nil, .inl ⟨rfl, rfl⟩⟩
  · exact frz g5 (fun _ _ h => nomatch h) fun r => bad_len r (by decide) (Nat.ne_of_lt h0)
  · obtain ⟨w', hw', hn'⟩ := TW.no
    exact ⟨_, .fl (Rens.self (TW.rn _)), bad_item TW.rn TW.len TW.pl hw' hn'⟩
  · refine frz g11 (fun H => app_rn (app_rn (tk_rn H) (one_rn (W.rn H))) (dr_rn H)) fun r => bad_item r ?_ (all_app (fun v hv => pl_ints v (List.mem_of_mem_take hv)) W.pl fun v hv => pl_ints v (List.mem_of_mem_drop hv)) (List.mem_append_left _ (List.mem_append_right _ (.head _))) W.no
    rw [List.length_append, List.length_append, List.length_take, List.length_drop, ll]
    exact hz_c a0 a1
  · by_cases h2 : L.length = 1
    · exact frz g12 (fun H => one_rn (.fl (Rens.ints _))) fun r => bad_item r h2.symm (fun v hv => by rw [List.mem_singleton.mp hv]; trivial) (.head _) rfl
    · exact frz g12 (fun H => one_rn (.fl (Rens.ints _))) fun r => bad_len r (by show 1 ≤ smallN; decide) fun q => h2 q.symm
  · have hi : ∀ v ∈ (L.map AV.int).map inc, ∃ i, v = .int i := fun v hv => by
      obtain ⟨u, hu, rfl⟩ := List.mem_map.mp hv
      obtain ⟨i, _, rfl⟩ := List.mem_map.mp hu
      exact ⟨i + 1, rfl⟩
    have hin : ((L.length - 1 : Nat) : Int) ∈ L := hL.mem_iff.mpr (mem_rngI (Nat.sub_lt h0 Nat.one_pos))
    refine frz g13 (fun H v hv => by obtain ⟨i, rfl⟩ := hi v hv; exact .int i) fun r => bad_item (w := .int (((L.length - 1 : Nat) : Int) + 1)) r (by rw [List.length_map, ll]) (fun v hv => by obtain ⟨i, rfl⟩ := hi v hv; trivial) (List.mem_map.mpr ⟨_, List.mem_map.mpr ⟨_, hin, rfl⟩, rfl⟩) ?_
    show (decide (0 ≤ ((L.length - 1 : Nat) : Int) + 1) && decide (((L.length - 1 : Nat) : Int) + 1 ≤ (L.length : Int) - 1)) = false
    rw [decide_eq_false (hz_d h0), Bool.and_false]
  · exact frz g15 (fun H => app_rn (rn_ints H) (one_rn .none)) fun r => bad_len r (by rw [List.length_append, ll]; exact Nat.le_trans (Nat.add_le_add_right h1 1) (by decide)) (by rw [List.length_append, ll]; exact Nat.succ_ne_self _)
  · refine frz g19 none_rn fun r => bad_item (w := .none) r (by simp) none_pl (List.mem_flatten.mpr ⟨[.none], ?_, .head _⟩) rfl
    exact List.mem_replicate.mpr ⟨Nat.ne_of_gt h0, rfl⟩
theorem od2_ok {at_ : Int} {w : AV} {T : List AV} (hq : l.q = true) (hL : L.Perm (rngI L.length)) (h0 : 0 < L.length) (h1 : L.length ≤ 30) (a0 : 0 ≤ at_) (a1 : at_ < L.length) (W : OddW L.length w) (TW : TruW L.length T) : wpSs P l od2 (odL L cell at_ w T) [] Qn (GivesO L.length) Qx := by
  have l1 : (L.map AV.int).length ≤ 30 := by rw [List.length_map]; exact h1
  have sl : (L.map AV.int).length ≤ smallN := Nat.le_trans l1 (by decide)
  have t1 : ((L.map AV.int).take at_.toNat).length ≤ 30 := take_le l1
  have t2 : ((L.map AV.int).drop (at_ + 1).toNat).length ≤ 30 := drop_le l1
  have t3 : ((L.map AV.int).take (Int.toNat 1)).length ≤ 30 := take_le l1
  unfold od2 odL
  (refine wpSs_cons.mpr ?_; tm_at "wps")
  refine ⟨by decide, cat_n l1 (by decide), sl_init rfl sl ?_⟩
  tm_at "wps"
  refine sl_upto rfl sl (by decide) ?_
  tm_at "wps"
  refine ⟨cat_le l1 t3 (by decide), hq, sl, by decide, by decide, ?_⟩
  (refine wpSs_cons.mpr ?_; tm_at "wps")
  refine sl_upto rfl sl a0 ?_
  tm_at "wps"
  refine ⟨by decide, cat_n t1 (by decide), sl_from rfl sl (Int.add_nonneg a0 (by decide)) ?_⟩
  tm_at "wps"
  refine ⟨cat_le (app_le t1 (Nat.le_refl 1)) t2 (by decide), by decide, hq, _, _, _, rfl, sl, Rens.ints _, .nil, comp_map inc (fun x hx k hk => opt_bind0 hk) ?_ ?_⟩
  · intro x hx k hk'
    obtain ⟨i, _, rfl⟩ := List.mem_map.mp hx
    exact opt_bind0 ⟨_, .int _, .inr (.int _), hk'⟩
  refine ⟨by decide, cat_n l1 (by decide), by decide, by decide, ?_⟩
  (refine wpSs_cons.mpr ?_; tm_at "wps")
  have hm := mod_in cell (m := 15) (by decide)
  refine ⟨by decide, ⟨Int.natCast_nonneg _, by rw [Int.toNat_natCast, Nat.one_mul]; exact Nat.le_trans h1 (by decide), Int.ofNat_le.mpr (Nat.le_trans h1 (by decide))⟩, by decide, by decide, by decide, i_any rfl (by show 15 ≤ smallN; decide) hm.1 hm.2 fun u hu => ?_⟩
  rw [Int.toNat_natCast]
  exact od3_ok hL h0 h1 a0 a1 W TW rfl rfl rfl rfl rfl rfl rfl rfl rfl hu
theorem odd_ok {f : Nat} {ps rest : List Str} (F : FnIs P f ps rest cs_odd) (hp : ps.length = 2) (hr : rest.length = 5) (hk : 0 < l.k) (hq : l.q = true) (hL : L.Perm (rngI L.length)) (h0 : 0 < L.length) (h1 : L.length ≤ 30) : CallJ P l f [.fl (L.map AV.int), .int cell] (fun v H => H = [] ∧ BadOrd L.length v) X := by
  refine CallJ.ren (CallJ.mono (Q := GivesO L.length) (X := X) ?_ fun v H h => ?_)
  · refine F.call hk (by simp [hp]) ?_
    rw [hr]
    refine od1_ok (l := ⟨l.k - 1, l.q⟩) (Qn := fun loc H => wpSs P ⟨l.k - 1, l.q⟩ od2 loc H _ _ _) hq hL h0 h1 fun loc H h => ?_
    obtain ⟨at_, w, T, a0, a1, W, TW, rfl, rfl⟩ := h
    exact od2_ok hq hL h0 h1 a0 a1 W TW
  · obtain ⟨v', r, t⟩ := h
    exact ⟨[], [], v', RenH.nil, r, rfl, t⟩
end

open PySem PyProof.Rows PySem.SeqAt
noncomputable def ins05 : CS := .mut .insert (.var 2) [(.bin .Mod (.bin .Add (.call 12 [(.var 0), (.bin .Add (.const (.int (18))) (.bin .Mod (.var 3) (.const (.int (16)))))]) (.bin .Mult (.const (.int (5))) (.var 3))) (.bin .Add (.var 3) (.const (.int (1))))), (.var 3)]
noncomputable def c05_1 : List CS := [
  .assign 1 (.call 15 [(.var 0)]),
  .assign 2 (.lst []),
  .for1 3 (.prim .range [(.prim .len [(.idx (.var 1) (.const (.int (0))))])]) [ins05],
  .assign 4 (.call 18 [(.var 2), (.call 12 [(.var 0), (.const (.int (16)))])])]
noncomputable def c05_t : CE := .prim .range [(.const (.int (4)))]
noncomputable def c05_a : List CE := [.var 1, .var 4, .var 5]
noncomputable def c05_3 : List CS := [
  .ret (.and (.cmp .Is (.call 3 [(.var 1), (.var 2)]) (.const (.bool true))) (.isin .list (.call 9 [(.var 1), (.var 2)])))]
structure C05 (P : PC) (l : Lv) (X : Str → Prop) (sc : List Int) : Prop where
  cell : ∀ j : Int, 0 ≤ j → j < 100000 → CallJ P l 12 [.fl (sc.map AV.int), .int j] IsCell X
  left : CallJ P l 15 [.fl (sc.map AV.int)] (GivesStrip 2000) X
  odd : ∀ (L : List Int) (c : Int), L.Perm (rngI L.length) → 0 < L.length → L.length ≤ 30 → CallJ P l 18 [.fl (L.map AV.int), .int c] (fun v H => H = [] ∧ BadOrd L.length v) X
  refused : ∀ (ns : List Int) (ms : List Str) (v : AV) (k : Nat), StripIs 2000 ns ms → BadOrd ns.length v → CallS P l 17 [stV ns ms, v, .int k] true
  need : ∀ (ns : List Int) (ms : List Str) (L : List Int), StripIs 2000 ns ms → L.Perm (rngI ns.length) → CallJ P l 3 [stV ns ms, .fl (L.map AV.int)] (fun v H => v = .bool true ∧ H = []) X
  ft : ∀ (ns : List Int) (ms : List Str) (L : List Int), StripIs 2000 ns ms → L.Perm (rngI ns.length) → CallJ P l 9 [stV ns ms, .fl (L.map AV.int)] (fun v H => v = .ref 0 ∧ H = [ftA ns ms L]) X
noncomputable def l05 (sc ns : List Int) (ms : List Str) (o : AV) (a b c : Option AV) : Loc := [some (.fl (sc.map AV.int)), some (stV ns ms), some o, a, b, c]
noncomputable def J05 (sc : List Int) (loc : Loc) (H : AH) : Prop := ∃ (ns : List Int) (ms : List Str) (L : List Int) (v : AV) (a b : Option AV), StripIs 2000 ns ms ∧ L.Perm (rngI ns.length) ∧ BadOrd ns.length v ∧ loc = l05 sc ns ms (.fl (L.map AV.int)) a (some v) b ∧ H = []
/-- the order that is being built, and at the end frozen -/
noncomputable def O05 (sc ns : List Int) (ms : List Str) (k : Nat) (loc : Loc) (H : AH) : Prop := ∃ (o : Option AV) (L : List Int), L.Perm (rngI k) ∧ ((k < ns.length ∧ loc = l05 sc ns ms (.ref 0) o none none ∧ H = [L.map AV.int]) ∨ (k = ns.length ∧ loc = l05 sc ns ms (.fl (L.map AV.int)) o none none ∧ H = []))
section
variable {P : PC} {l : Lv} {sc ns : List Int} {ms : List Str} {L : List Int} {Qr : AV → AH → Prop} {K Qn : Loc → AH → Prop} {Qx : Str → Loc → AH → Prop} {k : Nat} {it : AV}
theorem ins05_ok (hk : 0 < l.k) (hkn : k < 30) (C : C05 P l (fun _ => False) sc) (hL : L.Perm (rngI k)) (h : ∀ L' : List Int, L'.Perm (rngI (k + 1)) → K (l05 sc ns ms (.ref 0) (some (.int k)) none none ++ [some it]) [L'.map AV.int]) :
    wpSs P l [ins05] (l05 sc ns ms (.ref 0) (some (.int k)) none none ++ [some it]) [L.map AV.int] K Qr (fun _ _ _ => False) := by
  have hLl : L.length = k := by rw [hL.length_eq, rngI_len]
  unfold ins05 l05
  (refine wpSs_cons.mpr ?_; tm_at "wps")
  refine ⟨hk, by decide, call_cell C.cell (by omega) (by omega) fun c hc0 hc1 => ?_⟩
  tm_at "wps"
  have hm := or_mod1 (d := k) (c + 5 * (k : Int))
  refine ⟨.inr (by decide), by omega, _, _, _, rfl, rfl, m_ins (by unfold smallN; omega) hm.1 (by have := hm.2; omega) (by have := hm.2; omega), (fun _ e => nomatch e), ?_⟩
  exact h _ (ins_perm hL rfl)
theorem for05 (hk : 0 < l.k) (hq : l.q = true) (C : C05 P l (fun _ => False) sc) (hS : StripIs 2000 ns ms) (h : ∀ (o : Option AV) (L : List Int), L.Perm (rngI ns.length) → Qn (l05 sc ns ms (.fl (L.map AV.int)) o none none) []) :
    wpS P l (.for1 3 (.prim .range [(.prim .len [(.idx (.var 1) (.const (.int (0))))])]) [ins05]) [some (.fl (sc.map AV.int)), some (.tup [.ref 0, .ref 1]), some (.ref 2), none, none, none] [ns.map AV.int, ms.map AV.str, []] Qn Qr (fun _ _ _ => False) := by
  have h1 := hS.most
  have h2 := hS.len
  have sm : ns.length ≤ smallN := Nat.le_trans h1 (by decide)
  refine st_for0 (N := ns.length) (H₁ := [ns.map AV.int, ms.map AV.str, []]) (O05 sc ns ms) hq (fun K h => ?_) sm ?_ ?_ ?_
  · tm_at "wps"
    rw [List.length_map]
    exact ⟨hq, hq, sm, ⟨by decide, by omega, by decide⟩, h⟩
  · exact ⟨.rng 0 ns.length 1, l05 sc ns ms (.ref 0) none none none, _, .inr ⟨[2], RenH.one rfl .nil, .keep (.fl (Rens.ints _)) (.keep (.tup (.cons (.frz (by decide) rfl (Rens.ints _)) (.cons (.frz (by decide) rfl (Rens.strs _)) .nil))) (.keep (.ref rfl) (.drop (.drop (.drop (.keep (.rng _ _ _) .nil))))))⟩, rfl, rfl, none, [], .refl _, .inl ⟨by omega, rfl, rfl⟩⟩
  · rintro k loc H hk' hl' ⟨o, L, hL, ⟨_, rfl, rfl⟩ | ⟨q, _, _⟩⟩
    · refine ins05_ok hk (Nat.lt_of_lt_of_le hk' h1) C hL fun L' hL' => ?_
      by_cases hlast : k + 1 < ns.length
      · exact ⟨_, l05 sc ns ms (.ref 0) _ none none, _, .inl ⟨rfl, rfl⟩, rfl, rfl, _, L', hL', .inl ⟨hlast, rfl, rfl⟩⟩
      · exact ⟨_, l05 sc ns ms (.fl (L'.map AV.int)) _ none none, [], .inr ⟨[], RenH.nil, .keep (.fl (Rens.ints _)) (.keep rens2 (.keep (.frz (fun h => nomatch h) rfl (Rens.ints _)) (.keep (.int _) (.drop (.drop (.keep (.rng _ _ _) .nil))))))⟩, rfl, rfl, _, L', hL', .inr ⟨by omega, rfl, rfl⟩⟩
    · exact absurd q (Nat.ne_of_lt hk')
  · rintro loc H ⟨o, L, hL, ⟨q, _, _⟩ | ⟨_, rfl, rfl⟩⟩
    · exact absurd q (Nat.lt_irrefl _)
    · exact h o L hL
theorem w05_1 (hk : 0 < l.k) (hq : l.q = true) (C : C05 P l (fun _ => False) sc) :
    wpSs P l c05_1 [some (.fl (sc.map AV.int)), none, none, none, none, none] [] (fun loc H => wpE P l (fun _ => False) c05_t loc H fun v H₁ => v = .rng 0 (4 : Nat) 1 ∧ ∃ loc0 H0, RenL (loc ++ [some v]) H₁ (loc0 ++ [some v]) H0 ∧ loc0.length = loc.length ∧ J05 sc loc0 H0) (fun _ _ => False) (fun _ _ _ => False) := by
  unfold c05_1
  (refine wpSs_cons.mpr ?_; tm_at "wps")
  refine ⟨hk, call_strip (.cons (.fl (Rens.ints sc)) .nil) C.left fun ns ms hS => ?_⟩
  have h1 := hS.most
  have h2 := hS.len
  (refine wpSs_cons.mpr ?_; tm_at "wps")
  refine ⟨by decide, ?_⟩
  refine wpSs_cons.mpr (for05 hk hq C hS fun o L hL => ?_)
  have hl : L.length = ns.length := by rw [hL.length_eq, rngI_len]
  unfold l05
  (refine wpSs_cons.mpr ?_; tm_at "wps")
  refine ⟨hk, hk, call_cell C.cell (by decide) (by decide) fun c _ _ => ?_⟩
  refine CallP.plain (.cons (.fl (Rens.ints _)) (.cons (.int _) .nil)) (C.odd L c (by rw [hl]; exact hL) (by omega) (by omega)) ?_
  rintro v Hc ⟨rfl, hb⟩
  rw [show v.shift ([] : AH).length = v from shift0 v]
  unfold c05_t
  refine ⟨hq, ⟨by decide, by decide, by decide⟩, rfl, l05 sc ns ms (.fl (L.map AV.int)) o (some v) none, [], .inl ⟨rfl, rfl⟩, rfl, ns, ms, L, v, o, none, hS, hL, by rw [← hl]; exact hb, rfl, rfl⟩
theorem w05_2 (C : C05 P l (fun _ => False) sc) (k : Nat) (loc : Loc) (H : AH) (h : J05 sc loc H) : wpEs P l (fun _ => False) c05_a (loc.set 5 (some (.int (k : Nat))) ++ [some (.rng 0 (4 : Nat) 1)]) H fun vs H' => ∃ vs', Rens [] H' vs vs' ∧ CallS P l 17 vs' true ∧
      ∃ loc'' H'', RenL (loc.set 5 (some (.int (k : Nat))) ++ [some (.rng 0 (4 : Nat) 1)]) H' (loc'' ++ [some (.rng 0 (4 : Nat) 1)]) H'' ∧ loc''.length = loc.length ∧ J05 sc loc'' H'' := by
  obtain ⟨ns, ms, L, v, a, b, hS, hL, hb, rfl, rfl⟩ := h
  exact ⟨_, .cons rens2 (.cons (hb.self _) (.cons (.int _) .nil)), C.refused ns ms v k hS hb, l05 sc ns ms (.fl (L.map AV.int)) a (some v) (some (.int k)), [], .inl ⟨rfl, rfl⟩, rfl, ns, ms, L, v, a, _, hS, hL, hb, rfl, rfl⟩
theorem w05_3 (hk : 0 < l.k) (C : C05 P l (fun _ => False) sc) (loc : Loc) (H : AH) (h : J05 sc loc H) : wpSs P l c05_3 loc H (fun _ _ => False) (fun v _ => v = .bool true) (fun _ _ _ => False) := by
  obtain ⟨ns, ms, L, v, a, b, hS, hL, hb, rfl, rfl⟩ := h
  unfold c05_3 l05
  (refine wpSs_cons.mpr ?_; tm_at "wps")
  refine ⟨hk, CallP.plain (.cons rens2 (.cons (.fl (Rens.ints _)) .nil)) (C.need ns ms L hS hL) ?_⟩
  rintro v Hc ⟨rfl, rfl⟩
  refine ⟨hk, CallP.plain (.cons rens2 (.cons (.fl (Rens.ints _)) .nil)) (C.ft ns ms L hS hL) ?_⟩
  rintro v Hc ⟨rfl, rfl⟩
  rfl
end

open PySem PyProof.Rows PySem.SeqAt
noncomputable def defIn (st : PySem.Stmt) : Option DefRec := match st with
  | .FunctionDef n a b _ _ _ sc _ _ pos => some ⟨n, a, b, sc, pos⟩
  | _ => none
noncomputable def defs05 : List DefRec := PySem.Challenge.pw_uf030009_05.main.body.filterMap defIn
noncomputable abbrev PC05 (prog : Program) (w : World) (mg mb : Str → Option Value) : PC := ⟨prog, w, mg, mb, ⟨defs05.map (·.name), []⟩, defs05, own6 mg, adOf mg "FoldError"⟩
theorem bind2 {d : DefRec} {ps : List Str} (hl : ps.length = 2) (hb : ∀ a b pm code doc, bindArgs (Calls.docDef d.name d.params d.body d.scope pm code doc) ⟨[a, b], []⟩ = pure (ps.zip [a, b])) (xs : List Value) (pm : Value) (code : Value) (doc : Value) (e : xs.length = ps.length) :
    bindArgs (Calls.docDef d.name d.params d.body d.scope pm code doc) ⟨xs, []⟩ = pure (ps.zip xs) := by
  rw [hl] at e
  rcases xs with _ | ⟨a, _ | ⟨b, _ | ⟨b9, r⟩⟩⟩
  · cases e
  · cases e
  · exact hb a b pm code doc
  · cases e
theorem bind3 {d : DefRec} {ps : List Str} (hl : ps.length = 3) (hb : ∀ a b c pm code doc, bindArgs (Calls.docDef d.name d.params d.body d.scope pm code doc) ⟨[a, b, c], []⟩ = pure (ps.zip [a, b, c])) (xs : List Value) (pm : Value) (code : Value) (doc : Value) (e : xs.length = ps.length) :
    bindArgs (Calls.docDef d.name d.params d.body d.scope pm code doc) ⟨xs, []⟩ = pure (ps.zip xs) := by
  rw [hl] at e
  rcases xs with _ | ⟨a, _ | ⟨b, _ | ⟨c, _ | ⟨b9, r⟩⟩⟩⟩
  · cases e
  · cases e
  · cases e
  · exact hb a b c pm code doc
  · cases e
section
variable {prog : Program} {w : World} {mg mb : Str → Option Value}
theorem f05_0 : FnIs (PC05 prog w mg mb) 0 ["strip"] ["found", "place", "number", "length"] cs_ends :=
  FnIs.of1 (by decide +kernel) (by kernel_rfl) (by kernel_rfl) rfl fun a pm code doc => by kernel_rfl
theorem f05_1 : FnIs (PC05 prog w mg mb) 1 ["strip"] ["found", "begin", "end"] (cs_spans 0) :=
  FnIs.of1 (by decide +kernel) (by kernel_rfl) (by kernel_rfl) rfl fun a pm code doc => by kernel_rfl
theorem f05_2 : FnIs (PC05 prog w mg mb) 2 ["thing", "least", "most"] [] cs_isnum :=
  FnIs.of3 (by decide +kernel) (by kernel_rfl) (by kernel_rfl) rfl fun a b c pm code doc => by kernel_rfl
theorem f05_3 : FnIs (PC05 prog w mg mb) 3 ["strip", "order"] ["many"] (cs_need_order 2) :=
  FnIs.of2 (by decide +kernel) (by kernel_rfl) (by kernel_rfl) rfl fun a b pm code doc => by kernel_rfl
theorem f05_4 : FnIs (PC05 prog w mg mb) 4 ["order"] ["found", "height", "piece"] cs_heights :=
  FnIs.of1 (by decide +kernel) (by kernel_rfl) (by kernel_rfl) rfl fun a pm code doc => by kernel_rfl
theorem f05_5 : FnIs (PC05 prog w mg mb) 5 ["high", "crease", "piece"] ["low"] cs_is_between :=
  FnIs.of3 (by decide +kernel) (by kernel_rfl) (by kernel_rfl) rfl fun a b c pm code doc => by kernel_rfl
theorem f05_6 : FnIs (PC05 prog w mg mb) 6 ["strip", "high"] ["found", "crease", "mark", "even", "odd", "is_above"] cs_mark_faults :=
  FnIs.of2 (by decide +kernel) (by kernel_rfl) (by kernel_rfl) rfl fun a b pm code doc => by kernel_rfl
theorem f05_7 : FnIs (PC05 prog w mg mb) 7 ["strip", "high"] ["found", "places", "some", "crease", "piece"] (cs_through_faults 0 1 5) :=
  FnIs.of2 (by decide +kernel) (by kernel_rfl) (by kernel_rfl) rfl fun a b pm code doc => by kernel_rfl
theorem f05_8 : FnIs (PC05 prog w mg mb) 8 ["strip", "high"] ["found", "places", "one", "other"] (cs_crossed_faults 0 5) :=
  FnIs.of2 (by decide +kernel) (by kernel_rfl) (by kernel_rfl) rfl fun a b pm code doc => by kernel_rfl
theorem f05_9 : FnIs (PC05 prog w mg mb) 9 ["strip", "order"] ["high"] (cs_faults 3 4 6 7 8) :=
  FnIs.of2 (by decide +kernel) (by kernel_rfl) (by kernel_rfl) rfl fun a b pm code doc => by kernel_rfl
theorem f05_12 : FnIs (PC05 prog w mg mb) 12 ["_law_script", "_law_k"] [] cs_cell_at :=
  FnIs.of2 (by decide +kernel) (by kernel_rfl) (by kernel_rfl) rfl fun a b pm code doc => by kernel_rfl
theorem f05_13 : FnIs (PC05 prog w mg mb) 13 ["_law_script", "_law_first", "_law_many"] ["_law_lengths", "_law_marks", "_law_turn", "_law_cell", "_law_mark", "_law_at", "_law_step", "_law_short"] (cs_unfolded 12) :=
  FnIs.of3 (by decide +kernel) (by kernel_rfl) (by kernel_rfl) rfl fun a b c pm code doc => by kernel_rfl
theorem f05_14 : FnIs (PC05 prog w mg mb) 14 ["_law_script"] ["_law_head", "_law_lengths", "_law_marks", "_law_cells", "_law_cell", "_law_more", "_law_at", "_law_found"] (cs_strip 12 13) :=
  FnIs.of1 (by decide +kernel) (by kernel_rfl) (by kernel_rfl) rfl fun a pm code doc => by kernel_rfl
theorem f05_15 : FnIs (PC05 prog w mg mb) 15 ["_law_script"] ["_law_lengths", "_law_marks", "_law_cell"] (cs_left 14 12) :=
  FnIs.of1 (by decide +kernel) (by kernel_rfl) (by kernel_rfl) rfl fun a pm code doc => by kernel_rfl
theorem f05_16 : FnIs (PC05 prog w mg mb) 16 ["_law_error", "_law_due"] ["_law_kinds"] cs_sole :=
  FnIs.of2 (by decide +kernel) (by kernel_rfl) (by kernel_rfl) rfl fun a b pm code doc => by kernel_rfl
theorem f05_18 : FnIs (PC05 prog w mg mb) 18 ["_law_order", "_law_cell"] ["_law_many", "_law_at", "_law_odd_here", "_law_truths", "_law_some"] cs_odd :=
  FnIs.of2 (by decide +kernel) (by kernel_rfl) (by kernel_rfl) rfl fun a b pm code doc => by kernel_rfl
theorem r05_a : RaiseIs (PC05 prog w mg mb) 3 ["strip", "order"] ["many"] nb1 nt1 "BadOrder" :=
  RaiseIs.of (i := 1) (by decide +kernel) (by kernel_rfl) (by kernel_rfl) (by kernel_rfl) (bind2 rfl fun a b pm code doc => by kernel_rfl)
theorem r05_b : RaiseIs (PC05 prog w mg mb) 3 ["strip", "order"] ["many"] nb2 (nt2 2) "BadOrder" :=
  RaiseIs.of (i := 2) (by decide +kernel) (by kernel_rfl) (by kernel_rfl) (by kernel_rfl) (bind2 rfl fun a b pm code doc => by kernel_rfl)
theorem g05_9 : FirstIs (PC05 prog w mg mb) 9 ["strip", "order"] ["high"] (3, [.var 0, .var 1]) :=
  FirstIs.of (by decide +kernel) (by kernel_rfl) (by kernel_rfl) (bind2 rfl fun a b pm code doc => by kernel_rfl)
theorem g05_10 : RetCmpIs (PC05 prog w mg mb) 10 ["strip", "order"] [] (9, [.var 0, .var 1]) :=
  RetCmpIs.of (by decide +kernel) (by kernel_rfl) (by kernel_rfl) (bind2 rfl fun a b pm code doc => by kernel_rfl)
theorem g05_11 : FirstIs (PC05 prog w mg mb) 11 ["strip", "order", "place"] ["some"] (3, [.var 0, .var 1]) :=
  FirstIs.of (by decide +kernel) (by kernel_rfl) (by kernel_rfl) (bind3 rfl fun a b c pm code doc => by kernel_rfl)
theorem t05_17 : TryChainIs (PC05 prog w mg mb) 17 ["_law_strip_here", "_law_thing", "_law_way"] ["_law_error"] "FoldError" "_law_error" (.call 16 [.var 0, .const (.str "order")]) ch05 (11, [.var 0, .var 1, .const (.int 0)]) :=
  TryChainIs.of (by decide +kernel) (by kernel_rfl) (by kernel_rfl) (by kernel_rfl) (by kernel_rfl) (bind3 rfl fun a b c pm code doc => by kernel_rfl)
theorem la05 : LawForIs (PC05 prog w mg mb) 19 17 ["_law_script"] ["_law_strip_here", "_law_order", "_law_piece", "_law_odd_here", "_law_way"] c05_1 5 c05_t c05_a c05_3 :=
  LawForIs.of (j := 4) (g := "_law_refused") (by decide +kernel) (by kernel_rfl) (by kernel_rfl) (by kernel_rfl) (by kernel_rfl) (bind1 rfl fun a pm code doc => by kernel_rfl)
end

open PySem PyProof.Rows PySem.SeqAt
section
variable {prog : Program} {w : World} {mg mb : Str → Option Value} {sc ns : List Int} {ms : List Str} {L : List Int} {h : Heap} {X : Str → Prop} {k : Nat}
theorem num05 (hk : 0 < k) (n a b : Int) (h0 : a ≤ n) (h1 : n ≤ b) : CallJ (PC05 prog w mg mb) ⟨k, true⟩ 2 [.int n, .int a, .int b] (fun v H => v = .bool true ∧ H = []) X :=
  (isnum_ok (X := X) f05_2 rfl rfl hk (a := a) (b := b) (v := .int n) trivial).mono fun v H q => ⟨q.1.trans (by simp [isNum, h0, h1]), q.2⟩
theorem need05 (hk : 1 < k) (hS : StripIs 2000 ns ms) (hL : L.Perm (rngI ns.length)) : CallJ (PC05 prog w mg mb) ⟨k, true⟩ 3 [stV ns ms, .fl (L.map AV.int)] (fun v H => v = .bool true ∧ H = []) X :=
  need_order_ok f05_3 rfl rfl hk rfl hS.most hL (fun n a b x y => num05 (Nat.sub_pos_of_lt hk) n a b x y)
theorem ends05 (hk : 0 < k) (hS : StripIs 2000 ns ms) : CallJ (PC05 prog w mg mb) ⟨k, true⟩ 0 [stV ns ms] (fun v H => v = .ref 0 ∧ H = [(endsL ns).map AV.int]) X :=
  ends_ok f05_0 rfl rfl hk rfl (Nat.le_trans hS.most (by decide))
theorem ft05 (hk : 5 < k) (hS : StripIs 2000 ns ms) (hL : L.Perm (rngI ns.length)) : CallJ (PC05 prog w mg mb) ⟨k, true⟩ 9 [stV ns ms, .fl (L.map AV.int)] (fun v H => v = .ref 0 ∧ H = [ftA ns ms L]) X :=
  have h1 : 4 < k - 1 := Nat.lt_sub_of_add_lt hk
  have h2 : 3 < k - 1 - 1 := Nat.lt_sub_of_add_lt h1
  have h3 : 2 < k - 1 - 1 - 1 := Nat.lt_sub_of_add_lt h2
  have l1 : 1 < k - 1 := Nat.lt_trans (by decide) h1
  have l2 : 2 < k - 1 := Nat.lt_trans (by decide) h1
  have l0 : 0 < k - 1 := Nat.lt_trans (by decide) h1
  have m0 : 0 < k - 1 - 1 := Nat.lt_trans (by decide) h2
  have m1 : 1 < k - 1 - 1 := Nat.lt_trans (by decide) h2
  have n0 : 0 < k - 1 - 1 - 1 := Nat.lt_trans (by decide) h3
  faults_ok f05_9 rfl rfl (Nat.lt_trans (by decide) hk) hS.most hS.len (need05 l1 hS hL) (heights_ok f05_4 rfl rfl l0 rfl hS.most hL) (mark_faults_ok f05_6 rfl rfl l0 rfl hS.most hS.len hS.marks)
    (through_ok f05_7 rfl rfl l2 rfl hS.most hS.len (ends05 m0 hS) (spans_ok f05_1 rfl rfl m1 rfl (Nat.le_trans hS.most (by decide)) (ends05 n0 hS)) fun c p hc hp => is_between_ok f05_5 rfl rfl m0 rfl hS.most hc hp)
    (crossed_ok f05_8 rfl rfl l2 rfl hS.most hS.len (ends05 m0 hS) fun c p hc hp => is_between_ok f05_5 rfl rfl m0 rfl hS.most hc hp)
theorem bad05 (Y : Cls6 mg h) (hk : 1 < k) (hS : StripIs 2000 ns ms) {v : AV} (hb : BadOrd ns.length v) : CallX (PC05 prog w mg mb) ⟨k, true⟩ 3 [stV ns ms, v] (adOf mg "BadOrder") :=
  need_bad r05_a r05_b rfl rfl hk rfl (own6_is Y (i := 1) (j := 1) rfl rfl) (Y.at6 _ (by decide)).1 hS.most (fun v hv => isnum_ok f05_2 rfl rfl (Nat.sub_pos_of_lt hk) hv) hb
theorem c05 (Y : Cls6 mg h) (hn : sc.length ≤ 63) : C05 (PC05 prog w mg mb) ⟨19, true⟩ (fun _ => False) sc where
  cell := cell_all f05_12 rfl rfl hn (by decide)
  left := left_all f05_12 f05_13 f05_14 f05_15 rfl rfl rfl rfl rfl rfl rfl rfl hn (by decide)
  odd := fun L c hL h0 h1 => odd_ok f05_18 rfl rfl (by decide) rfl hL h0 h1
  refused := fun ns ms v k hS hb => refused05 (K := adOf mg "BadOrder") t05_17 (by decide) Y.sup (own6_is Y (i := 1) (j := 1) rfl rfl) hb.self (bad05 Y (by decide) hS hb) (faults_bad g05_9 rfl (by decide) hb.self (bad05 Y (by decide) hS hb)) (lies_bad g05_10 rfl (by decide) hb.self (faults_bad g05_9 rfl (by decide) hb.self (bad05 Y (by decide) hS hb))) (over_bad g05_11 rfl (by decide) hb.self (bad05 Y (by decide) hS hb))
    (sole_ok f05_16 rfl rfl (by decide) (b0 := false) (b1 := true) (b2 := false) (b3 := false) (b4 := false) (b5 := false) ⟨own6_is Y (i := 0) (j := 1) rfl rfl, own6_is Y (i := 1) (j := 1) rfl rfl, own6_is Y (i := 2) (j := 1) rfl rfl, own6_is Y (i := 3) (j := 1) rfl rfl, own6_is Y (i := 4) (j := 1) rfl rfl, own6_is Y (i := 5) (j := 1) rfl rfl, own6_ve (j := 1) rfl⟩ (j := 1) rfl rfl rfl (by decide +kernel))
  need := fun ns ms L hS hL => need05 (by decide) hS hL
  ft := fun ns ms L hS hL => ft05 (by decide) hS hL
end
set_option Elab.async false
set_option maxRecDepth 100000
open PySem PySem.W PyProof.Rows
noncomputable def view05 : Program := view PySem.Challenge.pw_uf030009_05 [1, 2, 3, 4, 5, 6, 7, 9, 10, 12, 14, 15, 16, 17, 18, 19, 20, 21, 22, 24, 25, 26, 27, 28, 29, 30, 31]
noncomputable def dl05 : DefRec × List (Str × PySem.Expr) := (defOf view05 "law").get (by kernel_rfl)
theorem op05 : opening PySem.Challenge.pw_uf030009_05 = plainProg PySem.Challenge.pw_uf030009_05.main.scope.names := by kernel_rfl
theorem fe05 (s : Shared) : fenceModules? PySem.Challenge.pw_uf030009_05 s = some s := by kernel_rfl
theorem left05 : LeftO PySem.Challenge.pw_uf030009_05 view05 [] (fun s => recOk [] s && clsT s.heap) (fun _ => ()) (fun _ => ()) 4400 := left_tree op05 (by decide) fe05 fun w os => by kernel_rfl
theorem said05 : PySem.Challenge.rw_uf030009_05.wellSaid = true := said_quick (by kernel_rfl)
end Mine
open PySem PySem.W PyProof.Rows
set_option maxHeartbeats 8000000 in
theorem PySem.Challenge.cw_uf030009_05_holds : PySem.Challenge.rw_uf030009_05.Holds := by
  refine holds_law Mine.said05 fun said => holds_open (q := Mine.view05) (loose := []) (Xt := fun s => recOk [] s && Mine.clsT s.heap) (XP := fun mg h => Mine.Cls6 mg h) (Yf := fun _ => ()) (Ya := fun _ => ()) (YP := fun _ _ => True) (d := Mine.dl05.1) (kwd := Mine.dl05.2) (N := 4400) Mine.left05 (fun _ _ _ => trivial) (fun _ _ _ _ _ => trivial) (fun s e => Mine.Cls6.of (Bool.and_eq_true_iff.mp e).2) (fun mg h h' x k => x.keeps k) (by kernel_rfl) (by kernel_rfl) (by kernel_rfl) (fun s e => recFacts_of (Bool.and_eq_true_iff.mp e).1) (by kernel_rfl) said (by decide +kernel) ⟨rfl, rfl, rfl, rfl, rfl, by decide +kernel⟩ ?hw ?hc
  case hw => w_witness2
  case hc =>
    intro w s₀ s₁ mg mb G Y fa o pm cd doc dV kV ho hd hcd hD hmg hg args vals as hpre hlay hrd hwl hlo
    have X := G.X
    refine Ground.open G ?_
    intro T B D TE TW
    clear hd hD ho hcd
    wrow_args hpre hlay hrd hwl hlo
    have hve := Mine.ve_of T (by decide +kernel)
    have hG := Mine.GOk.of_top (prog := PySem.Challenge.rw_uf030009_05.row.prog) (w := w) (consts := []) (own := Mine.own6 mg) (sup := Mine.adOf mg "FoldError") T (defs := Mine.defs05) (by kernel_rfl) (by decide +kernel) rfl (fun x v e => nomatch e) (Mine.own_of (P := Mine.PC05 PySem.Challenge.rw_uf030009_05.row.prog w mg mb) X hve rfl)
    refine Mine.law_callS (P := Mine.PC05 PySem.Challenge.rw_uf030009_05.row.prog w mg mb) (by assumption) (fun S xs hp hw hsd V hA hfr => Mine.la05.run (l := ⟨20, true⟩) (N := 4) (by decide) rfl rfl (Mine.w05_1 (by decide) rfl (Mine.c05 X ?_)) (fun k loc H _ hJ => Mine.w05_2 (Mine.c05 X ?_) k loc H hJ) (Mine.w05_3 (by decide) (Mine.c05 X ?_)) hA hfr hG (by kernel_rfl) hmg hp hw hsd V) ?_
    · omega
    · omega
    · omega
    intro h' tk k
    exact Mine.law_good (fun _ => rfl) (by kernel_rfl) k rfl hg

