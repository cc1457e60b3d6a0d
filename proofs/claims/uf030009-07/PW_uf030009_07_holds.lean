import PyProof.Rows.All
import Open.Line
import Open.Boot
import Open.FastRun
import Open.FastLooks
import PyProof.ExcArgsOwn
import PyProof.IsInstance
import PyProof.ExcAttrAll.ValueError
import PyProof.Walks
import PyProof.Cells
import PyProof.TupleIter
import PyProof.WalksMore
import PyProof.DictKinds
import PyProof.RangeIter
import PyProof.InstStore
import PyProof.PureInt
import PyProof.ListOps
import PyProof.TupleOps
import PyProof.Rows.RuleB_floordiv
import PyProof.Rows.RuleB_mod
import PyProof.Rows.RuleB_small
import PyProof.Rows.StrRules
import PyProof.P3Eq
import PyProof.NeData
import PyProof.SliceList
import PyProof.SliceMore
import PyProof.Rows.TupSub
import PyProof.Rows.StrTemp
import PyProof.IsRules
import PyProof.Methods
import PyProof.StrOps
import PyProof.Rows.IntMath
import PyProof.StrBlockI
import PyProof.ListIndexNeg
import PyProof.DictRoads
import PyProof.DictStraight
import PyProof.IsiPairs
import PyProof.IsiHeapPairs
import PyProof.IsiNone
import PyProof.Rows.SortWalk
import PyProof.Rows.Range3
import PyProof.TupleOfSeq
import PyProof.ListCopy
import PyProof.ListRange
import PyProof.WalkInts
import PyProof.Rows.MinMaxN
import PyProof.Conv_int_bool
import PyProof.ConsumeWalk
import PyProof.RangeFor
import PyProof.CallStr
import PyProof.CompFree
import PyProof.Rows.Top
import PyProof.StrCalls2
import PyProof.StrBlockH
import PyProof.Rows.PlainObj
import PyProof.Rows.Exc
import PyProof.Rows.Globals
import PyProof.Rows.TupMore
import PyProof.Rows.Method
import PyProof.DictTable
import PyProof.CallRoads
import PyProof.MeetsDict
import PyProof.Rows.Catch
import KE.KItem
import PyProof.Rows.TupAssign
import PyProof.StrWalks
import OpenK.KCall
import OpenK.KLine
import Wide.BridgeG
import Wide.Well
import PyProof.FactsTree
import PyProof.StationsW
import PyProof.RulesFinally
import PyProof.ExcClass
import PyProof.Rows.CatchOwn
import PyProof.ExcClass3
import PyProof.ExcBaseAll.ValueError
import PyProof.ObjNew
import PyProof.InstStoreFacts
import PyProof.AssignAttr
import PyProof.Rows.TopObj
import PyProof.Rows.PlainEq
import PySem.Challenge.RW_uf030009_07
set_option linter.all false
set_option maxHeartbeats 4000000
set_option Elab.async false
set_option genSizeOfSpec false
set_option genSizeOf false
set_option genInjectivity false
set_option bootstrap.genMatcherCode false
set_option compiler.extract_closed false
namespace Mine
open PySem PySem.W PySem.Calls PyProof.Rows
noncomputable def runT (p:Program) (w:World) (n₀:Nat) (ann:Option Value) (N:Nat):SharedT→Thread→Option SharedT:=
 Nat.rec (motive:=fun _=>SharedT→Thread→Option SharedT) (fun _ _=>none) (fun _ ih s t=>match through t with
  | true=>some s
  | false=>match Fast.tw6613529449190102663 n₀ ann t with
   | false=>none
   | true=>match Fast.tw10156331382660048174 (Fast.tw11892475500146522536 treeTable) p w s t with
    | some (s',t')=>ih s' t'
    | none=>none) N
theorem runT_of {p:Program} {w:World} {n₀:Nat} {ann:Option Value} {n:Nat}:∀ {s r:SharedT} {t:Thread},runT p w n₀ ann n s t = some r→topRun treeTable p w n₀ ann n s.abs t = some r.abs:=by
 induction n with
 | zero=>exact fun h=>nomatch h
 | succ n ih=>
  intro s r t h
  change (match through t with
   | true=>some s
   | false=>match Fast.tw6613529449190102663 n₀ ann t with
    | false=>none
    | true=>match Fast.tw10156331382660048174 (Fast.tw11892475500146522536 treeTable) p w s t with
     | some (s',t')=>runT p w n₀ ann n s' t'
     | none=>none) = some r at h
  show (match through t with
   | true=>some s.abs
   | false=>match stepOk n₀ ann t with
    | false=>none
    | true=>match step (denote treeTable) p w s.abs t with
     | .go s' t'=>topRun treeTable p w n₀ ann n s' t'
     | .halt _ _=>none) = some r.abs
  rw [← Fast.te6613529449190102663,← Fast.te10156331382660048174,← Fast.te11892475500146522536] at h
  cases ht:through t with
  | true=>rw [ht] at h;exact congrArg (Option.map SharedT.abs) h
  | false=>
   rw [ht] at h
   cases hk:stepOk n₀ ann t with
   | false=>rw [hk] at h;nomatch h
   | true=>
    rw [hk] at h
    cases hs:stepT (denote treeTable) p w s t with
    | none=>rw [hs] at h;nomatch h
    | some q=>rw [hs] at h;rw [stepT_spec hs];exact ih h
noncomputable def bootT (P:Params) (os:OsState):SharedT:=⟨List.rec (motive:=fun _=>Nat→BT→BT) (fun _ t=>t) (fun o _ ih n t=>ih (n + 1) (t.ins n o)) (boot_heap P).objs.toList 0 .nil,11,(boot_heap P).life,Array.mk [],boot_drawn,boot_toks,os⟩
theorem bootT_abs (P:Params) (os:OsState):(bootT P os).abs = ⟨boot_heap P,Array.mk [],boot_drawn,boot_toks,os⟩:=by kernel_rfl
noncomputable def laid {β:Type} (l:List Obj):(List Obj→β)→β:=List.rec (motive:=fun _=>(List Obj→β)→β) (fun k=>k []) (fun o _ ih k=>Obj.rec (fun a b c d=>ih fun r=>k (⟨a,b,c,d⟩::r)) o) l
theorem laid_eq {β:Type} (l:List Obj):∀ k:List Obj→β,laid l k = k l:=by
 induction l with
 | nil=>exact fun _=>rfl
 | cons o l ih=>exact fun k=>ih _
noncomputable def endT (p q:Program) (loose:List Str) (Xt:Shared→Bool) (g0:Bool) (w:World) (s:Shared):=cond (staticsOk (importedModules p.main.body) (boot_heap w.params) s.heap && namesBound p s.heap && gensDone s && laidKept (boot_heap w.params) s.heap) (some (Fast.tw4187177175401517315 q loose (importedModules p.main.body) Xt g0 s)) none
theorem left_tree {p q:Program} {loose:List Str} {Xt:Shared→Bool} {N:Nat} {g0:Bool}
  (e:opening p = plainProg p.main.scope.names) (hN:Nat.ble 600 N = true) (f:∀ s,fenceModules? p s = some s)
  (run:∀ (w:World) (os:OsState),(runT p w 11 ((boot_heap w.params).nsMap mainGlobals "__annotations__") N (bootT w.params os) (topStub p)).bind (fun S=>laid (S.tree.list S.n) fun l=>endT p q loose Xt g0 w ⟨⟨Array.mk l,S.life⟩,S.gens,S.drawn,S.toks,S.os⟩) = some (openGood q loose)) :
  LeftO p q loose Xt (fun _=>()) (fun _=>()) N g0:=fun w=>by
 obtain ⟨⟨h,gs,d,k,os⟩,e,e'⟩:=Option.map_eq_some_iff.mp (boot_open e hN f w)
 obtain ⟨rfl,rfl,rfl,rfl⟩:h = boot_heap w.params∧gs = Array.mk []∧d = boot_drawn∧k = boot_toks:=by simpa using e'
 unfold openEnds
 rw [e]
 obtain ⟨S,hS,r⟩:=Option.bind_eq_some_iff.mp (run w os)
 rw [laid_eq] at r
 have x:=runT_of hS
 rw [bootT_abs] at x
 have z:((boot_heap w.params).isNs mainGlobals && (Array.mk ([]:List GenState)).size == 0) = true:=by kernel_rfl
 show (topFrom treeTable p w N _).map _ = _
 unfold topFrom
 rw [z]
 show ((topRun treeTable p w 11 ((boot_heap w.params).nsMap mainGlobals "__annotations__") N ⟨boot_heap w.params,Array.mk [],boot_drawn,boot_toks,os⟩ (topStub p)).bind _).map _ = _
 rw [x,Option.bind_some]
 unfold endT at r
 rw [← Fast.te4187177175401517315] at r
 change cond (staticsOk (importedModules p.main.body) (boot_heap w.params) S.abs.heap && namesBound p S.abs.heap && gensDone S.abs && laidKept (boot_heap w.params) S.abs.heap) (some (openSeen q loose (importedModules p.main.body) Xt g0 S.abs)) none = _ at r
 cases b:staticsOk (importedModules p.main.body) (boot_heap w.params) S.abs.heap && namesBound p S.abs.heap && gensDone S.abs && laidKept (boot_heap w.params) S.abs.heap with
 | false=>rw [b] at r;nomatch r
 | true=>rw [b] at r;exact congrArg (fun o=>o.map fun x=>(x,())) r
theorem said_quick {l:OpenLaw} (h:Fast.tw9446332074065402090 l = true):l.wellSaid = true:=by rw [Fast.te9446332074065402090];exact h
set_option maxRecDepth 100000
open PySem
noncomputable def veMro:List Value:=[.type "ValueError",.type "Exception",.type "BaseException",.type "object"]
noncomputable def qn:List Str := "__class__"::quietNames
inductive IsExc (o:Obj) (C N:Addr) (bm:List Value):Prop
 | mk (nm:_) (q:_) (bs:_) (hdct:_) (sn:_) (sub:_) (ab:_) (col:_) (dd:_) (k0:_) (k1:_) (k2:_) (k3:_) (k5:_):o = excClassObj nm q C N bs bm hdct sn sub ab col dd k0 k1 k2 k3 k5 "ValueError.__new__"→IsExc o C N bm
inductive XObj (h:Heap) (C:Addr) (bm:List Value):Prop
 | mk (o:_) (N:_) (mN:_):h.get? C = some o→IsExc o C N bm→h.Ns N mN→(∀ n ∈ qn,mN n = none)→XObj h C bm
theorem XObj.keeps {h h':Heap} {C:Addr} {bm:List Value} (x:XObj h C bm) (k:∀ b o,h.get? b = some o→h'.get? b = some o):XObj h' C bm:=by
 obtain ⟨o,N,mN,h1,h2,h3,h4⟩:=x
 exact ⟨o,N,mN,k _ _ h1,h2,h3.keeps k,h4⟩
structure XCls (h:Heap) (C Z:Addr):Prop where
 obj:XObj h C (.ref Z::veMro)
 sup:XObj h Z veMro
theorem XCls.keeps {h h':Heap} {C Z:Addr} (x:XCls h C Z) (k:∀ b o,h.get? b = some o→h'.get? b = some o):XCls h' C Z:=⟨x.obj.keeps k,x.sup.keeps k⟩
theorem XCls.tail {h:Heap} {C Z:Addr} (x:XCls h C Z):OwnTailQ h veMro (.ref Z::veMro):=by
 obtain ⟨o,N,mN,h1,⟨_,_,_,_,_,_,_,_,_,_,_,_,_,_,rfl⟩,h2,h3⟩:=x.sup
 exact .own h1 h2 (fun n hn=>h3 n (.tail _ hn)) .base
theorem lk_ve_class:typeLookup (.type "ValueError") "__class__" = pure (some (.builtin "object.__class__")):=by rw [typeLookup_type,builtinLookup_eq_fast];kernel_rfl
section
variable {prog:Program} {w:World} {A:Around} {E:Value→Shared→Prop} {h:Heap} {g:Array GenState} {d:Drawn} {t:Nat} {os:OsState} {a C Z D:Addr} {o:Obj}
theorem isSub_x {M:Model} {base:Value} {Q:Bool→Shared→Prop} (X:XCls h C Z) (hq:Q ((Value.ref C::.ref Z::veMro).contains base) ⟨h,g,d,t,os⟩):wpAny M A (isSubtype (.ref C) base) Q E ⟨h,g,d,t,os⟩:=by
 obtain ⟨o,N,mN,h1,⟨_,_,_,_,_,_,_,_,_,_,_,_,_,_,rfl⟩,_,_⟩:=X.obj
 exact wpAny_isSubtype_exc h1 hq
theorem lookup_class_x {M:Model} {Q:Option Value→Shared→Prop} (X:XCls h C Z) (hq:Q (some (.builtin "object.__class__")) ⟨h,g,d,t,os⟩):wpAny M A (typeLookup (.ref C) "__class__") Q E ⟨h,g,d,t,os⟩:=by
 obtain ⟨_,_,_,h1,⟨_,_,_,_,_,_,_,_,_,_,_,_,_,_,rfl⟩,h2,h3⟩:=X.obj
 obtain ⟨_,_,_,g1,⟨_,_,_,_,_,_,_,_,_,_,_,_,_,_,rfl⟩,g2,g3⟩:=X.sup
 have hrest:lookupAlong veMro "__class__" = pure (some (.builtin "object.__class__")):=by
  have hB:=lk_ve_class
  rw [typeLookup_eq,F.attrBase_ValueError.mro] at hB
  exact hB
 rw [typeLookup_eq]
 refine wpAny_bind (wpAny_mroOf_exc h1 ?_)
 rw [lookupAlong_cons]
 refine wpAny_bind (wpAny_classOwn_exc h1 h2 ?_)
 rw [h3 _ (.head _)]
 show wpAny M A (lookupAlong (.ref Z::veMro) "__class__") Q E _
 rw [lookupAlong_cons]
 refine wpAny_bind (wpAny_classOwn_exc g1 g2 ?_)
 rw [g3 _ (.head _)]
 show wpAny M A (lookupAlong veMro "__class__") Q E _
 rw [hrest]
 exact wpAny_pure hq
theorem class_get_x {R:Result→Shared→Prop} (X:XCls h C Z) (hx:h.get? a = some o) (hc:o.cls = .ref C) (hq:R (.ok (.ret (.ref C))) ⟨h,g,d,t,os⟩) :
  codeAny (model prog w) A (.call (.builtin "getset_descriptor.__get__") ⟨[.builtin "object.__class__",.ref a,.ref C],[]⟩) R ⟨h,g,d,t,os⟩:=by
 have hT5:(⟨h,g,d,t,os⟩:Shared).TypeIs (.builtin "object.__class__") "getset_descriptor":=F.typeOf_object_class
 have hcB:(Value.ref C::.ref Z::veMro).contains (.type (".".intercalate ("object.__class__".cutAt '.').dropLast)) = true:=by
  rw [F.owner_object_class];rfl
 refine codeAny_call_builtin F.slot_gs_get.plain F.entry_gs_get (F.slot_gs_get.check _ _ _ _ _ _ _ _ hT5 (F.args_gs_get _ _ _) ?_)
 repeat (any_goals (first | assumption | (with_reducible refine wpAny_loadPart_at hx ?_;rw [hc]) | (with_reducible refine isSub_x X ?_;rw [hcB]) | wp_step))
 refine ⟨Code.quiet_builtin _ (by decide +kernel),codeAny_builtin F.entry_object_class ?_⟩
 repeat (any_goals (first | assumption | (with_reducible refine wpAny_loadPart_at hx ?_;rw [hc]) | wp_step))
theorem class_entry_x {tk:Tok} {Q:Fin→Shared→Prop} (X:XCls h C Z) (hx:h.get? a = some o) (hc:o.cls = .ref C) (hq:Q (.done (.ret (.ref C))) ⟨h,g,d,t,os⟩) :
  wpAny (model prog w) A (Builtin.«object.__getattribute__» ⟨[.ref a,.str "__class__" tk],[]⟩) Q E ⟨h,g,d,t,os⟩:=by
 have hT5:(⟨h,g,d,t,os⟩:Shared).TypeIs (.builtin "object.__class__") "getset_descriptor":=F.typeOf_object_class
 have f5:=F.typeOf_object_class
 have f6:=F.slot_gs_get.lookup
 have f7:=F.slot_gs_set.lookup
 repeat (any_goals (first | assumption | (with_reducible refine wpAny_loadPart_at hx ?_;rw [hc]) | with_reducible refine lookup_class_x X ?_ | wp_step))
 refine class_get_x X hx hc ?_
 repeat (any_goals (first | assumption | wp_step))
theorem class_call_x {tk:Tok} {R:Result→Shared→Prop} (X:XCls h C Z) (hx:h.get? a = some o) (hc:o.cls = .ref C) (hq:R (.ok (.ret (.ref C))) ⟨h,g,d,t,os⟩) :
  codeAny (model prog w) A (.call (.builtin "BaseException.__getattribute__") ⟨[.ref a,.str "__class__" tk],[]⟩) R ⟨h,g,d,t,os⟩:=by
 obtain ⟨_,_,_,h1,⟨_,_,_,_,_,_,_,_,_,_,_,_,_,_,rfl⟩,h2,h3⟩:=X.obj
 exact codeAny_call_builtin F.attrBase_ValueError.ga.plain F.entry_bexc_ga (wpAny_check_ga_own F.attrBase_ValueError h1 X.tail hx hc (class_entry_x X hx hc hq))
theorem class_by_x {tk:Tok} {Q:Value→Shared→Prop} (X:XCls h C Z) (hx:h.get? a = some o) (hc:o.cls = .ref C) (hq:Q (.ref C) ⟨h,g,d,t,os⟩) :
  wpAny (model prog w) A (getAttrBy (.ref a) (.str "__class__" tk) false) Q E ⟨h,g,d,t,os⟩:=by
 obtain ⟨_,_,_,h1,⟨_,_,_,_,_,_,_,_,_,_,_,_,_,_,rfl⟩,h2,h3⟩:=X.obj
 have T:=X.tail
 have h3':∀ n ∈ quietNames,_:=fun n hn=>h3 n (.tail _ hn)
 have f3:=F.attrBase_ValueError.ga.bind (.ref a)
 have hx0:(false && onTheHeap (Value.builtin "BaseException.__getattribute__")) = false:=rfl
 have hx2:(Value.builtin "BaseException.__getattribute__" == Value.builtin "object.__getattribute__") = false:=by decide +kernel
 have hx1:(onTheHeap (Value.ref C) && Value.builtin "BaseException.__getattribute__" == Value.builtin "object.__getattribute__") = false:=by rw [hx2];rfl
 have hm1:("__getattribute__" : Str) ∈ quietNames:=.tail _ (.head _)
 have hm2:("__getattr__" : Str) ∈ quietNames:=.tail _ (.tail _ (.head _))
 repeat (any_goals (first | assumption | (with_reducible refine wpAny_loadPart_at hx ?_;rw [hc]) | with_reducible refine wpAny_typeLookup_tailQ hm1 h1 h2 h3' T F.attrBase_ValueError.mro F.attrBase_ValueError.ga.lookup ?_ | with_reducible refine wpAny_typeLookup_tailQ hm2 h1 h2 h3' T F.attrBase_ValueError.mro F.attrBase_ValueError.noGetattr ?_ | wp_step))
 refine class_call_x X hx hc ?_
 repeat (any_goals (first | assumption | wp_step))
theorem class_attr_x {Q:Option Value→Shared→Prop} (X:XCls h C Z) (hx:h.get? a = some o) (hc:o.cls = .ref C) (hq:Q (some (.ref C)) ⟨h,g,d,t + 1,os⟩):wpAny (model prog w) A (getAttr? (.ref a) "__class__") Q E ⟨h,g,d,t,os⟩:=by
 unfold getAttr? getAttrBy?
 repeat (any_goals (first | assumption | with_reducible apply class_by_x X hx hc | wp_step))
theorem isi_self {Q:Value→Shared→Prop} (hx:h.get? a = some o) (hc:o.cls = .ref C) (hq:Q (.bool true) ⟨h,g,d,t,os⟩):wpAny (model prog w) A (call (.builtin "isinstance") [.ref a,.ref C]) Q E ⟨h,g,d,t,os⟩:=by
 refine call_function_meets (S:=fun _ R s=>s = ⟨h,g,d,t,os⟩∧R (.ok (.ret (.bool true))) s) F.kind_isinstance F.plain_isinstance F.entry_isinstance (F.args_isinstance_2 _ _) (fun _ _ _ _ s hs=>?_) ⟨rfl,hq⟩
 obtain ⟨rfl,hs⟩:=hs
 refine isinstance_outer ?_ (by intro e;cases e)
 repeat (any_goals (first | assumption | (with_reducible refine wpAny_loadPart_at hx ?_;rw [hc]) | wp_step))
theorem isi_other {Q:Value→Shared→Prop} (X:XCls h C Z) (Y:XCls h D Z) (hne:C ≠ D) (hnz:Z ≠ D) (hx:h.get? a = some o) (hc:o.cls = .ref C) (hq:Q (.bool false) ⟨h,g,d,t + 1,os⟩):wpAny (model prog w) A (call (.builtin "isinstance") [.ref a,.ref D]) Q E ⟨h,g,d,t,os⟩:=by
 refine call_function_meets (S:=fun _ R s=>s = ⟨h,g,d,t,os⟩∧R (.ok (.ret (.bool false))) ⟨h,g,d,t + 1,os⟩) F.kind_isinstance F.plain_isinstance F.entry_isinstance (F.args_isinstance_2 _ _) (fun _ _ _ _ s hs=>?_) ⟨rfl,hq⟩
 obtain ⟨rfl,hs⟩:=hs
 refine isinstance_outer ?_ (by intro e;cases e)
 obtain ⟨_,_,_,y1,⟨_,_,_,_,_,_,_,_,_,_,_,_,_,_,rfl⟩,_,_⟩:=Y.obj
 obtain ⟨_,_,_,x1,⟨_,_,_,_,_,_,_,_,_,_,_,_,_,_,rfl⟩,_,_⟩:=X.obj
 have n1:(Value.ref C == Value.ref D) = false:=beq_eq_false_iff_ne.mpr fun q=>hne (Value.ref.inj q)
 have n2:(Value.ref C::.ref Z::veMro).contains (.ref D) = false:=by
  have e1:(Value.ref D == Value.ref C) = false:=beq_eq_false_iff_ne.mpr fun q=>hne (Value.ref.inj q).symm
  have e2:(Value.ref D == Value.ref Z) = false:=beq_eq_false_iff_ne.mpr fun q=>hnz (Value.ref.inj q).symm
  rw [List.contains_cons,List.contains_cons,e1,e2];rfl
 repeat (any_goals (first | assumption | (with_reducible refine wpAny_loadPart_at hx ?_;rw [hc]) | with_reducible refine wpAny_loadPart_at y1 ?_ | with_reducible refine wpAny_loadPart_at x1 ?_ | (with_reducible refine isSub_x X ?_;rw [n2]) | with_reducible apply class_attr_x X hx hc | wp_step))
theorem isi_ve {Q:Value→Shared→Prop} (X:XCls h C Z) (hx:h.get? a = some o) (hc:o.cls = .ref C) (hq:Q (.bool true) ⟨h,g,d,t,os⟩):wpAny (model prog w) A (call (.builtin "isinstance") [.ref a,.type "ValueError"]) Q E ⟨h,g,d,t,os⟩:=by
 refine call_function_meets (S:=fun _ R s=>s = ⟨h,g,d,t,os⟩∧R (.ok (.ret (.bool true))) s) F.kind_isinstance F.plain_isinstance F.entry_isinstance (F.args_isinstance_2 _ _) (fun _ _ _ _ s hs=>?_) ⟨rfl,hq⟩
 obtain ⟨rfl,hs⟩:=hs
 refine isinstance_outer ?_ (by intro e;cases e)
 have n1:(Value.ref C == Value.type "ValueError") = false:=rfl
 have n2:(Value.ref C::.ref Z::veMro).contains (.type "ValueError") = true:=rfl
 have hty:typeOf (.type "ValueError") = pure (.type "type"):=by kernel_rfl
 repeat (any_goals (first | assumption | (with_reducible refine wpAny_loadPart_at hx ?_;rw [hc]) | (with_reducible refine isSub_x X ?_;rw [n2]) | wp_step))
theorem matches_x {M:Model} {Q:Bool→Shared→Prop} (X:XCls h C Z) (hx:h.get? a = some o) (hc:o.cls = .ref C) (hq:Q true ⟨h,g,d,t,os⟩):wpAny M A (excMatches (.ref a) (.ref Z)) Q E ⟨h,g,d,t,os⟩:=by
 obtain ⟨_,_,_,g1,⟨_,_,_,_,_,_,_,_,_,_,_,_,_,_,rfl⟩,_,_⟩:=X.sup
 have hcB:(Value.ref Z::veMro).contains (.type "BaseException") = true:=by rw [List.contains_cons];rfl
 have hcC:(Value.ref C::.ref Z::veMro).contains (.ref Z) = true:=by simp
 have f:=tc_notTuple
 unfold excMatches
 repeat (first | (with_reducible refine wpAny_loadPart_at hx ?_;rw [hc]) | with_reducible refine wpAny_loadPart_at g1 ?_ | (with_reducible refine wpAny_isSubtype_exc g1 ?_;rw [hcB]) | (with_reducible refine isSub_x X ?_;rw [hcC]) | wp_step)
 exact hq
end
open PySem
theorem none_some {α:Type} {x:α} {G:Prop} (h:(none:Option α) = some x):G:=nomatch h
set_option genInjectivity true in
inductive AV where
 | none
 | bool (b:Bool)
 | int (i:Int)
 | str (x:Str)
 | tup (vs:List AV)
 | fl (vs:List AV)
 | ref (n:Nat)
 | rng (a b c:Int)
 | dict (ks:List Str) (vs:List AV)
 | exc (c:Addr)
 | obj (c:Addr) (ks:List Str) (vs:List AV)
 deriving Inhabited
noncomputable abbrev AH:=List (List AV)
structure Sx where
 ad:List Addr
 prog:Program
 w:World
noncomputable def rngOk (a b c:Int):Prop:=(-1000000 ≤ a∧a ≤ 1000000)∧(-1000000 ≤ b∧b ≤ 1000000)∧(c = 1∧c ≤ 1000)
noncomputable def PT (h:Heap) (a:Addr) (items:Array Value):Prop:=∃ n,h.get? a = some { cls:=.type "tuple",data:=.seq items n }
theorem PT.at {h h':Heap} {a:Addr} {items:Array Value} (p:PT h a items) (k:∀ o,h.get? a = some o→h'.get? a = some o):PT h' a items:=by obtain ⟨n,e⟩:=p;exact ⟨n,k _ e⟩
theorem PT.get {h:Heap} {a:Addr} {items:Array Value} (x:PT h a items):∃ o,h.get? a = some o:=by obtain ⟨_,ho⟩:=x;exact ⟨_,ho⟩
theorem PT.isTuple {h:Heap} {a:Addr} {items:Array Value} (x:PT h a items):h.IsTuple a items:=by obtain ⟨n,ho⟩:=x;exact ⟨_,ho,rfl,n,rfl⟩
theorem PL.get {h:Heap} {a:Addr} {items:Array Value} (x:h.PlainList a items):∃ o,h.get? a = some o:=by obtain ⟨_,ho⟩:=x;exact ⟨_,ho⟩
theorem PlainList.at' {h h':Heap} {a:Addr} {items:Array Value} (p:h.PlainList a items) (k:∀ o,h.get? a = some o→h'.get? a = some o):h'.PlainList a items:=by obtain ⟨n,e⟩:=p;exact ⟨n,k _ e⟩
theorem PL.isList {h:Heap} {a:Addr} {items:Array Value} (p:h.PlainList a items):h.IsList a items:=by obtain ⟨n,e⟩:=p;exact ⟨_,e,rfl,n,rfl⟩
noncomputable def XI (h:Heap) (a c:Addr):Prop:=∃ o,h.get? a = some o∧o.cls = .ref c
theorem XI.get {h:Heap} {a c:Addr} (x:XI h a c):∃ o,h.get? a = some o:=by obtain ⟨o,ho,_⟩:=x;exact ⟨o,ho⟩
theorem XI.at {h h':Heap} {a c:Addr} (x:XI h a c) (k:∀ o,h.get? a = some o→h'.get? a = some o):XI h' a c:=by obtain ⟨o,ho,q⟩:=x;exact ⟨o,k _ ho,q⟩
noncomputable def DMap (prog:Program) (w:World) (h:Heap) (a:Addr) (f:Str→Option Value):Prop:=a ≠ sysModules∧h.MapOf (strKind prog w) a f
noncomputable def OMap (h:Heap) (a d c:Addr) (f:Str→Option Value):Prop:=d ≠ a∧(∃ o,h.get? a = some o∧o.cls = .ref c∧(∀ x,o.data ≠ .cls x)∧o.dict = some d)∧h.Ns1 d f
theorem OMap.get {h:Heap} {a d c:Addr} {f:Str→Option Value} (x:OMap h a d c f):∃ o,h.get? a = some o:=by obtain ⟨_,⟨o,e,_⟩,_⟩:=x;exact ⟨o,e⟩
theorem OMap.getD {h:Heap} {a d c:Addr} {f:Str→Option Value} (x:OMap h a d c f):∃ o,h.get? d = some o:=by obtain ⟨_,_,o,_,_,e,_⟩:=x;exact ⟨o,e⟩
theorem OMap.at {h h':Heap} {a d c:Addr} {f:Str→Option Value} (x:OMap h a d c f) (k:∀ o,h.get? a = some o→h'.get? a = some o) (k':∀ o,h.get? d = some o→h'.get? d = some o):OMap h' a d c f:=
 by obtain ⟨n,⟨o,e,r⟩,m⟩:=x;exact ⟨n,⟨o,k _ e,r⟩,m.at k'⟩
theorem OMap.inst {h:Heap} {a d c:Addr} {f:Str→Option Value} (x:OMap h a d c f):h.Inst a c f:=by obtain ⟨n,⟨o,e,r1,r2,r3⟩,m⟩:=x;exact ⟨o,e,r1,r2,.inr ⟨d,r3,n,m⟩⟩
mutual
inductive VRel (S:Sx) (ρ:List Addr) (h:Heap):AV→Value→Prop
 | none:VRel S ρ h .none .none
 | bool (b:Bool):VRel S ρ h (.bool b) (.bool b)
 | int (i:Int) (t:Tok):VRel S ρ h (.int i) (.int i t)
 | str (x:Str) (t:Tok):VRel S ρ h (.str x) (.str x t)
 | tup {a:Addr} {items:Array Value} {vs:List AV}:a ∉ ρ→a ∉ S.ad→PT h a items→VRels S ρ h vs items.toList→VRel S ρ h (.tup vs) (.ref a)
 | fl {a:Addr} {items:Array Value} {vs:List AV}:a ∉ ρ→a ∉ S.ad→h.PlainList a items→VRels S ρ h vs items.toList→VRel S ρ h (.fl vs) (.ref a)
 | ref {i:Nat} {a:Addr}:ρ[i]? = some a→VRel S ρ h (.ref i) (.ref a)
 | rng {a:Addr} {i j k:Int} {t u v:Tok}:rngOk i j k→a ∉ ρ→a ∉ S.ad→IsRange h a i j k t u v→VRel S ρ h (.rng i j k) (.ref a)
 | dict {a:Addr} {ks:List Str} {vs:List AV} {xs:List Value} {f:Str→Option Value}:a ∉ ρ→a ∉ S.ad→DMap S.prog S.w h a f→(∀ k,f k = (ks.zip xs).lookup k)→VRels S ρ h vs xs→VRel S ρ h (.dict ks vs) (.ref a)
 | exc {a c:Addr}:a ∉ ρ→a ∉ S.ad→XI h a c→VRel S ρ h (.exc c) (.ref a)
 | obj {a d c:Addr} {ks:List Str} {vs:List AV} {xs:List Value} {f:Str→Option Value}:a ∉ ρ→a ∉ S.ad→d ∉ ρ→d ∉ S.ad→OMap h a d c f→(∀ k,f k = (ks.zip xs).lookup k)→VRels S ρ h vs xs→VRel S ρ h (.obj c ks vs) (.ref a)
inductive VRels (S:Sx) (ρ:List Addr) (h:Heap):List AV→List Value→Prop
 | nil:VRels S ρ h [] []
 | cons {v:AV} {vs:List AV} {x:Value} {xs:List Value}:VRel S ρ h v x→VRels S ρ h vs xs→VRels S ρ h (v::vs) (x::xs)
end
theorem VRels.ind {S:Sx} {ρ:List Addr} {h:Heap} {M:List AV→List Value→Prop} (hn:M [] []) (hc:∀ v vs x xs,VRel S ρ h v x→VRels S ρ h vs xs→M vs xs→M (v::vs) (x::xs)) {vs:List AV} {xs:List Value} (V:VRels S ρ h vs xs):M vs xs:=
 VRels.rec (motive_1:=fun _ _ _=>True) (motive_2:=fun vs xs _=>M vs xs) trivial (fun _=>trivial) (fun _ _=>trivial) (fun _ _=>trivial) (fun _ _ _ _ _=>trivial) (fun _ _ _ _ _=>trivial) (fun _=>trivial) (fun _ _ _ _=>trivial) (fun _ _ _ _ _ _=>trivial) (fun _ _ _=>trivial) (fun _ _ _ _ _ _ _ _=>trivial) hn (fun hv hr _ ih=>hc _ _ _ _ hv hr ih) V
theorem DMap.get {prog:Program} {w:World} {h:Heap} {a:Addr} {f:Str→Option Value} (x:DMap prog w h a f):∃ o,h.get? a = some o:=by obtain ⟨_,o,_,_,e,_⟩:=x;exact ⟨o,e⟩
theorem DMap.at {prog:Program} {w:World} {h h':Heap} {a:Addr} {f:Str→Option Value} (x:DMap prog w h a f) (k:∀ o,h.get? a = some o→h'.get? a = some o):DMap prog w h' a f:=
 by obtain ⟨n,o,es,ep,e,r⟩:=x;exact ⟨n,o,es,ep,k _ e,r⟩
noncomputable def Kp (h h':Heap):Prop:=∀ b o,h.get? b = some o→h'.get? b = some o
theorem Kp.refl (h:Heap):Kp h h:=fun _ _ e=>e
theorem Kp.trans {h h' h'':Heap} (x:Kp h h') (y:Kp h' h''):Kp h h'':=fun b o e=>y b o (x b o e)
noncomputable def Fresh (h:Heap) (e:List Addr):Prop:=∀ a ∈ e,h.get? a = none
theorem not_mem_app {h:Heap} {a:Addr} {ρ e:List Addr} (ha:a ∉ ρ) (hg:∃ o,h.get? a = some o) (hf:Fresh h e):a ∉ ρ++e:=fun hm=>by
 rcases List.mem_append.mp hm with q | q
 ·exact ha q
 ·obtain ⟨o,ho⟩:=hg
  rw [hf a q] at ho;cases ho
theorem VRel.mono {S:Sx} {ρ e:List Addr} {h h':Heap} (hk:∀ a o,a ∉ ρ→h.get? a = some o→h'.get? a = some o) (hf:Fresh h e) {v:AV} {x:Value} (V:VRel S ρ h v x):VRel S (ρ++e) h' v x:=
 VRel.rec (motive_1:=fun v x _=>VRel S (ρ++e) h' v x) (motive_2:=fun v x _=>VRels S (ρ++e) h' v x)
  .none (fun b=>.bool b) (fun i t=>.int i t) (fun x t=>.str x t)
  (fun ha hs hi _ ih=>.tup (not_mem_app ha hi.get hf) hs (hi.at fun o ho=>hk _ o ha ho) ih)
  (fun ha hs hi _ ih=>.fl (not_mem_app ha (PL.get hi) hf) hs (PlainList.at' hi fun o ho=>hk _ o ha ho) ih)
  (fun hi=>.ref (by rw [List.getElem?_append_left];exact hi;exact (List.getElem?_eq_some_iff.mp hi).1))
  (fun hr ha hs hi=>.rng hr (not_mem_app ha ⟨_,hi⟩ hf) hs (hk _ _ ha hi))
  (fun ha hs hm he _ ih=>.dict (not_mem_app ha (DMap.get hm) hf) hs (DMap.at hm fun o ho=>hk _ o ha ho) he ih)
  (fun ha hs hx=>.exc (not_mem_app ha hx.get hf) hs (hx.at fun o ho=>hk _ o ha ho))
  (fun ha hs hd hs' hm he _ ih=>.obj (not_mem_app ha hm.get hf) hs (not_mem_app hd hm.getD hf) hs' (hm.at (fun o ho=>hk _ o ha ho) fun o ho=>hk _ o hd ho) he ih)
  .nil (fun _ _ i1 i2=>.cons i1 i2) V
theorem VRels.mono {S:Sx} {ρ e:List Addr} {h h':Heap} (hk:∀ a o,a ∉ ρ→h.get? a = some o→h'.get? a = some o) (hf:Fresh h e) {vs:List AV} {xs:List Value} (V:VRels S ρ h vs xs):VRels S (ρ++e) h' vs xs:=
 VRels.ind (M:=fun vs xs=>VRels S (ρ++e) h' vs xs) .nil (fun _ _ _ _ hv _ i2=>.cons (VRel.mono hk hf hv) i2) V
theorem VRel.kp {S:Sx} {ρ e:List Addr} {h h':Heap} {v:AV} {x:Value} (V:VRel S ρ h v x) (hk:Kp h h') (hf:Fresh h e):VRel S (ρ++e) h' v x:=V.mono (fun a o _ q=>hk a o q) hf
theorem VRels.kp {S:Sx} {ρ e:List Addr} {h h':Heap} {v:List AV} {x:List Value} (V:VRels S ρ h v x) (hk:Kp h h') (hf:Fresh h e):VRels S (ρ++e) h' v x:=V.mono (fun a o _ q=>hk a o q) hf
theorem Fresh.nil (h:Heap):Fresh h []:=fun _ hm=>nomatch hm
theorem VRel.kp0 {S:Sx} {ρ:List Addr} {h h':Heap} {v:AV} {x:Value} (V:VRel S ρ h v x) (hk:Kp h h'):VRel S ρ h' v x:=by simpa using V.kp hk (Fresh.nil h)
theorem VRels.kp0 {S:Sx} {ρ:List Addr} {h h':Heap} {v:List AV} {x:List Value} (V:VRels S ρ h v x) (hk:Kp h h'):VRels S ρ h' v x:=by simpa using V.kp hk (Fresh.nil h)
theorem VRel.off {S:Sx} {ρ:List Addr} {h h':Heap} {v:AV} {x:Value} (V:VRel S ρ h v x) (hk:∀ a o,a ∉ ρ→h.get? a = some o→h'.get? a = some o):VRel S ρ h' v x:=by simpa using V.mono hk (Fresh.nil h)
theorem VRels.off {S:Sx} {ρ:List Addr} {h h':Heap} {v:List AV} {x:List Value} (V:VRels S ρ h v x) (hk:∀ a o,a ∉ ρ→h.get? a = some o→h'.get? a = some o):VRels S ρ h' v x:=by simpa using V.mono hk (Fresh.nil h)
section
variable {S:Sx} {ρ:List Addr} {h:Heap} {vs ws:List AV} {xs ys:List Value}
theorem VRels.length (V:VRels S ρ h vs xs):vs.length = xs.length:=VRels.ind (M:=fun vs xs=>vs.length = xs.length) rfl (fun _ _ _ _ _ _ ih=>congrArg (· + 1) ih) V
theorem VRels.app (V:VRels S ρ h vs xs) (w:VRels S ρ h ws ys):VRels S ρ h (vs++ws) (xs++ys):=VRels.ind (M:=fun vs xs=>VRels S ρ h (vs++ws) (xs++ys)) w (fun _ _ _ _ hv _ ih=>.cons hv ih) V
theorem VRels.get {i:Nat} {v:AV} (V:VRels S ρ h vs xs) (e:vs[i]? = some v):∃ x,xs[i]? = some x∧VRel S ρ h v x:=
 VRels.ind (M:=fun vs xs=>∀ i,vs[i]? = some v→∃ x,xs[i]? = some x∧VRel S ρ h v x) (fun _ e=>by simp at e) (fun _ _ _ _ hv _ ih i e=>match i,e with
  | 0,e=>⟨_,rfl,Option.some.inj e ▸ hv⟩
  | i + 1,e=>ih i e) V i e
theorem VRels.getR {i:Nat} {x:Value} (V:VRels S ρ h vs xs) (e:xs[i]? = some x):∃ v,vs[i]? = some v∧VRel S ρ h v x:=
 VRels.ind (M:=fun vs xs=>∀ i,xs[i]? = some x→∃ v,vs[i]? = some v∧VRel S ρ h v x) (fun _ e=>by simp at e) (fun _ _ _ _ hv _ ih i e=>match i,e with
  | 0,e=>⟨_,rfl,Option.some.inj e ▸ hv⟩
  | i + 1,e=>ih i e) V i e
theorem VRels.rev (V:VRels S ρ h vs xs):VRels S ρ h vs.reverse xs.reverse:=VRels.ind (M:=fun vs xs=>VRels S ρ h vs.reverse xs.reverse) .nil (fun _ _ _ _ hv _ ih=>by rw [List.reverse_cons,List.reverse_cons];exact ih.app (.cons hv .nil)) V
theorem VRels.take (n:Nat) (V:VRels S ρ h vs xs):VRels S ρ h (vs.take n) (xs.take n):=VRels.ind (M:=fun vs xs=>∀ n,VRels S ρ h (vs.take n) (xs.take n)) (fun n=>by rw [List.take_nil,List.take_nil];exact .nil) (fun _ _ _ _ hv _ ih n=>match n with
  | 0=>.nil
  | n + 1=>.cons hv (ih n)) V n
theorem VRels.drop (n:Nat) (V:VRels S ρ h vs xs):VRels S ρ h (vs.drop n) (xs.drop n):=VRels.ind (M:=fun vs xs=>∀ n,VRels S ρ h (vs.drop n) (xs.drop n)) (fun n=>by rw [List.drop_nil,List.drop_nil];exact .nil) (fun _ _ _ _ hv hr ih n=>match n with
  | 0=>.cons hv hr
  | n + 1=>ih n) V n
theorem VRels.set {v:AV} {x:Value} (hv:VRel S ρ h v x) (n:Nat) (V:VRels S ρ h vs xs):VRels S ρ h (vs.set n v) (xs.set n x):=VRels.ind (M:=fun vs xs=>∀ n,VRels S ρ h (vs.set n v) (xs.set n x)) (fun _=>.nil) (fun _ _ _ _ hw hr ih n=>match n with
  | 0=>.cons hv hr
  | n + 1=>.cons hw (ih n)) V n
theorem VRels.erase (n:Nat) (V:VRels S ρ h vs xs):VRels S ρ h (vs.eraseIdx n) (xs.eraseIdx n):=VRels.ind (M:=fun vs xs=>∀ n,VRels S ρ h (vs.eraseIdx n) (xs.eraseIdx n)) (fun _=>.nil) (fun _ _ _ _ hw hr ih n=>match n with
  | 0=>hr
  | n + 1=>.cons hw (ih n)) V n
end
noncomputable def opt {α:Type} (o:Option α) (k:α→Prop):Prop:=match o with
 | some a=>k a
 | Option.none=>False
theorem opt_of {α:Type} {o:Option α} {k:α→Prop} (h:opt o k):∃ a,o = some a∧k a:=by
 cases o with
 | none=>exact False.elim h
 | some a=>exact ⟨a,rfl,h⟩
@[simp] theorem opt_some {α:Type} (a:α) (k:α→Prop):opt (some a) k = k a:=rfl
structure HSim (S:Sx) (ρ:List Addr) (H:AH) (h:Heap):Prop where
 len:ρ.length = H.length
 nodup:ρ.Nodup
 off:∀ a ∈ ρ,a ∉ S.ad
 obj:∀ (i:Nat) (vs:List AV),H[i]? = some vs→∃ a items,ρ[i]? = some a∧h.PlainList a items∧VRels S ρ h vs items.toList
theorem HSim.get {S:Sx} {ρ:List Addr} {H:AH} {h:Heap} (X:HSim S ρ H h) {i:Nat} {vs:List AV} {a:Addr} (hi:H[i]? = some vs) (ha:ρ[i]? = some a):∃ items,h.PlainList a items∧VRels S ρ h vs items.toList:=by
 obtain ⟨a',items,e,p,v⟩:=X.obj i vs hi
 rw [ha] at e;cases e
 exact ⟨items,p,v⟩
theorem HSim.kp {S:Sx} {ρ:List Addr} {H:AH} {h h':Heap} (X:HSim S ρ H h) (hk:Kp h h'):HSim S ρ H h' where
 len:=X.len
 nodup:=X.nodup
 off:=X.off
 obj:=fun i vs e=>by
  obtain ⟨a,items,e1,p,v⟩:=X.obj i vs e
  exact ⟨a,items,e1,PlainList.at' p fun o q=>hk _ o q,v.kp0 hk⟩
theorem HSim.mem {S:Sx} {ρ:List Addr} {H:AH} {h:Heap} (X:HSim S ρ H h) {a:Addr} (ha:a ∈ ρ):∃ o,h.get? a = some o:=by
 obtain ⟨i,hi,rfl⟩:=List.mem_iff_getElem.mp ha
 have hi':i < H.length:=by rw [← X.len];exact hi
 obtain ⟨a',items,e1,⟨n,p⟩,_⟩:=X.obj i H[i] (by simp [hi'])
 rw [List.getElem?_eq_getElem hi] at e1
 cases e1
 exact ⟨_,p⟩
theorem HSim.mem' {S:Sx} {ρ:List Addr} {H:AH} {h:Heap} (X:HSim S ρ H h) {i:Nat} {a:Addr} (ha:ρ[i]? = some a):∃ items,h.PlainList a items∧True:=by
 obtain ⟨hi,e⟩:=List.getElem?_eq_some_iff.mp ha
 have hi':i < H.length:=by rw [← X.len];exact hi
 obtain ⟨items,p,_⟩:=X.get (i:=i) (vs:=H[i]) (by simp [hi']) ha
 exact ⟨items,p,trivial⟩
theorem HSim.push {S:Sx} {ρ:List Addr} {H:AH} {h h':Heap} {a:Addr} {items:Array Value} {vs:List AV} (X:HSim S ρ H h) (hk:Kp h h') (hn:h.get? a = none) (hS:a ∉ S.ad) (p:h'.PlainList a items) (v:VRels S ρ h vs items.toList)
  : HSim S (ρ++[a]) (H++[vs]) h' where
 len:=by simp [X.len]
 nodup:=by
  rw [List.nodup_append]
  refine ⟨X.nodup,by simp,?_⟩
  intro b hb c hc e
  simp at hc
  obtain ⟨o,ho⟩:=X.mem hb
  rw [e,hc,hn] at ho;cases ho
 off:=fun b hb=>by
  rcases List.mem_append.mp hb with q | q
  ·exact X.off b q
  ·simp at q;subst q;exact hS
 obj:=fun i ws e=>by
  have fr:Fresh h [a]:=fun b hb=>by simp at hb;subst hb;exact hn
  by_cases hi:i < H.length
  ·rw [List.getElem?_append_left hi] at e
   obtain ⟨b,its,e1,p1,v1⟩:=X.obj i ws e
   exact ⟨b,its,by rw [List.getElem?_append_left (by rw [X.len];exact hi)];exact e1,PlainList.at' p1 fun o q=>hk _ o q,v1.kp hk fr⟩
  ·rw [List.getElem?_append_right (Nat.le_of_not_lt hi)] at e
   have:i - H.length = 0:=by
    cases q:i - H.length with
    | zero=>rfl
    | succ k=>rw [q] at e;simp at e
   rw [this] at e;simp at e;subst e
   refine ⟨a,items,?_,p,?_⟩
   ·rw [List.getElem?_append_right (by rw [X.len];exact Nat.le_of_not_lt hi),X.len,this];rfl
   ·exact v.kp hk fr
open PySem
mutual
inductive Ren (φ:List Nat) (H:AH):AV→AV→Prop
 | none:Ren φ H .none .none
 | bool (b:Bool):Ren φ H (.bool b) (.bool b)
 | int (i:Int):Ren φ H (.int i) (.int i)
 | str (x:Str):Ren φ H (.str x) (.str x)
 | tup {vs ws:List AV}:Rens φ H vs ws→Ren φ H (.tup vs) (.tup ws)
 | fl {vs ws:List AV}:Rens φ H vs ws→Ren φ H (.fl vs) (.fl ws)
 | ref {i j:Nat}:φ[i]? = some j→Ren φ H (.ref j) (.ref i)
 | rng (i j k:Int):Ren φ H (.rng i j k) (.rng i j k)
 | dict {ks:List Str} {vs ws:List AV}:Rens φ H vs ws→Ren φ H (.dict ks vs) (.dict ks ws)
 | exc (c:Addr):Ren φ H (.exc c) (.exc c)
 | obj {c:Addr} {ks:List Str} {vs ws:List AV}:Rens φ H vs ws→Ren φ H (.obj c ks vs) (.obj c ks ws)
 | frz {j:Nat} {xs ys:List AV}:j ∉ φ→H[j]? = some xs→Rens φ H xs ys→Ren φ H (.ref j) (.fl ys)
inductive Rens (φ:List Nat) (H:AH):List AV→List AV→Prop
 | nil:Rens φ H [] []
 | cons {v w:AV} {vs ws:List AV}:Ren φ H v w→Rens φ H vs ws→Rens φ H (v::vs) (w::ws)
end
theorem Rens.ind {φ:List Nat} {H:AH} {M:List AV→List AV→Prop} (hn:M [] []) (hc:∀ v vs w ws,Ren φ H v w→Rens φ H vs ws→M vs ws→M (v::vs) (w::ws)) {vs ws:List AV} (r:Rens φ H vs ws):M vs ws:=
 Rens.rec (motive_1:=fun _ _ _=>True) (motive_2:=fun vs ws _=>M vs ws) trivial (fun _=>trivial) (fun _=>trivial) (fun _=>trivial) (fun _ _=>trivial) (fun _ _=>trivial) (fun _=>trivial) (fun _ _ _=>trivial) (fun _ _=>trivial) (fun _=>trivial) (fun _ _=>trivial) (fun _ _ _ _=>trivial) hn (fun hv hr _ ih=>hc _ _ _ _ hv hr ih) r
theorem Rens.app {φ:List Nat} {H:AH} {a b c d:List AV} (x:Rens φ H a b) (y:Rens φ H c d):Rens φ H (a++c) (b++d):=Rens.ind (M:=fun a b=>Rens φ H (a++c) (b++d)) y (fun _ _ _ _ r _ ih=>.cons r ih) x
theorem Rens.length {φ:List Nat} {H:AH} {a b:List AV} (x:Rens φ H a b):a.length = b.length:=Rens.ind (M:=fun a b=>a.length = b.length) rfl (fun _ _ _ _ _ _ ih=>congrArg (· + 1) ih) x
theorem Rens.ofAll {φ:List Nat} {H:AH} {α:Type} {f g:α→AV}:∀ {l:List α},(∀ x ∈ l,Ren φ H (f x) (g x))→Rens φ H (l.map f) (l.map g)
 | [],_=>.nil
 | x::r,h=>.cons (h x (.head _)) (Rens.ofAll fun y hy=>h y (.tail _ hy))
theorem Rens.self {φ:List Nat} {H:AH}:∀ {l:List AV},(∀ x ∈ l,Ren φ H x x)→Rens φ H l l
 | [],_=>.nil
 | x::_,h=>.cons (h x (.head _)) (Rens.self fun y hy=>h y (.tail _ hy))
theorem Rens.ints {φ:List Nat} {H:AH} (l:List Int):Rens φ H (l.map AV.int) (l.map AV.int):=Rens.ofAll fun x _=>.int x
theorem Rens.strs {φ:List Nat} {H:AH} (l:List Str):Rens φ H (l.map AV.str) (l.map AV.str):=Rens.ofAll fun x _=>.str x
noncomputable def pick (ρ:List Addr) (φ:List Nat):List Addr:=φ.filterMap fun j=>ρ[j]?
theorem pick_get {ρ:List Addr}:∀ {φ:List Nat},(∀ j ∈ φ,j < ρ.length)→∀ {i j:Nat},φ[i]? = some j→(pick ρ φ)[i]? = ρ[j]?
 | [],_,_,_,e=>by simp at e
 | k::r,hl,i,j,e=>by
  have hk:k < ρ.length:=hl k (.head _)
  have e0:ρ[k]? = some ρ[k]:=by simp [hk]
  have ih:=@pick_get ρ r (fun x hx=>hl x (.tail _ hx))
  unfold pick at ih ⊢
  rw [List.filterMap_cons,e0]
  cases i with
  | zero=>simp at e;subst e;simp [hk]
  | succ i=>simp at e;simpa using ih e
theorem pick_length {ρ:List Addr}:∀ {φ:List Nat},(∀ j ∈ φ,j < ρ.length)→(pick ρ φ).length = φ.length
 | [],_=>rfl
 | k::r,hl=>by
  have hk:k < ρ.length:=hl k (.head _)
  have e0:ρ[k]? = some ρ[k]:=by simp [hk]
  have ih:=@pick_length ρ r (fun x hx=>hl x (.tail _ hx))
  unfold pick at ih ⊢
  rw [List.filterMap_cons,e0];simp [ih]
theorem pick_mem {ρ:List Addr} {φ:List Nat} {a:Addr} (h:a ∈ pick ρ φ):∃ j ∈ φ,ρ[j]? = some a:=by
 unfold pick at h
 obtain ⟨j,hj,e⟩:=List.mem_filterMap.mp h
 exact ⟨j,hj,e⟩
theorem nodup_idx {ρ:List Addr} (hn:ρ.Nodup) {i j:Nat} {a:Addr} (hi:ρ[i]? = some a) (hj:ρ[j]? = some a):i = j:=by
 obtain ⟨hi1,hi2⟩:=List.getElem?_eq_some_iff.mp hi
 obtain ⟨hj1,hj2⟩:=List.getElem?_eq_some_iff.mp hj
 have hp:=List.pairwise_iff_getElem.mp hn
 rcases Nat.lt_trichotomy i j with q | q | q
 ·exact absurd (hi2.trans hj2.symm) (hp i j hi1 hj1 q)
 ·exact q
 ·exact absurd (hj2.trans hi2.symm) (hp j i hj1 hi1 q)
theorem pick_nodup {ρ:List Addr} (hn:ρ.Nodup):∀ {φ:List Nat},φ.Nodup→(pick ρ φ).Nodup
 | [],_=>by simp [pick]
 | k::r,h=>by
  have ih:=@pick_nodup ρ hn r (List.nodup_cons.mp h).2
  unfold pick at ih ⊢
  rw [List.filterMap_cons]
  cases e:ρ[k]? with
  | none=>exact ih
  | some a=>
   refine List.nodup_cons.mpr ⟨fun hm=>?_,ih⟩
   obtain ⟨j,hj,e'⟩:=pick_mem (ρ:=ρ) (φ:=r) hm
   have:=nodup_idx hn e e'
   subst this
   exact (List.nodup_cons.mp h).1 hj
section
variable {S:Sx} {ρ:List Addr} {h:Heap} {x:Value}
inductive VTup (S:Sx) (ρ:List Addr) (h:Heap) (vs:List AV):Value→Prop
 | mk {a:Addr} {items:Array Value}:a ∉ ρ→a ∉ S.ad→PT h a items→VRels S ρ h vs items.toList→VTup S ρ h vs (.ref a)
inductive VFl (S:Sx) (ρ:List Addr) (h:Heap) (vs:List AV):Value→Prop
 | mk {a:Addr} {items:Array Value}:a ∉ ρ→a ∉ S.ad→h.PlainList a items→VRels S ρ h vs items.toList→VFl S ρ h vs (.ref a)
inductive VRef (ρ:List Addr) (i:Nat):Value→Prop
 | mk {a:Addr}:ρ[i]? = some a→VRef ρ i (.ref a)
inductive VRng (S:Sx) (ρ:List Addr) (h:Heap) (i j k:Int):Value→Prop
 | mk {a:Addr} {t u v:Tok}:rngOk i j k→a ∉ ρ→a ∉ S.ad→IsRange h a i j k t u v→VRng S ρ h i j k (.ref a)
inductive VDict (S:Sx) (ρ:List Addr) (h:Heap) (ks:List Str) (vs:List AV):Value→Prop
 | mk {a:Addr} {xs:List Value} {f:Str→Option Value}:a ∉ ρ→a ∉ S.ad→DMap S.prog S.w h a f→(∀ k,f k = (ks.zip xs).lookup k)→VRels S ρ h vs xs→VDict S ρ h ks vs (.ref a)
inductive VExc (S:Sx) (ρ:List Addr) (h:Heap) (c:Addr):Value→Prop
 | mk {a:Addr}:a ∉ ρ→a ∉ S.ad→XI h a c→VExc S ρ h c (.ref a)
inductive VObj (S:Sx) (ρ:List Addr) (h:Heap) (c:Addr) (ks:List Str) (vs:List AV):Value→Prop
 | mk {a d:Addr} {xs:List Value} {f:Str→Option Value}:a ∉ ρ→a ∉ S.ad→d ∉ ρ→d ∉ S.ad→OMap h a d c f→(∀ k,f k = (ks.zip xs).lookup k)→VRels S ρ h vs xs→VObj S ρ h c ks vs (.ref a)
noncomputable def VInv (S:Sx) (ρ:List Addr) (h:Heap) (x:Value):AV→Prop
 | .none=>x = .none
 | .bool b=>x = .bool b
 | .int i=>∃ t,x = .int i t
 | .str z=>∃ t,x = .str z t
 | .tup vs=>VTup S ρ h vs x
 | .fl vs=>VFl S ρ h vs x
 | .ref i=>VRef ρ i x
 | .rng i j k=>VRng S ρ h i j k x
 | .dict ks vs=>VDict S ρ h ks vs x
 | .exc c=>VExc S ρ h c x
 | .obj c ks vs=>VObj S ρ h c ks vs x
theorem VRel.inv {v:AV} (V:VRel S ρ h v x):VInv S ρ h x v:=
 VRel.casesOn (motive_1:=fun v x _=>VInv S ρ h x v) V rfl (fun _=>rfl) (fun _ t=>⟨t,rfl⟩) (fun _ t=>⟨t,rfl⟩) (fun a b c d=>VTup.mk a b c d) (fun a b c d=>VFl.mk a b c d) (fun a=>VRef.mk a) (fun a b c d=>VRng.mk a b c d) (fun a b c d e=>VDict.mk a b c d e) (fun a b c=>VExc.mk a b c) (fun a b c d e f g=>VObj.mk a b c d e f g)
theorem VRel.ofNone (V:VRel S ρ h .none x):x = .none:=V.inv
theorem VRel.ofBool {b:Bool} (V:VRel S ρ h (.bool b) x):x = .bool b:=V.inv
theorem VRel.ofInt {i:Int} (V:VRel S ρ h (.int i) x):∃ t,x = .int i t:=V.inv
theorem VRel.ofStr {z:Str} (V:VRel S ρ h (.str z) x):∃ t,x = .str z t:=V.inv
theorem VRel.iTup {vs:List AV} (V:VRel S ρ h (.tup vs) x):VTup S ρ h vs x:=V.inv
theorem VRel.iFl {vs:List AV} (V:VRel S ρ h (.fl vs) x):VFl S ρ h vs x:=V.inv
theorem VRel.iRef {i:Nat} (V:VRel S ρ h (.ref i) x):VRef ρ i x:=V.inv
theorem VRel.iRng {i j k:Int} (V:VRel S ρ h (.rng i j k) x):VRng S ρ h i j k x:=V.inv
theorem VRel.iDict {ks:List Str} {vs:List AV} (V:VRel S ρ h (.dict ks vs) x):VDict S ρ h ks vs x:=V.inv
theorem VRel.iExc {c:Addr} (V:VRel S ρ h (.exc c) x):VExc S ρ h c x:=V.inv
theorem VRel.iObj {c:Addr} {ks:List Str} {vs:List AV} (V:VRel S ρ h (.obj c ks vs) x):VObj S ρ h c ks vs x:=V.inv
theorem VRels.of0 {xs:List Value} (V:VRels S ρ h [] xs):xs = []:=
 VRels.ind (M:=fun vs xs=>vs = []→xs = []) (fun _=>rfl) (fun _ _ _ _ _ _ _ e=>nomatch e) V rfl
end
section
variable {S:Sx} {ρ:List Addr} {H:AH} {h:Heap} {φ:List Nat} {S':Sx}
theorem VRels.cons_inv {v:AV} {vs:List AV} {xs:List Value} (V:VRels S ρ h (v::vs) xs):∃ y ys,xs = y::ys∧VRel S ρ h v y∧VRels S ρ h vs ys:=by cases V with | cons a r=>exact ⟨_,_,rfl,a,r⟩
theorem off_pick {a:Addr} (ha:a ∉ ρ):a ∉ pick ρ φ:=fun hm=>by
 obtain ⟨j,_,e⟩:=pick_mem hm
 exact ha (List.mem_of_getElem? e)
theorem VRel.ren (hp:S'.prog = S.prog) (hw:S'.w = S.w) (X:HSim S ρ H h) (hS:∀ a,a ∉ S.ad→(a ∈ ρ→a ∈ S'.ad→False)) (hS2:∀ a,a ∉ ρ→a ∉ S.ad→a ∉ S'.ad) (hl:∀ j ∈ φ,j < ρ.length) {v w:AV} {x:Value} (R:Ren φ H v w) (V:VRel S ρ h v x):VRel S' (pick ρ φ) h w x:=
 Ren.rec (motive_1:=fun v w _=>∀ x:Value,VRel S ρ h v x→VRel S' (pick ρ φ) h w x) (motive_2:=fun v w _=>∀ x:List Value,VRels S ρ h v x→VRels S' (pick ρ φ) h w x)
  (fun _ V=>V.ofNone ▸ .none)
  (fun b _ V=>V.ofBool ▸ .bool b)
  (fun i _ V=>by obtain ⟨_,e⟩:=V.ofInt;exact e ▸ .int i _)
  (fun x _ V=>by obtain ⟨_,e⟩:=V.ofStr;exact e ▸ .str x _)
  (fun _ ih _ V=>by cases V.iTup with | mk ha hs hi hv=>exact .tup (off_pick ha) (hS2 _ ha hs) hi (ih _ hv))
  (fun _ ih _ V=>by cases V.iFl with | mk ha hs hi hv=>exact .fl (off_pick ha) (hS2 _ ha hs) hi (ih _ hv))
  (fun e _ V=>by cases V.iRef with | mk hi=>exact .ref (by rw [pick_get hl e];exact hi))
  (fun i j k _ V=>by cases V.iRng with | mk hr ha hs hi=>exact .rng hr (off_pick ha) (hS2 _ ha hs) hi)
  (fun _ ih _ V=>by cases V.iDict with | mk ha hs hm he hv=>exact .dict (off_pick ha) (hS2 _ ha hs) (by rw [hp,hw];exact hm) he (ih _ hv))
  (fun c _ V=>by cases V.iExc with | mk ha hs hx=>exact .exc (off_pick ha) (hS2 _ ha hs) hx)
  (fun _ ih _ V=>by cases V.iObj with | mk ha hs hd hs' hm he hv=>exact .obj (off_pick ha) (hS2 _ ha hs) (off_pick hd) (hS2 _ hd hs') hm he (ih _ hv))
  (fun hj e _ ih _ V=>by
   cases V.iRef with
   | mk hi=>
    obtain ⟨items,p,vr⟩:=X.get e hi
    exact .fl (fun hm=>by obtain ⟨k,hk,e'⟩:=pick_mem hm;exact hj (nodup_idx X.nodup hi e' ▸ hk)) (fun hm=>hS _ (X.off _ (List.mem_of_getElem? hi)) (List.mem_of_getElem? hi) hm) p (ih _ vr))
  (fun _ V=>V.of0 ▸ .nil)
  (fun _ _ i1 i2 _ V=>by obtain ⟨y,ys,rfl,a,r⟩:=V.cons_inv;exact .cons (i1 _ a) (i2 _ r))
  R x V
theorem VRels.ren (hp:S'.prog = S.prog) (hw:S'.w = S.w) (X:HSim S ρ H h) (hS:∀ a,a ∉ S.ad→(a ∈ ρ→a ∈ S'.ad→False)) (hS2:∀ a,a ∉ ρ→a ∉ S.ad→a ∉ S'.ad) (hl:∀ j ∈ φ,j < ρ.length) {v w:List AV} {x:List Value} (R:Rens φ H v w) (V:VRels S ρ h v x):VRels S' (pick ρ φ) h w x:=
 Rens.ind (M:=fun v w=>∀ x,VRels S ρ h v x→VRels S' (pick ρ φ) h w x) (fun _ V=>V.of0 ▸ .nil) (fun _ _ _ _ r _ ih x V=>by obtain ⟨y,ys,rfl,a,b⟩:=V.cons_inv;exact .cons (VRel.ren hp hw X hS hS2 hl r a) (ih _ b)) R x V
end
structure RenH (φ:List Nat) (H H':AH):Prop where
 len:φ.length = H'.length
 nodup:φ.Nodup
 dom:∀ j ∈ φ,j < H.length
 obj:∀ (i j:Nat) (xs:List AV),φ[i]? = some j→H[j]? = some xs→∃ ys,H'[i]? = some ys∧Rens φ H xs ys
theorem HSim.ren {S:Sx} {ρ:List Addr} {H H':AH} {h:Heap} {φ:List Nat} (X:HSim S ρ H h) (R:RenH φ H H'):HSim S (pick ρ φ) H' h:=by
 have hl:∀ j ∈ φ,j < ρ.length:=fun j hj=>by rw [X.len];exact R.dom j hj
 refine ⟨by rw [pick_length hl,R.len],pick_nodup X.nodup R.nodup,fun a ha=>?_,fun i ws e=>?_⟩
 ·obtain ⟨j,_,e⟩:=pick_mem ha
  exact X.off a (List.mem_of_getElem? e)
 ·have hi:i < φ.length:=by rw [R.len];exact (List.getElem?_eq_some_iff.mp e).1
  have e1:φ[i]? = some φ[i]:=by simp [hi]
  have hj:φ[i] < H.length:=R.dom _ (List.getElem_mem hi)
  have e2:H[φ[i]]? = some H[φ[i]]:=by simp [hj]
  obtain ⟨ys,e3,r⟩:=R.obj i _ _ e1 e2
  rw [e] at e3;cases e3
  obtain ⟨a,items,ea,p,vr⟩:=X.obj _ _ e2
  exact ⟨a,items,by rw [pick_get hl e1];exact ea,p,VRels.ren rfl rfl X (fun b hb hb1 hb2=>hb hb2) (fun b _ hb=>hb) hl r vr⟩
theorem VRel.ren' {S:Sx} {ρ:List Addr} {H:AH} {h:Heap} {φ:List Nat} (X:HSim S ρ H h) (hd:∀ j ∈ φ,j < H.length) {v w:AV} {x:Value} (r:Ren φ H v w) (V:VRel S ρ h v x):VRel S (pick ρ φ) h w x:=
 VRel.ren rfl rfl X (fun b hb _ hb2=>hb hb2) (fun b _ hb=>hb) (fun j hj=>by rw [X.len];exact hd j hj) r V
theorem VRels.frz {S:Sx} {ρ:List Addr} {H:AH} {h:Heap} (X:HSim S ρ H h) {v w:List AV} {x:List Value} (r:Rens [] H v w) (V:VRels S ρ h v x):VRels S [] h w x:=by
 have:=VRels.ren (S:=S) (S':=S) (φ:=[]) rfl rfl X (fun _ h1 _ h2=>h1 h2) (fun _ _ h1=>h1) (fun _ hj=>nomatch hj) r V
 simpa [pick] using this
theorem VRel.frz {S:Sx} {ρ:List Addr} {H:AH} {h:Heap} (X:HSim S ρ H h) {v w:AV} {x:Value} (r:Ren [] H v w) (V:VRel S ρ h v x):VRel S [] h w x:=by
 have:=VRel.ren (S:=S) (S':=S) (φ:=[]) rfl rfl X (fun _ h1 _ h2=>h1 h2) (fun _ _ h1=>h1) (fun _ hj=>nomatch hj) r V
 simpa [pick] using this
mutual
inductive NoFl:AV→Prop
 | none:NoFl .none
 | bool (b:Bool):NoFl (.bool b)
 | int (i:Int):NoFl (.int i)
 | str (x:Str):NoFl (.str x)
 | ref (n:Nat):NoFl (.ref n)
 | rng (i j k:Int):NoFl (.rng i j k)
 | tup {vs:List AV}:NoFls vs→NoFl (.tup vs)
 | obj {c:Addr} {ks:List Str} {vs:List AV}:NoFls vs→NoFl (.obj c ks vs)
inductive NoFls:List AV→Prop
 | nil:NoFls []
 | cons {v:AV} {vs:List AV}:NoFl v→NoFls vs→NoFls (v::vs)
end
theorem NoFls.of {l:List AV} (h:∀ v ∈ l,NoFl v):NoFls l:=by
 induction l with
 | nil=>exact .nil
 | cons v r ih=>exact .cons (h v (.head _)) (ih fun w hw=>h w (.tail _ hw))
theorem NoFls.ints (l:List Int):NoFls (l.map AV.int):=.of fun v hv=>by obtain ⟨i,_,rfl⟩:=List.mem_map.mp hv;exact .int i
theorem NoFls.strs (l:List Str):NoFls (l.map AV.str):=.of fun v hv=>by obtain ⟨i,_,rfl⟩:=List.mem_map.mp hv;exact .str i
mutual
noncomputable def AV.shift (n:Nat):AV→AV
 | .ref i=>.ref (n + i)
 | .tup vs=>.tup (AV.shifts n vs)
 | .fl vs=>.fl (AV.shifts n vs)
 | .dict ks vs=>.dict ks (AV.shifts n vs)
 | .obj c ks vs=>.obj c ks (AV.shifts n vs)
 | v=>v
noncomputable def AV.shifts (n:Nat):List AV→List AV
 | []=>[]
 | v::vs=>AV.shift n v::AV.shifts n vs
end
theorem sh_none (n:Nat):AV.shift n .none = .none:=rfl
theorem sh_bool (n:Nat) (b:Bool):AV.shift n (.bool b) = .bool b:=rfl
theorem sh_int (n:Nat) (b:Int):AV.shift n (.int b) = .int b:=rfl
theorem sh_str (n:Nat) (b:Str):AV.shift n (.str b) = .str b:=rfl
theorem sh_ref (n i:Nat):AV.shift n (.ref i) = .ref (n + i):=rfl
theorem sh_tup (n:Nat) (vs:List AV):AV.shift n (.tup vs) = .tup (AV.shifts n vs):=rfl
theorem sh_fl (n:Nat) (vs:List AV):AV.shift n (.fl vs) = .fl (AV.shifts n vs):=rfl
theorem shs_nil (n:Nat):AV.shifts n [] = []:=rfl
theorem shs_cons (n:Nat) (v:AV) (vs:List AV):AV.shifts n (v::vs) = AV.shift n v::AV.shifts n vs:=rfl
theorem AV.shifts_eq (n:Nat) (l:List AV):AV.shifts n l = l.map (AV.shift n):=by
 induction l with
 | nil=>rfl
 | cons v r ih=>simp [shs_cons,ih]
@[simp] theorem AV.shift_int (n:Nat) (i:Int):AV.shift n (.int i) = .int i:=rfl
@[simp] theorem AV.shift_bool (n:Nat) (i:Bool):AV.shift n (.bool i) = .bool i:=rfl
@[simp] theorem AV.shift_str (n:Nat) (i:Str):AV.shift n (.str i) = .str i:=rfl
@[simp] theorem AV.shift_none (n:Nat):AV.shift n .none = .none:=rfl
@[simp] theorem AV.shift_ref (n i:Nat):AV.shift n (.ref i) = .ref (n + i):=rfl
@[simp] theorem AV.shift_tup (n:Nat) (vs:List AV):AV.shift n (.tup vs) = .tup (vs.map (AV.shift n)):=by rw [← AV.shifts_eq];rfl
@[simp] theorem AV.shift_fl (n:Nat) (vs:List AV):AV.shift n (.fl vs) = .fl (vs.map (AV.shift n)):=by rw [← AV.shifts_eq];rfl
@[simp] theorem AV.shift_ints (n:Nat) (l:List Int):(l.map AV.int).map (AV.shift n) = l.map AV.int:=by simp
@[simp] theorem AV.shift_strs (n:Nat) (l:List Str):(l.map AV.str).map (AV.shift n) = l.map AV.str:=by simp
theorem VRel.behind {S:Sx} {ρ ρc:List Addr} {Sc:Sx} {h:Heap} (hp:Sc.prog = S.prog) (hw:Sc.w = S.w) (hA:∀ a,a ∉ ρc→a ∉ Sc.ad→a ∉ ρ∧a ∉ S.ad) (hT:∀ a items,a ∈ ρ→¬ PT h a items) (hR:∀ a items,a ∈ ρ→h.get? a = some items→items.cls = .type "list"∧∃ xs n,items.data = .seq xs n) {v:AV} {x:Value} (V:VRel Sc ρc h v x):VRel S (ρ++ρc) h (AV.shift ρ.length v) x:=
 VRel.rec (motive_1:=fun v x _=>VRel S (ρ++ρc) h (AV.shift ρ.length v) x) (motive_2:=fun v x _=>VRels S (ρ++ρc) h (AV.shifts ρ.length v) x)
  (.none)
  (fun b=>.bool b)
  (fun i t=>.int i t)
  (fun x t=>.str x t)
  (fun ha hs hi hv ih=>.tup (fun hm=>(List.mem_append.mp hm).elim (fun q=>hT _ _ q hi) ha) (hA _ ha hs).2 hi ih)
  (fun ha hs hi hv ih=>.fl (fun hm=>(List.mem_append.mp hm).elim (hA _ ha hs).1 ha) (hA _ ha hs).2 hi ih)
  (fun hi=>.ref (by rw [List.getElem?_append_right (Nat.le_add_right _ _),Nat.add_sub_cancel_left];exact hi))
  (fun hr ha hs hi=>.rng hr (fun hm=>(List.mem_append.mp hm).elim (fun q=>by have:=(hR _ _ q hi).1;simp at this) ha) (hA _ ha hs).2 hi)
  (fun ha hs hm he hv ih=>.dict (fun hm=>(List.mem_append.mp hm).elim (hA _ ha hs).1 ha) (hA _ ha hs).2 (by rw [← hp,← hw];exact hm) he ih)
  (fun ha hs hx=>.exc (fun hm=>(List.mem_append.mp hm).elim (hA _ ha hs).1 ha) (hA _ ha hs).2 hx)
  (fun ha hs hd hs' hm he hv ih=>.obj (fun hm=>(List.mem_append.mp hm).elim (hA _ ha hs).1 ha) (hA _ ha hs).2 (fun hm=>(List.mem_append.mp hm).elim (hA _ hd hs').1 hd) (hA _ hd hs').2 hm he ih)
  .nil (fun _ _ i1 i2=>.cons i1 i2) V
theorem VRels.behind {S:Sx} {ρ ρc:List Addr} {Sc:Sx} {h:Heap} (hp:Sc.prog = S.prog) (hw:Sc.w = S.w) (hA:∀ a,a ∉ ρc→a ∉ Sc.ad→a ∉ ρ∧a ∉ S.ad) (hT:∀ a items,a ∈ ρ→¬ PT h a items) (hR:∀ a items,a ∈ ρ→h.get? a = some items→items.cls = .type "list"∧∃ xs n,items.data = .seq xs n) {v:List AV} {x:List Value} (V:VRels Sc ρc h v x):VRels S (ρ++ρc) h (AV.shifts ρ.length v) x:=
 VRels.ind (M:=fun v x=>VRels S (ρ++ρc) h (AV.shifts ρ.length v) x) .nil (fun _ _ _ _ v _ i2=>.cons (VRel.behind hp hw hA hT hR v) i2) V
theorem NoFl.tup_inv {vs:List AV} (h:NoFl (.tup vs)):NoFls vs:=by cases h;assumption
theorem NoFl.fl_inv {vs:List AV} (h:NoFl (.fl vs)):False:=by cases h
theorem NoFl.dict_inv {ks:List Str} {vs:List AV} (h:NoFl (.dict ks vs)):False:=by cases h
theorem NoFl.obj_inv {c:Addr} {ks:List Str} {vs:List AV} (h:NoFl (.obj c ks vs)):NoFls vs:=by cases h;assumption
theorem NoFls.cons_inv {v:AV} {vs:List AV} (h:NoFls (v::vs)):NoFl v∧NoFls vs:=by cases h;constructor<;>assumption
theorem VRel.behindN {S:Sx} {ρ ρc:List Addr} {h:Heap} (hT:∀ a items,a ∈ ρ→¬ PT h a items) (hR:∀ a items,a ∈ ρ→h.get? a = some items→items.cls = .type "list"∧∃ xs n,items.data = .seq xs n) {v:AV} {x:Value} (V:VRel S ρc h v x):NoFl v→VRel S (ρ++ρc) h (AV.shift ρ.length v) x:=
 VRel.rec (motive_1:=fun v x _=>NoFl v→VRel S (ρ++ρc) h (AV.shift ρ.length v) x) (motive_2:=fun v x _=>NoFls v→VRels S (ρ++ρc) h (AV.shifts ρ.length v) x)
  (fun _=>.none)
  (fun b _=>.bool b)
  (fun i t _=>.int i t)
  (fun x t _=>.str x t)
  (fun ha hs hi hv ih n=>.tup (fun hm=>(List.mem_append.mp hm).elim (fun q=>hT _ _ q hi) ha) hs hi (ih n.tup_inv))
  (fun _ _ _ _ ih n=>n.fl_inv.elim)
  (fun hi _=>.ref (by rw [List.getElem?_append_right (Nat.le_add_right _ _),Nat.add_sub_cancel_left];exact hi))
  (fun hr ha hs hi _=>.rng hr (fun hm=>(List.mem_append.mp hm).elim (fun q=>by have:=(hR _ _ q hi).1;simp at this) ha) hs hi)
  (fun _ _ _ _ _ ih n=>n.dict_inv.elim)
  (fun _ _ _ n=>by cases n)
  (fun ha hs hd hs' hm he hv ih n=>.obj (fun hm'=>(List.mem_append.mp hm').elim (fun q=>by obtain ⟨_,⟨o,e,ec,_⟩,_⟩:=hm;have:=(hR _ _ q e).1;rw [ec] at this;cases this) ha) hs (fun hm'=>(List.mem_append.mp hm').elim (fun q=>by obtain ⟨_,_,o,_,_,e,ed,_⟩:=hm;obtain ⟨_,_,_,e2⟩:=hR _ _ q e;rw [ed] at e2;cases e2) hd) hs' hm he (ih n.obj_inv))
  (fun _=>.nil) (fun v r i1 i2 n=>.cons (i1 n.cons_inv.1) (i2 n.cons_inv.2)) V
theorem VRels.behindN {S:Sx} {ρ ρc:List Addr} {h:Heap} (hT:∀ a items,a ∈ ρ→¬ PT h a items) (hR:∀ a items,a ∈ ρ→h.get? a = some items→items.cls = .type "list"∧∃ xs n,items.data = .seq xs n) {v:List AV} {x:List Value} (V:VRels S ρc h v x):NoFls v→VRels S (ρ++ρc) h (AV.shifts ρ.length v) x:=
 VRels.ind (M:=fun v x=>NoFls v→VRels S (ρ++ρc) h (AV.shifts ρ.length v) x) (fun _=>.nil) (fun _ _ _ _ v _ i2 n=>.cons (VRel.behindN hT hR v n.cons_inv.1) (i2 n.cons_inv.2)) V
theorem HSim.noTuple {S:Sx} {ρ:List Addr} {H:AH} {h:Heap} (X:HSim S ρ H h):∀ a items,a ∈ ρ→¬ PT h a items:=fun a items hm ht=>by
 obtain ⟨i,hi,rfl⟩:=List.mem_iff_getElem.mp hm
 have hi':i < H.length:=by rw [← X.len];exact hi
 obtain ⟨a',its,e1,⟨n,p⟩,_⟩:=X.obj i H[i] (by simp [hi'])
 rw [List.getElem?_eq_getElem hi] at e1
 cases e1
 obtain ⟨m,ho⟩:=ht
 rw [p] at ho
 simp at ho
theorem HSim.listCls {S:Sx} {ρ:List Addr} {H:AH} {h:Heap} (X:HSim S ρ H h):∀ a o,a ∈ ρ→h.get? a = some o→o.cls = .type "list"∧∃ xs n,o.data = .seq xs n:=fun a o hm ht=>by
 obtain ⟨i,hi,rfl⟩:=List.mem_iff_getElem.mp hm
 have hi':i < H.length:=by rw [← X.len];exact hi
 obtain ⟨a',its,e1,⟨n,p⟩,_⟩:=X.obj i H[i] (by simp [hi'])
 rw [List.getElem?_eq_getElem hi] at e1
 cases e1
 rw [p] at ht;cases ht;exact ⟨rfl,_,_,rfl⟩
theorem HSim.behind {S:Sx} {ρ:List Addr} {Sc:Sx} {ρc:List Addr} {H Hc:AH} {h h':Heap} (X:HSim S ρ H h) (hk:Kp h h') (hf:Fresh h ρc) (hdom:∀ a ∈ S.ad,∃ o,h.get? a = some o) (hp:Sc.prog = S.prog) (hw:Sc.w = S.w) (Y:HSim Sc ρc Hc h')
  (hV:(∀ a,a ∉ ρc→a ∉ Sc.ad→a ∉ ρ∧a ∉ S.ad) ∨ (Sc = S∧∀ xs ∈ Hc,NoFls xs)):HSim S (ρ++ρc) (H++Hc.map (AV.shifts H.length)) h':=by
 refine ⟨by simp [X.len,Y.len],?_,fun a ha=>?_,fun i ws e=>?_⟩
 ·rw [List.nodup_append]
  refine ⟨X.nodup,Y.nodup,fun a ha b hb e=>?_⟩
  obtain ⟨o,ho⟩:=X.mem ha
  rw [e,hf b hb] at ho;cases ho
 ·rcases List.mem_append.mp ha with q | q
  ·exact X.off a q
  ·intro hS
   obtain ⟨o,ho⟩:=hdom a hS
   rw [hf a q] at ho;cases ho
 ·by_cases hi:i < H.length
  ·rw [List.getElem?_append_left hi] at e
   obtain ⟨b,its,e1,p1,v1⟩:=X.obj i ws e
   exact ⟨b,its,by rw [List.getElem?_append_left (by rw [X.len];exact hi)];exact e1,PlainList.at' p1 fun o q=>hk _ o q,v1.kp hk hf⟩
  ·rw [List.getElem?_append_right (Nat.le_of_not_lt hi),List.getElem?_map] at e
   cases e0:Hc[i - H.length]? with
   | none=>rw [e0] at e;cases e
   | some xs=>
    rw [e0] at e;cases e
    obtain ⟨b,its,e1,p1,v1⟩:=Y.obj _ xs e0
    refine ⟨b,its,?_,p1,?_⟩
    ·rw [List.getElem?_append_right (by rw [X.len];exact Nat.le_of_not_lt hi),X.len];exact e1
    ·rw [← X.len]
     rcases hV with hV | hV
     ·exact VRels.behind hp hw hV (X.kp hk).noTuple (X.kp hk).listCls v1
     ·obtain ⟨rfl,hV⟩:=hV
      exact VRels.behindN (X.kp hk).noTuple (X.kp hk).listCls v1 (hV xs (List.mem_of_getElem? e0))
open PySem PyProof.Rows
inductive EP (S:Sx) (ρ:List Addr) (H:AH) (s:Shared) (Q:AV→AH→Prop) (x:Value) (s':Shared):Prop
 | mk (h':_) (tk:_) (e:_) (v:_) (G:_):s' = { s with heap:=h',toks:=tk }→Kp s.heap h'→Fresh s.heap e→HSim S (ρ++e) (H++G) h'→VRel S (ρ++e) h' v x→Q v (H++G)→EP S ρ H s Q x s'
theorem EP.then {M:Model} {A:Around} {S:Sx} {ρ:List Addr} {H:AH} {s:Shared} {Q:AV→AH→Prop} {m:Sem Value} {Q':Value→Shared→Prop} {E:Value→Shared→Prop} (h:wpAny M A m (EP S ρ H s Q) E s)
  (k:∀ y h' tk e v G,Kp s.heap h'→Fresh s.heap e→HSim S (ρ++e) (H++G) h'→VRel S (ρ++e) h' v y→Q v (H++G)→Q' y { s with heap:=h',toks:=tk }):wpAny M A m Q' E s:=
 wpAny_mono h (fun _ _ hy=>by
  obtain ⟨_,_,_,_,_,rfl,a,b,c,d,q⟩:=hy
  exact k _ _ _ _ _ _ a b c d q) fun _ _ y=>y
noncomputable def SD (S:Sx) (h:Heap):Prop:=∀ a ∈ S.ad,∃ o,h.get? a = some o
theorem SD.kp {S:Sx} {h h':Heap} (x:SD S h) (k:Kp h h'):SD S h':=fun a ha=>by obtain ⟨o,ho⟩:=x a ha;exact ⟨o,k _ _ ho⟩
theorem hidQ {α:Type} {M:Model} {A:Around} {m:Sem α} {s:Shared} {Q:α→Shared→Prop} {E:Value→Shared→Prop} (h:∀ (Q':α→Shared→Prop) (E':Value→Shared→Prop),(∀ a s,Q a s→Q' a s)→(∀ e s,E e s→E' e s)→wpAny M A m Q' E' s):wpAny M A m Q E s:=h Q E (fun _ _ x=>x) fun _ _ x=>x
theorem hid {G:Prop} (h:∀ X:Prop,(G→X)→X):G:=h G id
noncomputable def Upd (s s':Shared):Prop:=s' = { s with heap:=s'.heap,toks:=s'.toks }
theorem EP.thenU {M:Model} {A:Around} {S:Sx} {ρ:List Addr} {H:AH} {s:Shared} {Q:AV→AH→Prop} {m:Sem Value} {Q':Value→Shared→Prop} {E:Value→Shared→Prop} (h:wpAny M A m (EP S ρ H s Q) E s)
  (k:∀ y s' e v G,Upd s s'→Kp s.heap s'.heap→Fresh s.heap e→HSim S (ρ++e) (H++G) s'.heap→VRel S (ρ++e) s'.heap v y→Q v (H++G)→Q' y s'):wpAny M A m Q' E s:=
 wpAny_mono h (fun _ _ hy=>by
  obtain ⟨_,_,_,_,_,rfl,a,b,c,d,q⟩:=hy
  exact k _ _ _ _ _ rfl a b c d q) fun _ _ y=>y
section
variable {S:Sx} {ρ:List Addr} {H:AH} {s:Shared} {Q:AV→AH→Prop} {x:Value} {v:AV}
theorem EP.val (X:HSim S ρ H s.heap) (V:VRel S ρ s.heap v x) (q:Q v H) (tk:Nat):EP S ρ H s Q x { s with toks:=tk }:=
 ⟨s.heap,tk,[],v,[],rfl,Kp.refl _,Fresh.nil _,by simpa using X,by simpa using V,by simpa using q⟩
theorem EP.val0 (X:HSim S ρ H s.heap) (V:VRel S ρ s.heap v x) (q:Q v H):EP S ρ H s Q x s:=EP.val X V q s.toks
theorem EP.grow {h':Heap} {tk:Nat} (X:HSim S ρ H s.heap) (hk:Kp s.heap h') (V:VRel S ρ h' v x) (q:Q v H):EP S ρ H s Q x { s with heap:=h',toks:=tk }:=
 ⟨h',tk,[],v,[],rfl,hk,Fresh.nil _,by simpa using X.kp hk,by simpa using V,by simpa using q⟩
theorem EP.newL {h':Heap} {tk:Nat} {a:Addr} {items:Array Value} {vs:List AV} (X:HSim S ρ H s.heap) (D:SD S s.heap) (hk:Kp s.heap h') (hn:s.heap.get? a = none) (p:h'.PlainList a items) (V:VRels S ρ s.heap vs items.toList)
  (q:Q (.ref H.length) (H++[vs])):EP S ρ H s Q (.ref a) { s with heap:=h',toks:=tk }:=by
 have fr:Fresh s.heap [a]:=fun b hb=>by simp at hb;subst hb;exact hn
 refine ⟨h',tk,[a],.ref H.length,[vs],rfl,hk,fr,X.push hk hn (fun hm=>?_) p V,.ref ?_,q⟩
 ·obtain ⟨o,ho⟩:=D a hm;rw [hn] at ho;cases ho
 ·rw [← X.len];simp
theorem EP.newT {h':Heap} {tk:Nat} {a:Addr} {items:Array Value} {vs:List AV} (X:HSim S ρ H s.heap) (D:SD S s.heap) (hk:Kp s.heap h') (hn:s.heap.get? a = none) (p:PT h' a items) (V:VRels S ρ s.heap vs items.toList)
  (q:Q (.tup vs) H):EP S ρ H s Q (.ref a) { s with heap:=h',toks:=tk }:=
 EP.grow X hk (.tup (fun hm=>by obtain ⟨o,ho⟩:=X.mem hm;rw [hn] at ho;cases ho) (fun hm=>by obtain ⟨o,ho⟩:=D a hm;rw [hn] at ho;cases ho) p (V.kp0 hk)) q
theorem EP.after {h₁:Heap} {tk₁:Nat} {e:List Addr} {G:AH} {s₂:Shared} (hk:Kp s.heap h₁) (hf:Fresh s.heap e)
  (h:EP S (ρ++e) (H++G) { s with heap:=h₁,toks:=tk₁ } Q x s₂):EP S ρ H s Q x s₂:=by
 obtain ⟨h',tk,e',v,G',rfl,k',f',X',V',q'⟩:=h
 refine ⟨h',tk,e++e',v,G++G',rfl,hk.trans k',?_,by simpa [List.append_assoc] using X',by simpa [List.append_assoc] using V',by simpa [List.append_assoc] using q'⟩
 intro a ha
 rcases List.mem_append.mp ha with q | q
 ·exact hf a q
 ·cases q0:s.heap.get? a with
  | none=>rfl
  | some o=>have:=f' a q;rw [hk a o q0] at this;cases this
theorem EP.afterU {s₁:Shared} {e:List Addr} {G:AH} {s₂:Shared} (u:Upd s s₁) (hk:Kp s.heap s₁.heap) (hf:Fresh s.heap e) (h:EP S (ρ++e) (H++G) s₁ Q x s₂):EP S ρ H s Q x s₂:=EP.after (h₁:=s₁.heap) (tk₁:=s₁.toks) hk hf (u ▸ h)
theorem push_kp (h:Heap) (o:Obj):Kp h (h.push o):=fun _ _ e=>Heap.get?_push_of_some o e
theorem size_none (h:Heap):h.get? h.objs.size = none:=by
 cases q:h.get? h.objs.size with
 | none=>rfl
 | some o=>exact absurd (Heap.lt_size q) (Nat.lt_irrefl _)
theorem EP.pushL {items:Array Value} {vs:List AV} (X:HSim S ρ H s.heap) (D:SD S s.heap) (V:VRels S ρ s.heap vs items.toList) (q:Q (.ref H.length) (H++[vs])) (tk:Nat) :
  EP S ρ H s Q (.ref s.heap.objs.size) { s with heap:=s.heap.push { cls:=.type "list",data:=.seq items },toks:=tk }:=
 EP.newL X D (push_kp _ _) (size_none _) ⟨0,Heap.get?_push_size _ rfl⟩ V q
theorem EP.pushT {items:Array Value} {vs:List AV} (X:HSim S ρ H s.heap) (D:SD S s.heap) (V:VRels S ρ s.heap vs items.toList) (q:Q (.tup vs) H) (tk:Nat) :
  EP S ρ H s Q (.ref s.heap.objs.size) { s with heap:=s.heap.push { cls:=.type "tuple",data:=.seq items },toks:=tk }:=
 EP.newT X D (push_kp _ _) (size_none _) ⟨0,Heap.get?_push_size _ rfl⟩ V q
end
noncomputable def AV.items? (H:AH):AV→Option (List AV)
 | .fl vs=>some vs
 | .ref n=>H[n]?
 | _=>Option.none
theorem items_real {S:Sx} {ρ:List Addr} {H:AH} {h:Heap} {v:AV} {x:Value} {vs:List AV} (X:HSim S ρ H h) (V:VRel S ρ h v x) (e:v.items? H = some vs):∃ a items,x = .ref a∧h.PlainList a items∧VRels S ρ h vs items.toList:=by
 cases v with
 | fl ws=>
  obtain rfl:=Option.some.inj e
  obtain ⟨_,_,hi,hv⟩:=V.iFl
  exact ⟨_,_,rfl,hi,hv⟩
 | ref n=>
  obtain ⟨hi⟩:=V.iRef
  obtain ⟨items,p,w⟩:=X.get e hi
  exact ⟨_,_,rfl,p,w⟩
 | _=>exact none_some e
noncomputable def smallN:Nat:=100000
theorem small_le {n m:Nat} (e:n = m) (h:n ≤ smallN):m ≤ sizeLine:=e ▸ Nat.le_trans h (by decide)
theorem small_add {a b c d:Nat} (e1:a = c) (e2:b = d) (h:a + b ≤ smallN):c + d ≤ sizeLine:=e1 ▸ e2 ▸ Nat.le_trans h (by decide)
theorem small_63 {n m:Nat} (e:n = m) (h:n ≤ smallN):(m:Int) < 2 ^ 63:=Int.lt_of_le_of_lt (Int.ofNat_le.mpr (e ▸ h:m ≤ smallN)) (by decide)
theorem VRels.size {S:Sx} {ρ:List Addr} {h:Heap} {vs:List AV} {items:Array Value} (V:VRels S ρ h vs items.toList):vs.length = items.size:=V.length.trans Array.length_toList
theorem VRels.of1 {S:Sx} {ρ:List Addr} {h:Heap} {v:AV} {xs:List Value} (V:VRels S ρ h [v] xs):∃ y,xs = [y]∧VRel S ρ h v y:=
 by obtain ⟨y,_,e,a,r⟩:=V.cons_inv;exact ⟨y,r.of0 ▸ e,a⟩
theorem VRels.of2 {S:Sx} {ρ:List Addr} {h:Heap} {u v:AV} {xs:List Value} (V:VRels S ρ h [u,v] xs):∃ y z,xs = [y,z]∧VRel S ρ h u y∧VRel S ρ h v z:=
 by obtain ⟨y,_,e,a,r⟩:=V.cons_inv;exact by obtain ⟨z,e',b⟩:=r.of1;exact ⟨y,z,e' ▸ e,a,b⟩
noncomputable def onInts (a b:AV) (k:Int→Int→Prop):Prop:=match a with
 | .int i=>(match b with
  | .int j=>k i j
  | _=>False)
 | _=>False
theorem onInts_of {a b:AV} {k:Int→Int→Prop} (h:onInts a b k):∃ i j,a = .int i∧b = .int j∧k i j:=by
 cases a<;>first | (exact False.elim h) | skip
 cases b<;>first | (exact False.elim h) | skip
 exact ⟨_,_,rfl,rfl,h⟩
noncomputable def catOf (a b:AV) (H:AH) (Q:AV→AH→Prop):Prop:=opt (a.items? H) fun xs=>opt (b.items? H) fun ys=>xs.length + ys.length ≤ smallN∧Q (.ref H.length) (H++[xs++ys])
noncomputable def addOf (a b:AV) (H:AH) (Q:AV→AH→Prop):Prop:=match a with
 | .int i=>(match b with
  | .int j=>Q (.int (i + j)) H
  | _=>False)
 | a=>catOf a b H Q
theorem addOf_of {a b:AV} {H:AH} {Q:AV→AH→Prop} (h:addOf a b H Q):(∃ i j,a = .int i∧b = .int j∧Q (.int (i + j)) H) ∨ ∃ xs ys,a.items? H = some xs∧b.items? H = some ys∧xs.length + ys.length ≤ smallN∧Q (.ref H.length) (H++[xs++ys]):=by
 have cat:catOf a b H Q→∃ xs ys,a.items? H = some xs∧b.items? H = some ys∧xs.length + ys.length ≤ smallN∧Q (.ref H.length) (H++[xs++ys]):=fun h=>by obtain ⟨xs,e,h⟩:=opt_of h;exact by obtain ⟨ys,e',h⟩:=opt_of h;exact ⟨xs,ys,e,e',h⟩
 cases a with
 | int i=>cases b<;>first | (exact False.elim h) | exact .inl ⟨_,_,rfl,rfl,h⟩
 | _=>exact .inr (cat h)
noncomputable def opBin (op:Operator) (a b:AV) (H:AH) (Q:AV→AH→Prop):Prop:=
 match op with
 | .Add=>addOf a b H Q
 | .Sub=>onInts a b fun i j=>Q (.int (i - j)) H
 | .Mult=>onInts a b fun i j=>(j.natAbs < 2 ^ 60 ∨ i.natAbs < 2 ^ 60)∧Q (.int (i * j)) H
 | .FloorDiv=>onInts a b fun i j=>(0 < j∧j < 1000000000)∧Q (.int (i / j)) H
 | .Mod=>onInts a b fun i j=>0 < j∧Q (.int (i % j)) H
 | _=>False
theorem fdiv_pos {i j:Int} (h:0 < j):i.fdiv j = i / j:=Int.fdiv_eq_ediv_of_nonneg i (Int.le_of_lt h)
theorem fmod_pos {i j:Int} (h:0 < j):i.fmod j = i % j:=Int.fmod_eq_emod_of_nonneg i (Int.le_of_lt h)
section
variable {prog:Program} {w:World} {A:Around} {E:Value→Shared→Prop} {s:Shared} {S:Sx} {ρ:List Addr} {H:AH} {Q:AV→AH→Prop} {x y:Value} {a b:AV}
theorem add_lists (X:HSim S ρ H s.heap) (D:SD S s.heap) (Va:VRel S ρ s.heap a x) (Vb:VRel S ρ s.heap b y)
  (h:∃ xs ys,a.items? H = some xs∧b.items? H = some ys∧xs.length + ys.length ≤ smallN∧Q (.ref H.length) (H++[xs++ys])):wpAny (model prog w) A (binaryOp .Add x y) (EP S ρ H s Q) E s:=by
 obtain ⟨xs,ys,ea,eb,hl,q⟩:=h
 obtain ⟨ax,ix,rfl,⟨nx,px⟩,vx⟩:=items_real X Va ea
 obtain ⟨ay,iy,rfl,⟨ny,py⟩,vy⟩:=items_real X Vb eb
 exact P.add_list (hsz:=small_add vx.size vy.size hl) px py (EP.pushL X D (vs:=xs++ys) (by simpa using vx.app vy) q s.toks)
theorem opBin_ok (op:Operator) (X:HSim S ρ H s.heap) (D:SD S s.heap) (Va:VRel S ρ s.heap a x) (Vb:VRel S ρ s.heap b y) (h:opBin op a b H Q):wpAny (model prog w) A (binaryOp op x y) (EP S ρ H s Q) E s:=by
 cases op with
 | Add=>
  rcases addOf_of h with ⟨i,j,rfl,rfl,q⟩ | q
  ·obtain ⟨t1,rfl⟩:=Va.ofInt
   obtain ⟨t2,rfl⟩:=Vb.ofInt
   exact P.add_int (EP.val X (.int _ _) q _)
  ·exact add_lists X D Va Vb q
 | Sub=>
  obtain ⟨i,j,rfl,rfl,q⟩:=onInts_of h
  obtain ⟨t1,rfl⟩:=Va.ofInt
  obtain ⟨t2,rfl⟩:=Vb.ofInt
  exact P.sub_int (EP.val X (.int _ _) q _)
 | Mult=>
  obtain ⟨i,j,rfl,rfl,q0,q⟩:=onInts_of h
  obtain ⟨t1,rfl⟩:=Va.ofInt
  obtain ⟨t2,rfl⟩:=Vb.ofInt
  refine P.mul_int (EP.val X (.int _ _) q _) ?_
  rcases q0 with q | q
  ·exact .of_right (Nat.le_trans (intBits_le q) (by decide))
  ·exact .of_left (Nat.le_trans (intBits_le q) (by decide))
 | FloorDiv=>
  obtain ⟨i,j,rfl,rfl,hj,q⟩:=onInts_of h
  obtain ⟨t1,rfl⟩:=Va.ofInt
  obtain ⟨t2,rfl⟩:=Vb.ofInt
  refine floordiv_int (by omega) ?_ (Or.inl (PyProof.noPylong_small (by omega)))
  rw [fdiv_pos hj.1];exact EP.val X (.int _ _) q _
 | Mod=>
  obtain ⟨i,j,rfl,rfl,hj,q⟩:=onInts_of h
  obtain ⟨t1,rfl⟩:=Va.ofInt
  obtain ⟨t2,rfl⟩:=Vb.ofInt
  refine mod_int' (by omega) ?_
  rw [fmod_pos hj];exact EP.val X (.int _ _) q _
 | _=>exact False.elim h
end
open PySem PyProof.Rows PySem.SeqAt
mutual
inductive Rd (H:AH):Nat→AV→PyData→Prop
 | none {k:Nat}:Rd H k .none .none
 | bool {k:Nat} (b:Bool):Rd H k (.bool b) (.bool b)
 | int {k:Nat} (i:Int):Rd H k (.int i) (.int i)
 | str {k:Nat} (x:Str):PyData.strOk x = true→Rd H k (.str x) (.str x)
 | tup {k:Nat} {vs:List AV} {ds:List PyData}:Rds H k vs ds→Rd H (k + 1) (.tup vs) (.tuple ds)
 | fl {k:Nat} {vs:List AV} {ds:List PyData}:Rds H k vs ds→Rd H (k + 1) (.fl vs) (.list ds)
 | ref {k n:Nat} {vs:List AV} {ds:List PyData}:H[n]? = some vs→Rds H k vs ds→Rd H (k + 1) (.ref n) (.list ds)
inductive Rds (H:AH):Nat→List AV→List PyData→Prop
 | nil {k:Nat}:Rds H k [] []
 | cons {k:Nat} {v:AV} {d:PyData} {vs:List AV} {ds:List PyData}:Rd H k v d→Rds H k vs ds→Rds H k (v::vs) (d::ds)
end
theorem Rds.ofAll {H:AH} {k:Nat} {α:Type} {f:α→AV} {g:α→PyData}:∀ {l:List α},(∀ x ∈ l,Rd H k (f x) (g x))→Rds H k (l.map f) (l.map g)
 | [],_=>.nil
 | x::r,h=>.cons (h x (.head _)) (Rds.ofAll fun y hy=>h y (.tail _ hy))
theorem Rds.ints {H:AH} {k:Nat} (l:List Int):Rds H k (l.map AV.int) (l.map PyData.int):=Rds.ofAll fun x _=>.int x
theorem Rds.ind {H:AH} {M:Nat→List AV→List PyData→Prop} (hn:∀ k,M k [] []) (hc:∀ k v d vs ds,Rd H k v d→Rds H k vs ds→M k vs ds→M k (v::vs) (d::ds)) {k:Nat} {vs:List AV} {ds:List PyData} (r:Rds H k vs ds):M k vs ds:=
 Rds.rec (motive_1:=fun _ _ _ _=>True) (motive_2:=fun k vs ds _=>M k vs ds) trivial (fun _=>trivial) (fun _=>trivial) (fun _ _=>trivial) (fun _ _=>trivial) (fun _ _=>trivial) (fun _ _ _=>trivial) (hn _) (fun r rs _ ih=>hc _ _ _ _ _ r rs ih) r
theorem Rds.app {H:AH} {k:Nat} {a b:List AV} {c d:List PyData} (x:Rds H k a c) (y:Rds H k b d):Rds H k (a++b) (c++d):=
 Rds.ind (M:=fun k' a c=>k' = k→Rds H k' (a++b) (c++d)) (fun k' e=>e ▸ y) (fun k' _ _ _ _ r _ ih e=>.cons r (ih e)) x rfl
theorem Rds.length {H:AH} {k:Nat} {a:List AV} {c:List PyData} (x:Rds H k a c):a.length = c.length:=Rds.ind (M:=fun _ a c=>a.length = c.length) (fun _=>rfl) (fun _ _ _ _ _ _ _ ih=>congrArg (· + 1) ih) x
theorem okAll_cons {k:Nat} {d:PyData} {ds:List PyData} (h1:d.canLay0 = true∧d.depth ≤ k) (h2:PyData.canLayAll0 ds = true∧PyData.depthAll ds ≤ k):PyData.canLayAll0 (d::ds) = true∧PyData.depthAll (d::ds) ≤ k:=by
 simp [PyData.canLayAll0,PyData.depthAll,h1.1,h2.1]
 (first | lia | omega)
theorem Rd.ok {H:AH} {k:Nat} {v:AV} {d:PyData} (r:Rd H k v d):d.canLay0 = true∧d.depth ≤ k:=
 Rd.rec (motive_1:=fun k _ d _=>d.canLay0 = true∧d.depth ≤ k) (motive_2:=fun k _ d _=>PyData.canLayAll0 d = true∧PyData.depthAll d ≤ k)
  (by simp [PyData.canLay0,PyData.depth]) (fun _=>by simp [PyData.canLay0,PyData.depth]) (fun _=>by simp [PyData.canLay0,PyData.depth]) (fun _ h=>by simp [PyData.canLay0,PyData.depth,h])
  (fun _ q=>by simp [PyData.canLay0,PyData.depth,q.1,q.2]) (fun _ q=>by simp [PyData.canLay0,PyData.depth,q.1,q.2]) (fun _ _ q=>by simp [PyData.canLay0,PyData.depth,q.1,q.2])
  (by simp [PyData.canLayAll0,PyData.depthAll]) (fun _ _ h1 h2=>okAll_cons h1 h2) r
theorem Rds.ok {H:AH} {k:Nat} {v:List AV} {d:List PyData} (r:Rds H k v d):PyData.canLayAll0 d = true∧PyData.depthAll d ≤ k:=
 Rds.ind (M:=fun k _ d=>PyData.canLayAll0 d = true∧PyData.depthAll d ≤ k) (fun _=>by simp [PyData.canLayAll0,PyData.depthAll]) (fun _ _ _ _ _ r _ ih=>okAll_cons r.ok ih) r
theorem Rd.reads {S:Sx} {ρ:List Addr} {H:AH} {h:Heap} (X:HSim S ρ H h) {k:Nat} {v:AV} {d:PyData} {x:Value} (r:Rd H k v d) (V:VRel S ρ h v x):∃ as,Reads h x d as:=
 Rd.rec (motive_1:=fun _ v d _=>∀ x,VRel S ρ h v x→∃ as,Reads h x d as) (motive_2:=fun _ v d _=>∀ x,VRels S ρ h v x→∃ as,ReadsAll h x d as)
  (fun _ V=>V.ofNone ▸ ⟨_,.none⟩) (fun _ _ V=>V.ofBool ▸ ⟨_,.bool _⟩) (fun _ _ V=>by obtain ⟨_,e⟩:=V.ofInt;exact e ▸ ⟨_,.int _ _⟩) (fun _ _ _ V=>by obtain ⟨_,e⟩:=V.ofStr;exact e ▸ ⟨_,.str _ _⟩)
  (fun _ ih _ V=>by cases V.iTup with | mk _ _ hi hv=>obtain ⟨as,q⟩:=ih _ hv;obtain ⟨n,e⟩:=hi;exact ⟨_,.tuple e rfl rfl q⟩)
  (fun _ ih _ V=>by cases V.iFl with | mk _ _ hi hv=>obtain ⟨as,q⟩:=ih _ hv;obtain ⟨n,e⟩:=hi;exact ⟨_,.list e rfl rfl q⟩)
  (fun e _ ih _ V=>by cases V.iRef with | mk hi=>obtain ⟨items,⟨n,p⟩,w⟩:=X.get e hi;obtain ⟨as,q⟩:=ih _ w;exact ⟨_,.list p rfl rfl q⟩)
  (fun _ V=>V.of0 ▸ ⟨_,.nil⟩)
  (fun _ _ i1 i2 _ V=>by obtain ⟨y,ys,rfl,a,b⟩:=V.cons_inv;obtain ⟨as,q⟩:=i1 _ a;obtain ⟨bs,q'⟩:=i2 _ b;exact ⟨_,.cons q q'⟩)
  r x V
theorem Rds.reads {S:Sx} {ρ:List Addr} {H:AH} {h:Heap} (X:HSim S ρ H h) {k:Nat} {v:List AV} {d:List PyData} {x:List Value} (r:Rds H k v d) (V:VRels S ρ h v x):∃ as,ReadsAll h x d as:=
 Rds.ind (M:=fun _ v d=>∀ x,VRels S ρ h v x→∃ as,ReadsAll h x d as) (fun _ _ V=>V.of0 ▸ ⟨_,.nil⟩) (fun _ _ _ _ _ r _ ih _ V=>by obtain ⟨y,ys,rfl,a,b⟩:=V.cons_inv;obtain ⟨as,q⟩:=r.reads X a;obtain ⟨bs,q'⟩:=ih _ b;exact ⟨_,.cons q q'⟩) r x V
noncomputable def isNone:AV→Bool
 | .none=>true
 | _=>false
noncomputable def isBool (c:Bool):AV→Bool
 | .bool b=>b == c
 | _=>false
noncomputable def AV.seq? (H:AH):AV→Option (List AV)
 | .tup vs=>some vs
 | v=>v.items? H
noncomputable def isOf (a b:AV) (k:Bool→Prop):Prop:=match b with
 | .none=>k (isNone a)
 | .bool c=>k (isBool c a)
 | _=>False
theorem isOf_of {a b:AV} {k:Bool→Prop} (h:isOf a b k):(b = .none∧k (isNone a)) ∨ ∃ c,b = .bool c∧k (isBool c a):=by
 cases b<;>first | (exact False.elim h) | exact .inl ⟨rfl,h⟩ | exact .inr ⟨_,rfl,h⟩
noncomputable def eqOf (a b:AV) (H:AH) (k:Bool→Prop):Prop:=∃ da db,Rd H 9 a da∧Rd H 9 b db∧k (da.eqv db)
noncomputable def eqOf' (a b:AV) (H:AH) (k:Bool→Prop):Prop:=match a with
 | .int i=>(match b with
  | .int j=>k (decide (i = j))
  | b=>eqOf (.int i) b H k)
 | a=>eqOf a b H k
theorem eqOf_of {a b:AV} {H:AH} {k:Bool→Prop} (h:eqOf' a b H k):eqOf a b H k:=by
 cases a with
 | int i=>
  cases b with
  | int j=>exact ⟨_,_,.int i,.int j,by have h:k (decide (i = j)):=h;rwa [show (PyData.int i).eqv (PyData.int j) = decide (i = j) from by simp [PyData.eqv];rfl]⟩
  | _=>exact h
 | _=>exact h
noncomputable def inOf (a b:AV) (H:AH) (k:Bool→Prop):Prop:=∃ da vs ds,Rd H 9 a da∧b.seq? H = some vs∧Rds H 9 vs ds∧k (ds.any fun d=>d.eqv da)
noncomputable def opCmp (op:CmpOp) (a b:AV) (H:AH) (Q:AV→AH→Prop):Prop:=
 match op with
 | .Lt=>onInts a b fun i j=>Q (.bool (decide (i < j))) H
 | .LtE=>onInts a b fun i j=>Q (.bool (decide (i ≤ j))) H
 | .Gt=>onInts a b fun i j=>Q (.bool (decide (j < i))) H
 | .Eq=>eqOf' a b H fun c=>Q (.bool c) H
 | .NotEq=>eqOf' a b H fun c=>Q (.bool (!c)) H
 | .Is=>isOf a b fun c=>Q (.bool c) H
 | .IsNot=>isOf a b fun c=>Q (.bool (!c)) H
 | .In=>inOf a b H fun c=>Q (.bool c) H
 | .NotIn=>inOf a b H fun c=>Q (.bool (!c)) H
 | _=>False
open Classical in
noncomputable def eqIn (h:Heap) (da:PyData) (y:Value):Bool:=decide (∃ d as,Reads h y d as∧d.canLay0 = true∧PyData.eqv d da = true)
open Classical in
theorem eqIn_of {h:Heap} {da d:PyData} {y:Value} {as:List Addr} (r:Reads h y d as) (hc:d.canLay0 = true):eqIn h da y = PyData.eqv d da:=by
 unfold eqIn
 cases e:PyData.eqv d da with
 | true=>exact decide_eq_true ⟨d,as,r,hc,e⟩
 | false=>
  refine decide_eq_false ?_
  rintro ⟨d',as',r',hc',e'⟩
  have:=Reads.unique d d' y as as' hc r r'
  subst this
  rw [e] at e';cases e'
theorem ReadsAll.ind {h:Heap} {M:List Value→List PyData→Prop} (hn:M [] []) (hc:∀ v vs d ds as,Reads h v d as→M vs ds→M (v::vs) (d::ds)) {vs:List Value} {ds:List PyData} {as:List Addr} (r:ReadsAll h vs ds as):M vs ds:=by
 induction vs generalizing ds as with
 | nil=>cases r;exact hn
 | cons v vs ih=>cases r with | cons a b=>exact hc _ _ _ _ _ a (ih b)
theorem readsAll_any {h:Heap} {da:PyData} {ys:List Value} {ds:List PyData} {as:List Addr} (r:ReadsAll h ys ds as) (hc:PyData.canLayAll0 ds = true):ys.any (eqIn h da) = ds.any fun d=>d.eqv da:=
 ReadsAll.ind (M:=fun ys ds=>PyData.canLayAll0 ds = true→ys.any (eqIn h da) = ds.any fun d=>d.eqv da) (fun _=>rfl) (fun _ _ _ _ _ r ih hc=>by
  simp [PyData.canLayAll0] at hc
  simp [eqIn_of (da:=da) r hc.1,ih hc.2]) r hc
theorem readsAll_get {h:Heap} {ys:List Value} {ds:List PyData} {as:List Addr} (r:ReadsAll h ys ds as) {y:Value} (hm:y ∈ ys):∃ d bs,d ∈ ds∧Reads h y d bs:=
 ReadsAll.ind (M:=fun ys ds=>y ∈ ys→∃ d bs,d ∈ ds∧Reads h y d bs) (fun hm=>nomatch hm) (fun _ _ _ _ _ r ih hm=>by
  rcases List.mem_cons.mp hm with rfl | hm
  ·exact ⟨_,_,.head _,r⟩
  ·obtain ⟨d,bs,hd,q⟩:=ih hm
   exact ⟨d,bs,.tail _ hd,q⟩) r hm
theorem min_lt {u a b c:Nat} (hu:u + 100 < c) (h:a ≤ 9):u + min a b < c:=Nat.lt_of_le_of_lt (Nat.add_le_add_left (Nat.le_trans (Nat.min_le_left a b) (Nat.le_trans h (by decide))) u) hu
theorem min_lt1 {u a b c:Nat} (hu:u + 100 < c) (h:a ≤ 9):u + 1 + min a b < c:=Nat.lt_of_le_of_lt (Nat.le_trans (Nat.le_of_eq (Nat.add_assoc u 1 _)) (Nat.add_le_add_left (Nat.add_le_add (Nat.le_refl 1) (Nat.le_trans (Nat.min_le_left a b) h)) u)) (Nat.lt_of_le_of_lt (Nat.add_le_add_left (show 1 + 9 ≤ 100 by decide) u) hu)
theorem canLay_mem:∀ {ds:List PyData} {d:PyData},PyData.canLayAll0 ds = true→d ∈ ds→d.canLay0 = true
 | _::_,_,h,.head _=>by simp [PyData.canLayAll0] at h;exact h.1
 | _::_,_,h,.tail _ hm=>by simp [PyData.canLayAll0] at h;exact canLay_mem h.2 hm
theorem depth_mem:∀ {ds:List PyData} {d:PyData} {k:Nat},PyData.depthAll ds ≤ k→d ∈ ds→d.depth ≤ k
 | _::_,_,_,h,.head _=>by simp [PyData.depthAll] at h;(first | lia | omega)
 | _::_,_,_,h,.tail _ hm=>by simp [PyData.depthAll] at h;exact depth_mem (by (first | lia | omega)) hm
section
variable {prog:Program} {w:World} {A:Around} {E:Value→Shared→Prop} {s:Shared} {S:Sx} {ρ:List Addr} {H:AH} {Q:AV→AH→Prop} {x y:Value} {a b:AV}
theorem seq_of {v:AV} {vs:List AV} (e:v.seq? H = some vs):v = .tup vs ∨ v.items? H = some vs:=by
 cases v<;>first | exact .inl (congrArg AV.tup (Option.some.inj e)) | exact .inr e
theorem seq_real {v:AV} {vs:List AV} (X:HSim S ρ H s.heap) (V:VRel S ρ s.heap v x) (e:v.seq? H = some vs):∃ l items,x = .ref l∧(s.heap.PlainList l items ∨ PT s.heap l items)∧VRels S ρ s.heap vs items.toList:=by
 rcases seq_of e with rfl | e
 ·obtain ⟨_,_,hi,hv⟩:=V.iTup
  exact ⟨_,_,rfl,.inr hi,hv⟩
 ·obtain ⟨l,items,e,p,w⟩:=items_real X V e
  exact ⟨l,items,e,.inl p,w⟩
theorem contains_ok (hu:A.units + 100 < cLine) (X:HSim S ρ H s.heap) (Va:VRel S ρ s.heap a x) (Vb:VRel S ρ s.heap b y) {da:PyData} {vs:List AV} {ds:List PyData} (ra:Rd H 9 a da) (e:b.seq? H = some vs) (rs:Rds H 9 vs ds) {Q:Value→Shared→Prop} :
  (Q (.bool (ds.any fun d=>d.eqv da)) s→wpAny (model prog w) A (compareOp .In x y) Q E s)∧(Q (.bool (!ds.any fun d=>d.eqv da)) s→wpAny (model prog w) A (compareOp .NotIn x y) Q E s):=by
 obtain ⟨l,items,rfl,hl,vv⟩:=seq_real X Vb e
 obtain ⟨as,qa⟩:=ra.reads X Va
 obtain ⟨bs,qb⟩:=rs.reads X vv
 have o1:=ra.ok
 have o2:=rs.ok
 have hany:items.any (eqIn s.heap da) = ds.any fun d=>d.eqv da:=by rw [← readsAll_any qb o2.1];simp
 have he:∀ z,z ∈ items→EqAt A.in1 s z x (eqIn s.heap da z):=fun z hz=>by
  obtain ⟨d,cs,hd,q⟩:=readsAll_get qb (y:=z) (by simpa using hz)
  rw [eqIn_of (da:=da) q (canLay_mem o2.1 hd)]
  exact eqAt_reads d da A.in1 s z x cs as q qa (canLay_mem o2.1 hd) o1.1 (min_lt1 hu (depth_mem o2.2 hd))
 refine ⟨fun h=>?_,fun h=>?_⟩
 ·rcases hl with hl | hl
  ·exact in_listAt _ (PL.isList hl) he (by rw [hany];exact h)
  ·exact in_tupleAt _ hl.isTuple he (by rw [hany];exact h)
 ·rcases hl with hl | hl
  ·exact notIn_listAt _ (PL.isList hl) he (by rw [hany];exact h)
  ·exact notIn_tupleAt _ hl.isTuple he (by rw [hany];exact h)
theorem is_none (V:VRel S ρ s.heap a x):plainIs x .none = true∧(x == .none) = isNone a:=
 VRel.casesOn (motive_1:=fun a x _=>plainIs x .none = true∧(x == .none) = isNone a) V ⟨rfl,rfl⟩ (fun _=>⟨rfl,rfl⟩) (fun _ _=>⟨rfl,rfl⟩) (fun _ _=>⟨rfl,rfl⟩) (fun _ _ _ _=>⟨rfl,rfl⟩) (fun _ _ _ _=>⟨rfl,rfl⟩) (fun _=>⟨rfl,rfl⟩) (fun _ _ _ _=>⟨rfl,rfl⟩) (fun _ _ _ _ _=>⟨rfl,rfl⟩) (fun _ _ _=>⟨rfl,rfl⟩) (fun _ _ _ _ _ _ _=>⟨rfl,rfl⟩)
theorem is_bool (V:VRel S ρ s.heap a x) (c:Bool):plainIs x (.bool c) = true∧(x == .bool c) = isBool c a:=
 VRel.casesOn (motive_1:=fun a x _=>plainIs x (.bool c) = true∧(x == .bool c) = isBool c a) V ⟨rfl,rfl⟩ (fun b=>⟨rfl,by cases b<;>cases c<;>rfl⟩) (fun _ _=>⟨rfl,rfl⟩) (fun _ _=>⟨rfl,rfl⟩) (fun _ _ _ _=>⟨rfl,rfl⟩) (fun _ _ _ _=>⟨rfl,rfl⟩) (fun _=>⟨rfl,rfl⟩) (fun _ _ _ _=>⟨rfl,rfl⟩) (fun _ _ _ _ _=>⟨rfl,rfl⟩) (fun _ _ _=>⟨rfl,rfl⟩) (fun _ _ _ _ _ _ _=>⟨rfl,rfl⟩)
theorem opCmp_ok (op:CmpOp) (hu:A.units + 100 < cLine) (X:HSim S ρ H s.heap) (Va:VRel S ρ s.heap a x) (Vb:VRel S ρ s.heap b y) (h:opCmp op a b H Q):wpAny (model prog w) A (compareOp op x y) (EP S ρ H s Q) E s:=by
 cases op with
 | Lt=>
  obtain ⟨i,j,rfl,rfl,q⟩:=onInts_of h
  obtain ⟨t1,rfl⟩:=Va.ofInt
  obtain ⟨t2,rfl⟩:=Vb.ofInt
  exact P.lt_int (EP.val0 X (.bool _) q)
 | LtE=>
  obtain ⟨i,j,rfl,rfl,q⟩:=onInts_of h
  obtain ⟨t1,rfl⟩:=Va.ofInt
  obtain ⟨t2,rfl⟩:=Vb.ofInt
  exact P.le_int (EP.val0 X (.bool _) q)
 | Gt=>
  obtain ⟨i,j,rfl,rfl,q⟩:=onInts_of h
  obtain ⟨t1,rfl⟩:=Va.ofInt
  obtain ⟨t2,rfl⟩:=Vb.ofInt
  exact P.gt_int (EP.val0 X (.bool _) q)
 | GtE=>exact False.elim h
 | Eq=>
  obtain ⟨da,db,ra,rb,q⟩:=eqOf_of (show eqOf' a b H (fun c=>Q (.bool c) H) from h)
  obtain ⟨as,qa⟩:=ra.reads X Va
  obtain ⟨bs,qb⟩:=rb.reads X Vb
  exact compareEq_reads qa qb ra.ok.1 rb.ok.1 (min_lt hu ra.ok.2) (EP.val0 X (.bool _) q)
 | NotEq=>
  obtain ⟨da,db,ra,rb,q⟩:=eqOf_of (show eqOf' a b H (fun c=>Q (.bool (!c)) H) from h)
  obtain ⟨as,qa⟩:=ra.reads X Va
  obtain ⟨bs,qb⟩:=rb.reads X Vb
  exact compareNe_reads qa qb ra.ok.1 rb.ok.1 (min_lt hu ra.ok.2) (EP.val0 X (.bool _) q)
 | Is=>
  rcases isOf_of (show isOf a b (fun c=>Q (.bool c) H) from h) with ⟨rfl,q⟩ | ⟨c,rfl,q⟩
  ·obtain rfl:=Vb.ofNone;have z:=is_none Va;exact wpAny_is_plain z.1 (by rw [z.2];exact EP.val0 X (.bool _) q)
  ·obtain rfl:=Vb.ofBool;have z:=is_bool Va c;exact wpAny_is_plain z.1 (by rw [z.2];exact EP.val0 X (.bool _) q)
 | IsNot=>
  rcases isOf_of (show isOf a b (fun c=>Q (.bool (!c)) H) from h) with ⟨rfl,q⟩ | ⟨c,rfl,q⟩
  ·obtain rfl:=Vb.ofNone;have z:=is_none Va;exact wpAny_isNot_plain z.1 (by rw [z.2];exact EP.val0 X (.bool _) q)
  ·obtain rfl:=Vb.ofBool;have z:=is_bool Va c;exact wpAny_isNot_plain z.1 (by rw [z.2];exact EP.val0 X (.bool _) q)
 | In=>
  obtain ⟨da,vs,ds,ra,e,rs,q⟩:=(show inOf a b H (fun c=>Q (.bool c) H) from h)
  exact (contains_ok hu X Va Vb ra e rs).1 (EP.val0 X (.bool _) q)
 | NotIn=>
  obtain ⟨da,vs,ds,ra,e,rs,q⟩:=(show inOf a b H (fun c=>Q (.bool (!c)) H) from h)
  exact (contains_ok hu X Va Vb ra e rs).2 (EP.val0 X (.bool _) q)
end
noncomputable def idxAt (k:Int) (vs:List AV):Option AV:=if vs.length ≤ smallN then (seqIndex? k vs.length).bind fun j=>vs[j]? else Option.none
theorem idxAt_of {k:Int} {vs:List AV} {v:AV} (h:idxAt k vs = some v):∃ j,vs.length ≤ smallN∧seqIndex? k vs.length = some j∧vs[j]? = some v:=by
 unfold idxAt at h
 split at h
 ·rename_i hl
  obtain ⟨j,e,e'⟩:=Option.bind_eq_some_iff.mp h
  exact ⟨j,hl,e,e'⟩
 ·first | exact none_some h | cases h
theorem idxAt_some {k:Int} {vs:List AV} {v:AV} {j:Nat} (hl:vs.length ≤ smallN) (e:seqIndex? k vs.length = some j) (e':vs[j]? = some v):idxAt k vs = some v:=by
 unfold idxAt
 rw [if_pos hl,e]
 exact e'
noncomputable def opIdx (o i:AV) (H:AH) (Q:AV→AH→Prop):Prop:=
 match i with
 | .int k=>opt (o.seq? H) fun vs=>opt (idxAt k vs) fun v=>Q v H
 | .str x=>∃ ks vs v,o = .dict ks vs∧(ks.zip vs).lookup x = some v∧Q v H
 | _=>False
noncomputable def optInt:AV→Option (Option Int)
 | .none=>some Option.none
 | .int i=>some (some i)
 | _=>Option.none
noncomputable def slPick {α:Type} (xs:List α) (lo hi st:Option Int):List α:=let (a,b,c):=sliceBounds lo hi st xs.length;(sliceRange a b c).filterMap (xs[·]?)
noncomputable def slcL (o lo hi st:AV) (H:AH) (Q:AV→AH→Prop):Prop:=
 ∃ vs l u t,o.items? H = some vs∧vs.length ≤ smallN∧optInt lo = some l∧optInt hi = some u∧optInt st = some t∧t ≠ some 0∧Q (.ref H.length) (H++[slPick vs l u t])
noncomputable def slcT (vs:List AV) (lo hi st:AV) (H:AH) (Q:AV→AH→Prop):Prop:=match lo,hi,st with
 | .int a,.none,.none=>(1 ≤ a∧a ≤ vs.length∧vs.length ≤ smallN)∧Q (.tup (vs.drop a.toNat)) H
 | _,_,_=>False
theorem slcT_of {vs:List AV} {lo hi st:AV} {H:AH} {Q:AV→AH→Prop} (h:slcT vs lo hi st H Q):∃ a,lo = .int a∧hi = .none∧st = .none∧(1 ≤ a∧a ≤ vs.length∧vs.length ≤ smallN)∧Q (.tup (vs.drop a.toNat)) H:=by
 cases lo<;>first | (exact False.elim h) | skip
 cases hi<;>first | (exact False.elim h) | skip
 cases st<;>first | (exact False.elim h) | skip
 exact ⟨_,rfl,rfl,rfl,h⟩
noncomputable def opSlc (o lo hi st:AV) (H:AH) (Q:AV→AH→Prop):Prop:=match o with
 | .tup vs=>slcT vs lo hi st H Q
 | o=>slcL o lo hi st H Q
theorem opSlc_of {o lo hi st:AV} {H:AH} {Q:AV→AH→Prop} (h:opSlc o lo hi st H Q):(∃ vs,o = .tup vs∧slcT vs lo hi st H Q) ∨ slcL o lo hi st H Q:=by
 cases o<;>first | exact .inl ⟨_,rfl,h⟩ | exact .inr h
theorem opSlc_l {o lo hi st:AV} {H:AH} {Q:AV→AH→Prop} {vs:List AV} (e:o.items? H = some vs) (h:slcL o lo hi st H Q):opSlc o lo hi st H Q:=by
 cases o<;>first | exact h | cases e
theorem VRels.none_iff {S:Sx} {ρ:List Addr} {h:Heap} {vs:List AV} {xs:List Value} (V:VRels S ρ h vs xs) (i:Nat):vs[i]? = Option.none ↔ xs[i]? = Option.none:=by
 simp [V.length]
theorem VRels.picks {S:Sx} {ρ:List Addr} {h:Heap} {vs:List AV} {xs:List Value} (V:VRels S ρ h vs xs):∀ l:List Nat,VRels S ρ h (l.filterMap (vs[·]?)) (l.filterMap (xs[·]?))
 | []=>.nil
 | i::l=>by
  have ih:=V.picks l
  rw [List.filterMap_cons,List.filterMap_cons]
  cases e:vs[i]? with
  | none=>rw [(V.none_iff i).mp e];exact ih
  | some v=>
   obtain ⟨x,ex,hv⟩:=V.get e
   rw [ex]
   exact .cons hv ih
theorem VRels.slPick {S:Sx} {ρ:List Addr} {h:Heap} {vs:List AV} {items:Array Value} (V:VRels S ρ h vs items.toList) (lo hi st:Option Int):VRels S ρ h (slPick vs lo hi st) (slicePick items lo hi st).toList:=by
 have e:=V.length
 simp only [Array.length_toList] at e
 unfold Mine.slPick slicePick
 rw [e]
 simpa using V.picks (sliceRange (sliceBounds lo hi st items.size).1 (sliceBounds lo hi st items.size).2.1 (sliceBounds lo hi st items.size).2.2)
theorem optInt_part {S:Sx} {ρ:List Addr} {h:Heap} {v:AV} {x:Value} {k:Option Int} (V:VRel S ρ h v x) (e:optInt v = some k):IsPart x k:=by
 cases v with
 | none=>obtain rfl:=Option.some.inj e;obtain rfl:=V.ofNone;exact .none
 | int i=>obtain rfl:=Option.some.inj e;obtain ⟨t,rfl⟩:=V.ofInt;exact .int _ _
 | _=>exact none_some e
section
variable {prog:Program} {w:World} {A:Around} {E:Value→Shared→Prop} {s:Shared} {S:Sx} {ρ:List Addr} {H:AH} {Q:AV→AH→Prop} {x y:Value} {o i:AV}
theorem VRels.lookup {h:Heap} {x:Str} {ks:List Str} {vs:List AV} {xs:List Value} {v:AV} (V:VRels S ρ h vs xs) (e:(ks.zip vs).lookup x = some v):∃ z,(ks.zip xs).lookup x = some z∧VRel S ρ h v z:=by
 induction ks generalizing vs xs with
 | nil=>simp at e
 | cons k ks ih=>
  cases vs with
  | nil=>simp at e
  | cons u vs=>
   obtain ⟨z,zs,rfl,hv,hr⟩:=V.cons_inv
   simp only [List.zip_cons_cons,List.lookup_cons] at e ⊢
   split at e
   ·cases e;exact ⟨z,rfl,hv⟩
   ·exact ih hr e
theorem idx_j {j0:Int} {n j:Nat} (h:(if (decide (0 ≤ j0) && decide (j0 < (n:Int))) = true then some j0.toNat else Option.none) = some j):(0 ≤ j0∧j0 < (n:Int))∧j = j0.toNat:=by
 split at h
 ·rename_i hc
  have hc:=Bool.and_eq_true_iff.mp hc
  exact ⟨⟨of_decide_eq_true hc.1,of_decide_eq_true hc.2⟩,(Option.some.inj h).symm⟩
 ·exact none_some h
theorem idx_all {k:Int} {n j:Nat} (hs:n ≤ smallN) (h:seqIndex? k n = some j):-(2 ^ 63) ≤ k∧k < 2 ^ 63∧(0 ≤ k→j = k.toNat∧k < n)∧(k < 0→j = (k + n).toNat∧-(n:Int) ≤ k):=by
 have hn:(n:Int) < 2 ^ 63:=small_63 rfl hs
 by_cases hk:k < 0
 ·have h:=idx_j (j0:=k + n) (by rw [← h];unfold seqIndex?;rw [if_pos hk])
  have hk':-(n:Int) ≤ k:=Int.le_of_sub_nonneg (by rw [Int.sub_neg];exact h.1.1)
  exact ⟨Int.le_trans (Int.neg_le_neg (Int.le_of_lt hn)) hk',Int.lt_trans hk (by decide),fun q=>absurd hk (Int.not_lt.mpr q),fun _=>⟨h.2,hk'⟩⟩
 ·have h:=idx_j (j0:=k) (by rw [← h];unfold seqIndex?;rw [if_neg hk])
  exact ⟨Int.le_trans (by decide) h.1.1,Int.lt_trans h.1.2 hn,fun _=>⟨h.2,h.1.2⟩,fun q=>absurd q hk⟩
theorem getItem_ok (hp:S.prog = prog) (hw:S.w = w) (X:HSim S ρ H s.heap) (Vo:VRel S ρ s.heap o x) (Vi:VRel S ρ s.heap i y) (h:opIdx o i H Q):(s.TypeIs x "list" ∨ s.TypeIs x "tuple" ∨ s.TypeIs x "dict")∧wpAny (model prog w) A (getItem x y) (EP S ρ H s Q) E s:=by
 cases i with
 | int k=>
  obtain ⟨vs,e,h⟩:=opt_of h
  obtain ⟨v,ev0,q⟩:=opt_of h
  obtain ⟨j,hsm,ej,ev⟩:=idxAt_of ev0
  clear ev0 h
  obtain ⟨t,rfl⟩:=Vi.ofInt
  obtain ⟨l,items,rfl,hl,vv⟩:=seq_real X Vo e
  have e1:=vv.length
  simp only [Array.length_toList] at e1
  rw [e1] at ej
  obtain ⟨z,ez,hz⟩:=vv.get ev
  have ez':items[j]? = some z:=by simpa using ez
  have hb:=idx_all (by rw [← e1];exact hsm) ej
  rcases hl with hl | ⟨n,hl⟩
  ·refine ⟨.inl (PL.isList hl).typeIs,?_⟩
   by_cases h0:0 ≤ k
   ·exact wpAny_getItem_list (PL.isList hl) h0 hb.2.1 (by rw [← (hb.2.2.1 h0).1];exact ez') (EP.val0 X hz q)
   ·exact wpAny_getItem_list_neg (PL.isList hl) (by (first | lia | omega)) (hb.2.2.2 (by (first | lia | omega))).2 hb.1 (by rw [← (hb.2.2.2 (by (first | lia | omega))).1];exact ez') (EP.val0 X hz q)
  ·refine ⟨.inr (.inl ⟨_,hl,rfl⟩),?_⟩
   exact P.getItem_tuple hl hb.1 hb.2.1 ej ez' (EP.val0 X hz q)
 | str z=>
  obtain ⟨ks,vs,v,rfl,e,q⟩:=h
  obtain ⟨_,rfl⟩:=Vi.ofStr
  cases Vo.iDict with
  | mk ha hs hm he hv=>
  obtain ⟨z,ez,Vz⟩:=hv.lookup e
  rw [hp,hw] at hm
  obtain ⟨_,hm⟩:=hm
  exact ⟨.inr (.inr hm.typeIs),wpAny_getItem_of (strKind_is prog w _ _) hm ((he _).trans ez) (EP.val X Vz q _)⟩
 | _=>exact h.elim
end
open PySem PyProof.Rows PySem.SeqAt
inductive Pr where
 | len | all | min | int | list | range
 deriving DecidableEq
noncomputable def Pr.val:Pr→Value
 | .len=>.builtin "len"
 | .all=>.builtin "all"
 | .min=>.builtin "min"
 | .int=>.type "int"
 | .list=>.type "list"
 | .range=>.type "range"
inductive Ty where
 | int | bool | str | list | tuple
 deriving DecidableEq
noncomputable def Ty.name:Ty→String
 | .int => "int"
 | .bool => "bool"
 | .str => "str"
 | .list => "list"
 | .tuple => "tuple"
noncomputable def isInst (t:Ty):AV→Bool
 | .int _=>t == .int
 | .bool _=>t == .int || t == .bool
 | .str _=>t == .str
 | .tup _=>t == .tuple
 | .fl _=>t == .list
 | .ref _=>t == .list
 | _=>false
theorem isI_int (t:Ty) (n:Int):isInst t (.int n) = (t == .int):=rfl
theorem isI_bool (t:Ty) (n:Bool):isInst t (.bool n) = (t == .int || t == .bool):=rfl
theorem isI_str (t:Ty) (n:Str):isInst t (.str n) = (t == .str):=rfl
theorem isI_tup (t:Ty) (n:List AV):isInst t (.tup n) = (t == .tuple):=rfl
theorem isI_fl (t:Ty) (n:List AV):isInst t (.fl n) = (t == .list):=rfl
theorem isI_ref (t:Ty) (n:Nat):isInst t (.ref n) = (t == .list):=rfl
noncomputable def lenOf (H:AH) (v:AV):Option Nat:=(v.seq? H).map List.length
noncomputable def rngList (a b c:Int):List Int:=(List.range (Builtin.Range.rangeSize a b c).toNat).map fun (i:Nat)=>a + (i:Int) * c
noncomputable def on1 (vs:List AV) (k:AV→Prop):Prop:=match vs with
 | [v]=>k v
 | _=>False
theorem on1_of {vs:List AV} {k:AV→Prop} (h:on1 vs k):∃ v,vs = [v]∧k v:=by
 rcases vs with _ | ⟨v,_ | ⟨u,r⟩⟩
 ·exact False.elim h
 ·exact ⟨v,rfl,h⟩
 ·exact False.elim h
noncomputable def onBool (v:AV) (k:Bool→Prop):Prop:=match v with
 | .bool c=>k c
 | _=>False
theorem onBool_of {v:AV} {k:Bool→Prop} (h:onBool v k):∃ c,v = .bool c∧k c:=by
 cases v<;>first | (exact False.elim h) | exact ⟨_,rfl,h⟩
noncomputable def onInt (v:AV) (k:Int→Prop):Prop:=match v with
 | .int c=>k c
 | _=>False
theorem onInt_of {v:AV} {k:Int→Prop} (h:onInt v k):∃ c,v = .int c∧k c:=by
 cases v<;>first | (exact False.elim h) | exact ⟨_,rfl,h⟩
noncomputable def lstOf (v:AV) (H:AH) (Q:AV→AH→Prop):Prop:=opt (v.seq? H) fun xs=>xs.length ≤ smallN∧Q (.ref H.length) (H++[xs])
noncomputable def lowOf (low:Bool) (vs:List AV) (H:AH) (Q:AV→AH→Prop):Prop:=match vs with
 | [u,v]=>onInts u v fun a b=>Q (.int (if (if low = true then b < a else b > a) then b else a)) H
 | _=>False
noncomputable def rngOf (vs:List AV) (k:Int→Int→Int→Prop):Prop:=match vs with
 | [v]=>onInt v fun b=>k 0 b 1
 | [u,v]=>onInts u v fun a b=>k a b 1
 | _=>False
noncomputable def intOf (v:AV) (k:Int→Prop):Prop:=match v with
 | .bool c=>k (if c then 1 else 0)
 | _=>False
noncomputable def opPrim (b:Pr) (vs:List AV) (H:AH) (Q:AV→AH→Prop):Prop:=
 match b with
 | .len=>on1 vs fun v=>opt (lenOf H v) fun n=>n ≤ smallN∧Q (.int n) H
 | .int=>on1 vs fun v=>intOf v fun i=>Q (.int i) H
 | .list=>on1 vs fun v=>lstOf v H Q
 | .all=>on1 vs fun v=>∃ bs:List Bool,v.items? H = some (bs.map AV.bool)∧Q (.bool (bs.all id)) H
 | .min=>lowOf true vs H Q
 | .range=>rngOf vs fun a b c=>rngOk a b c∧Q (.rng a b c) H
theorem rng_e {a b c:Int} (h:rngOk a b c):Builtin.Range.rangeSize a b c ≥ 0∧Builtin.Range.rangeSize a b c ≤ 2000001:=by
 obtain ⟨⟨a1,a2⟩,⟨b1,b2⟩,rfl,_⟩:=h
 unfold Builtin.Range.rangeSize
 rw [if_pos (by decide),Int.ediv_one]
 split
 ·rw [Int.sub_add_cancel]
  exact ⟨Int.sub_nonneg.mpr (Int.le_of_lt ‹_›),Int.le_trans (Int.sub_le_sub b2 a1) (by decide)⟩
 ·exact ⟨Int.le_refl 0,by decide⟩
theorem rng_small {a b c:Int} (h:rngOk a b c):Builtin.Range.small a b c = true:=by
 obtain ⟨⟨a1,a2⟩,⟨b1,b2⟩,rfl,_⟩:=h
 exact small_one (Int.le_trans (by decide) a1) (Int.lt_of_le_of_lt a2 (by decide)) (Int.le_trans (by decide) b1) (Int.lt_of_le_of_lt b2 (by decide))
theorem rng_size {a b c:Int} (h:rngOk a b c):Builtin.Range.rangeSize a b c = ((Builtin.Range.rangeSize a b c).toNat:Int)∧(Builtin.Range.rangeSize a b c).toNat ≤ 2000001:=by
 obtain ⟨e1,e2⟩:=rng_e h
 exact ⟨(Int.toNat_of_nonneg e1).symm,Int.toNat_le.mpr e2⟩
section
variable {prog:Program} {w:World} {A:Around} {E:Value→Shared→Prop} {s:Shared} {S:Sx} {ρ:List Addr} {H:AH} {Q:AV→AH→Prop} {x y:Value} {v:AV}
theorem len_ok (X:HSim S ρ H s.heap) (V:VRel S ρ s.heap v x) (h:opPrim .len [v] H Q):wpAny (model prog w) A (call (.builtin "len") [x]) (EP S ρ H s Q) E s:=by
 obtain ⟨n,e,hn,q⟩:=opt_of h
 obtain ⟨vs,e1,rfl⟩:=Option.map_eq_some_iff.mp e
 obtain ⟨l,items,rfl,hl,vv⟩:=seq_real X V e1
 rw [vv.size] at q hn
 rcases hl with hl | ⟨m,hl⟩
 ·exact Calls.call_len_list (PL.isList hl) (small_63 rfl hn) (EP.val X (.int _ _) q _)
 ·exact P.len_tuple hl (Int.not_le.mpr (small_63 rfl hn)) (EP.val X (.int _ _) q _)
noncomputable def AV.offX:AV→Bool
 | .rng _ _ _=>false
 | .exc _=>false
 | .obj _ _ _=>false
 | .dict _ _=>false
 | _=>true
theorem isinst_ok (t:Ty) (X:HSim S ρ H s.heap) (V:VRel S ρ s.heap v x) (h:Q (.bool (isInst t v)) H) (hok:v.offX = true):wpAny (model prog w) A (call (.builtin "isinstance") [x,.type t.name]) (EP S ρ H s Q) E s:=by
 refine hidQ fun QQ EE hQ _=>?_
 have hq:∀ tk,QQ (.bool (isInst t v)) { s with toks:=tk }:=fun tk=>hQ _ _ (EP.val X (.bool _) h tk)
 clear hQ h
 have lst:∀ {a:Addr} {items:Array Value} {n:Nat},x = .ref a→s.heap.get? a = some { cls:=.type "list",data:=.seq items n }→isInst t v = (t == .list)→wpAny (model prog w) A (call (.builtin "isinstance") [x,.type t.name]) QQ EE s:=fun {a items n} ex hi e=>by
  subst ex
  rw [e] at hq
  cases t<;>first | exact IsiPair.list_int hi rfl (hq _) | exact IsiPair.list_bool hi rfl (hq _) | exact IsiPair.list_str hi rfl (hq _) | exact IsiPair.list_list hi rfl (hq s.toks) | exact IsiPair.list_tuple hi rfl (hq _)
 cases v with
 | none=>obtain rfl:=V.ofNone;cases t<;>first | exact IsiPair.NoneType_int (hq _) | exact IsiPair.NoneType_bool (hq _) | exact IsiPair.NoneType_str (hq _) | exact IsiPair.NoneType_list (hq _) | exact IsiPair.NoneType_tuple (hq _)
 | bool b=>obtain rfl:=V.ofBool;cases t<;>first | exact IsiPair.bool_int (hq s.toks) | exact IsiPair.bool_bool (hq s.toks) | exact IsiPair.bool_str (hq _) | exact IsiPair.bool_list (hq _) | exact IsiPair.bool_tuple (hq _)
 | int i=>obtain ⟨u,rfl⟩:=V.ofInt;cases t<;>first | exact IsiPair.int_int (hq s.toks) | exact IsiPair.int_bool (hq _) | exact IsiPair.int_str (hq _) | exact IsiPair.int_list (hq _) | exact IsiPair.int_tuple (hq _)
 | str i=>obtain ⟨u,rfl⟩:=V.ofStr;cases t<;>first | exact IsiPair.str_int (hq _) | exact IsiPair.str_bool (hq _) | exact IsiPair.str_str (hq s.toks) | exact IsiPair.str_list (hq _) | exact IsiPair.str_tuple (hq _)
 | tup vs=>
  obtain ⟨_,_,hi,_⟩:=V.iTup
  obtain ⟨n,hi⟩:=hi
  cases t<;>first | exact IsiPair.tuple_int hi rfl (hq _) | exact IsiPair.tuple_bool hi rfl (hq _) | exact IsiPair.tuple_str hi rfl (hq _) | exact IsiPair.tuple_list hi rfl (hq _) | exact IsiPair.tuple_tuple hi rfl (hq s.toks)
 | fl vs=>
  obtain ⟨_,_,hi,_⟩:=V.iFl
  obtain ⟨n,hi⟩:=hi
  exact lst rfl hi rfl
 | ref n=>
  obtain ⟨hi⟩:=V.iRef
  obtain ⟨items,p,_⟩:=X.mem' hi
  obtain ⟨n,hi⟩:=p
  exact lst rfl hi rfl
 | _=>cases hok
theorem all_bools {bs:List Bool} {xs:List Value} {h:Heap} (V:VRels S ρ h (bs.map AV.bool) xs) (i:Nat) (x:Value) (e:xs[i]? = some x):∃ b,bs[i]? = some b∧x = .bool b:=by
 obtain ⟨v,ev,hv⟩:=V.getR e
 rw [List.getElem?_map] at ev
 obtain ⟨b,eb,rfl⟩:=Option.map_eq_some_iff.mp ev
 exact ⟨b,eb,hv.ofBool⟩
theorem range_all (bs:List Bool):(List.range bs.length).all (fun i=>bs.getD i true) = bs.all id:=by
 rw [Bool.eq_iff_iff,List.all_eq_true,List.all_eq_true]
 constructor
 ·intro h b hb
  obtain ⟨i,hi,rfl⟩:=List.mem_iff_getElem.mp hb
  have:=h i (List.mem_range.mpr hi)
  simpa [hi] using this
 ·intro h i hi
  have hi':=List.mem_range.mp hi
  have:=h bs[i] (List.getElem_mem hi')
  simpa [hi'] using this
theorem opPrim_ok (b:Pr) {vs:List AV} {xs:List Value} (hh:A.handled = none) (X:HSim S ρ H s.heap) (D:SD S s.heap) (V0:VRels S ρ s.heap vs xs) (h0:opPrim b vs H Q):wpAny (model prog w) A (call b.val xs) (EP S ρ H s Q) E s:=by
 cases b with
 | len=>
  obtain ⟨v,ev,h⟩:=on1_of h0
  clear h0
  subst ev
  obtain ⟨y,ey,V⟩:=V0.of1
  clear V0
  subst ey
  exact len_ok X V h
 | int=>
  obtain ⟨v,ev,h⟩:=on1_of h0
  clear h0
  subst ev
  obtain ⟨y,ey,V⟩:=V0.of1
  clear V0
  subst ey
  cases v with
  | bool c=>cases V.ofBool;exact call_int_bool (EP.val X (.int _ _) h _)
  | _=>exact False.elim h
 | list=>
  obtain ⟨v,ev,h⟩:=on1_of h0
  clear h0
  subst ev
  obtain ⟨y,ey,V⟩:=V0.of1
  clear V0
  subst ey
  obtain ⟨ys,e,hs,q⟩:=opt_of h
  obtain ⟨l,items,rfl,hl,vv⟩:=seq_real X V e
  have hsz:=small_le vv.size hs
  rcases hl with ⟨n,hl⟩ | ⟨n,hl⟩
  ·exact call_list_seq (hsz:=hsz) l (.inl rfl) hl rfl rfl fun h' c' hk hn=>EP.newL (tk:=s.toks) X D hk (size_none _) ⟨c',hn⟩ vv q
  ·exact call_list_seq (hsz:=hsz) l (.inr rfl) hl rfl rfl fun h' c' hk hn=>EP.newL (tk:=s.toks) X D hk (size_none _) ⟨c',hn⟩ vv q
 | all=>
  obtain ⟨v,ev,h⟩:=on1_of h0
  clear h0
  subst ev
  obtain ⟨y,ey,V⟩:=V0.of1
  clear V0
  subst ey
  obtain ⟨bs,e,q⟩:=h
  obtain ⟨l,items,rfl,hl,vv⟩:=items_real X V e
  have e1:=vv.length
  simp only [Array.length_toList,List.length_map] at e1
  refine call_all_walk (wpAny_pyIter_list (PL.isList hl) ?_)
  have hlt:l < s.heap.objs.size:=by obtain ⟨n,hl⟩:=hl;exact Heap.lt_size hl
  refine ⟨_,_,_,_,_,_,fun i=>bs.getD i true,rfl,Walks.list (A:=A.in1) hh s.heap.objs.size l (Nat.ne_of_lt hlt) items,⟨⟨_,Heap.get?_push_size _ rfl,rfl,rfl⟩,(PL.isList hl).at fun o e=>Heap.get?_push_of_some _ e⟩,?_,fun h' tk hk=>?_⟩
  ·intro i v s₁ Q₁ E₁ hP hq
   obtain ⟨b,eb,rfl⟩:=all_bools vv i v (by simpa using hP)
   have e2:bs.getD i true = b:=by simp [List.getD,eb]
   have hq':Q₁ b s₁:=e2 ▸ hq
   exact wpAny_truthy_bool hq'
  ·rw [← e1,range_all]
   refine EP.grow X (fun b o e=>hk b o (fun hm=>?_) (Heap.get?_push_of_some _ e)) (.bool _) q
   simp at hm;subst hm
   exact absurd (Heap.lt_size e) (Nat.lt_irrefl _)
 | min=>
  rcases vs with _ | ⟨v,_ | ⟨u,_ | ⟨u2,r⟩⟩⟩
  ·exact False.elim h0
  ·exact False.elim h0
  ·obtain ⟨i,j,rfl,rfl,h⟩:=onInts_of h0
   clear h0
   obtain ⟨y,z,rfl,V,W⟩:=V0.of2
   obtain ⟨t1,rfl⟩:=V.ofInt
   obtain ⟨t2,rfl⟩:=W.ofInt
   refine min_two_ints hh fun h' tk hk=>?_
   split
   ·rename_i hc;rw [if_pos (by simpa using hc)] at h;exact EP.grow X hk (.int _ _) h
   ·rename_i hc;rw [if_neg (by simpa using hc)] at h;exact EP.grow X hk (.int _ _) h
  ·exact False.elim h0
 | range=>
  have n1:s.heap.objs.size ∉ ρ:=fun hm=>by obtain ⟨o,ho⟩:=X.mem hm;rw [size_none] at ho;cases ho
  have n2:s.heap.objs.size ∉ S.ad:=fun hm=>by obtain ⟨o,ho⟩:=D _ hm;rw [size_none] at ho;cases ho
  rcases vs with _ | ⟨v,_ | ⟨u,_ | ⟨u2,r⟩⟩⟩
  ·exact False.elim h0
  ·obtain ⟨y,rfl,V⟩:=V0.of1
   obtain ⟨j,rfl,h⟩:=onInt_of h0
   clear h0 V0
   obtain ⟨t1,rfl⟩:=V.ofInt
   exact call_range_1 (EP.grow X (push_kp _ _) (.rng h.1 n1 n2 (Heap.get?_push_size _ rfl)) h.2)
  ·obtain ⟨i,j,rfl,rfl,h⟩:=onInts_of h0
   clear h0
   obtain ⟨y,z,rfl,V,W⟩:=V0.of2
   obtain ⟨t1,rfl⟩:=V.ofInt
   obtain ⟨t2,rfl⟩:=W.ofInt
   exact call_range_2 (EP.grow X (push_kp _ _) (.rng h.1 n1 n2 (Heap.get?_push_size _ rfl)) h.2)
  ·exact False.elim h0
end
open PySem PyProof.Rows PySem.SeqAt
inductive Mt where
 | count | index
 deriving DecidableEq
inductive Mu where
 | append | insert | clear | reverse | pop
 deriving DecidableEq
set_option genCtorIdx false in
inductive CE where
 | const (v:AV)
 | var (i:Nat)
 | bin (op:Operator) (l r:CE)
 | neg (e:CE)
 | not (e:CE)
 | and (l r:CE)
 | or (l r:CE)
 | cmp (op:CmpOp) (l r:CE)
 | chain (op1 op2:CmpOp) (l m r:CE)
 | idx (o i:CE)
 | slc (o lo hi st:CE)
 | tup (es:List CE)
 | lst (es:List CE)
 | dct (ks:List Str) (es:List CE)
 | call (f:Nat) (es:List CE)
 | prim (b:Pr) (es:List CE)
 | isin (t:Ty) (e:CE)
 | isown (c:Str) (e:CE)
 | meth (m:Mt) (o:CE) (es:List CE)
 | comp (elt:CE) (cs:List CE) (cap:List Nat) (nv:Nat) (it:CE)
 | attr (o:CE) (x:Str)
 | mth (f:Nat) (m:Str) (o:CE) (es:List CE)
 | new (es:List CE)
set_option genCtorIdx false in
inductive IE where
 | pure (e:CE)
 | call (f:Nat) (es:List CE)
 | mth (f:Nat) (m:Str) (o:CE) (es:List CE)
 | pop (o:CE)
 | tup (e:CE) (i:IE)
 | eq (e:CE) (i:IE)
 | not (i:IE)
 | and (i j:IE)
 | or (i j:IE)
set_option genCtorIdx false in
inductive CS where
 | assign (x:Nat) (e:CE)
 | assignT (xs:List Nat) (e:CE)
 | setIdx (o i v:CE)
 | mut (m:Mu) (o:CE) (es:List CE)
 | expr (e:CE)
 | ite (c:CE) (a b:List CS)
 | for1 (x:Nat) (it:CE) (body:List CS)
 | while (c:CE) (body:List CS)
 | ret (e:CE)
 | raise (c:Str)
 | try (body:List CS) (c:Str) (x:Nat) (h:List CS)
 | asgI (x:Nat) (i:IE)
 | iteI (i:IE) (a b:List CS)
 | retI (i:IE)
structure NT where
 fns:List Str
 consts:List (Str × AV)
 ms:List Str
 cn:Str
 imp:List Str
noncomputable def NT.nm (nt:NT) (f:Nat):Option Str:=(nt.fns++nt.ms)[f]?
theorem NT.nm_of {nt:NT} {f:Nat} {x:Str} (h:nt.fns[f]? = some x):nt.nm f = some x:=by
 unfold NT.nm
 rw [List.getElem?_append_left (List.getElem?_eq_some_iff.mp h).1]
 exact h
theorem NT.nm_at {nt:NT} {f:Nat} {x:Str} (h:nt.ms[f]? = some x):nt.nm (nt.fns.length + f) = some x:=by
 unfold NT.nm
 rw [List.getElem?_append_right (Nat.le_add_right _ _),Nat.add_sub_cancel_left]
 exact h
theorem or_some {α:Type} {a b:Option α} {c:α} (h:a.or b = some c):a = some c ∨ b = some c:=by
 cases a with
 | none=>exact .inr h
 | some a=>exact .inl h
section
variable {α β δ ε γ:Type} {G:γ→Prop}
theorem os {a:γ} (c:γ) (h:some a = some c) (k:G a):G c:=Option.some.inj h ▸ k
theorem ob {x:Option α} {g:α→Option γ} {c:γ} {G:Prop} (h:x.bind g = some c) (k:∀ a,x = some a→g a = some c→G):G:=by obtain ⟨a,e,h⟩:=Option.bind_eq_some_iff.mp h;exact k a e h
theorem om {x:Option α} {f:α→γ} (c:γ) (h:x.map f = some c) (k:∀ a,x = some a→G (f a)):G c:=by obtain ⟨a,e,h⟩:=Option.map_eq_some_iff.mp h;exact h ▸ k a e
theorem ob2 {x:Option α} {y:Option β} {f:α→β→γ} (c:γ) (h:(x.bind fun a=>y.bind fun b=>some (f a b)) = some c) (k:∀ a b,x = some a→y = some b→G (f a b)):G c:=ob h fun a ea h=>ob h fun b eb h=>os _ h (k a b ea eb)
theorem ob3 {x:Option α} {y:Option β} {z:Option δ} {f:α→β→δ→γ} (c:γ) (h:(x.bind fun a=>y.bind fun b=>z.bind fun d=>some (f a b d)) = some c) (k:∀ a b d,x = some a→y = some b→z = some d→G (f a b d)):G c:=ob h fun a ea h=>ob2 _ h fun b d eb ed=>k a b d ea eb ed
theorem ob4 {x:Option α} {y:Option β} {z:Option δ} {u:Option ε} {f:α→β→δ→ε→γ} (c:γ) (h:(x.bind fun a=>y.bind fun b=>z.bind fun d=>u.bind fun e=>some (f a b d e)) = some c) (k:∀ a b d e,x = some a→y = some b→z = some d→u = some e→G (f a b d e)):G c:=ob h fun a ea h=>ob3 _ h fun b d e eb ed ee=>k a b d e ea eb ed ee
theorem oi {p:Prop} [Decidable p] {a:γ} (c:γ) (h:(if p then some a else none) = some c) (k:p→G a):G c:=by
 split at h
 ·exact os _ h (k ‹_›)
 ·cases h
theorem oip {p:Prop} [Decidable p] {x:Option γ} {c:γ} {G:Prop} (h:(if p then x else none) = some c) (k:p→x = some c→G):G:=by
 split at h
 ·exact k ‹_› h
 ·cases h
theorem oin {p:Prop} [Decidable p] {x:Option γ} {c:γ} {G:Prop} (h:(if p then none else x) = some c) (k:¬ p→x = some c→G):G:=by
 split at h
 ·cases h
 ·exact k ‹_› h
theorem oif {p:Prop} [Decidable p] {x y:Option γ} {c:γ} {G:Prop} (h:(if p then x else y) = some c) (k:p→x = some c→G) (k':¬ p→y = some c→G):G:=by
 split at h
 ·exact k ‹_› h
 ·exact k' ‹_› h
theorem oor {x y:Option γ} {c:γ} {G:Prop} (h:x.or y = some c) (k1:x = some c→G) (k2:y = some c→G):G:=(or_some h).elim k1 k2
theorem oel {x:Option α} {f:α→Option γ} {y:Option γ} {c:γ} {G:Prop} (h:x.elim y f = some c) (k1:∀ a,x = some a→f a = some c→G) (k2:x = none→y = some c→G):G:=by
 cases x with
 | none=>exact k2 rfl h
 | some a=>exact k1 a rfl h
end
noncomputable def prNames:List (Str × Pr):=[("len",.len),("all",.all),("min",.min),("int",.int),("list",.list),("range",.range)]
noncomputable def tyNames:List (Str × Ty):=[("int",.int),("bool",.bool),("str",.str),("list",.list),("tuple",.tuple)]
noncomputable def biOf (x:Str):Option Value:=
 (([("isinstance",Value.builtin "isinstance"),("bool",Value.type "bool"),("str",Value.type "str"),("tuple",Value.type "tuple")]:List (Str × Value))++prNames.map fun p=>(p.1,p.2.val)).lookup x
noncomputable def mtNames:List (Str × Mt):=[("count",.count),("index",.index)]
noncomputable def muNames:List (Str × Mu):=[("append",.append),("insert",.insert),("clear",.clear),("reverse",.reverse),("pop",.pop)]
noncomputable def constOf:Const→Option AV
 | .none=>some .none
 | .bool b=>some (.bool b)
 | .int i=>some (.int i)
 | .str x=>some (.str x)
 | _=>Option.none
noncomputable def isLoc:Option NameKind→Bool
 | some .local=>true
 | some .cell=>true
 | _=>false
noncomputable def idxOf (x:Str):List Str→Option Nat
 | []=>Option.none
 | y::r=>if y = x then some 0 else (idxOf x r).map (· + 1)
theorem idxOf_get {x:Str}:∀ {l:List Str} {i:Nat},idxOf x l = some i→l[i]? = some x
 | y::r,i,e=>by
  unfold idxOf at e
  split at e
  ·rename_i h;cases e;simp [h]
  ·cases q:idxOf x r with
   | none=>rw [q] at e;cases e
   | some j=>rw [q] at e;cases e;simpa using idxOf_get q
 | [],_,e=>by cases e
noncomputable def slotOf (kd:Str→Option NameKind) (names:List Str) (x:Str):Option Nat:=if isLoc (kd x) && x != ("__debug__" : Str) then idxOf x names else Option.none
noncomputable def isGlob (kd:Str→Option NameKind) (x:Str):Bool:=kd x == some .globalImplicit && x != ("__debug__" : Str)
noncomputable def nameOf (e:PySem.Expr):Option Str:=match e with
 | .Name x _=>some x
 | _=>Option.none
noncomputable def allSome {α:Type}:List (Option α)→Option (List α)
 | []=>some []
 | Option.none::_=>Option.none
 | some a::r=>(allSome r).map (a::·)
noncomputable def compKd (scope:Scope) (kd:Str→Option NameKind) (x:Str):Option NameKind:=match scope.names.lookup x with
 | some .free=>if kd x = some .cell then some .cell else some .free
 | k=>k
noncomputable def freeNames (scope:Scope):List Str:=(scope.names.filter fun p=>p.2 == .free).map (·.1)
noncomputable def compOk (scope:Scope) (kd:Str→Option NameKind) (xs:List Str):Bool:=
 scope.kind == .function && scope.names.all (fun p=>p.2 != .cell) && scope.names.all (fun p=>p.2 != .local || scope.names.lookup p.1 == some .local) && xs.all (fun x=>scope.names.lookup x == some .local) && (freeNames scope).all (fun x=>kd x == some .cell) && (scope.names.map (·.1)).all fun x=>!(freeNames scope).contains x || scope.names.lookup x == some .free
noncomputable def strKey:Option PySem.Expr→Option Str
 | some (.Constant (.str x) _ _)=>some x
 | _=>Option.none
noncomputable def tgtNames:PySem.Expr→Option (Nat × List Str)
 | .Name x _=>some (0,[x])
 | .Tuple es _ _=>(allSome (es.map nameOf)).bind fun l=>if l.length = 0 then Option.none else some (l.length,l)
 | _=>Option.none
noncomputable def boolNest (op:BoolOp):List CE→Option CE
 | []=>Option.none
 | [a]=>some a
 | a::r=>(boolNest op r).map (match op with | .And=>CE.and a | .Or=>CE.or a)
noncomputable def compName (nt:NT) (kd:Str→Option NameKind) (names:List Str) (x:Str):Option CE:=(slotOf kd names x).elim (if isGlob kd x then (nt.consts.lookup x).map .const else Option.none) fun i=>some (.var i)
noncomputable def compUn (op:UnaryOp) (c:Option CE):Option CE:=match op with
 | .USub=>c.map .neg
 | .Not=>c.map .not
 | _=>Option.none
noncomputable def compCmp (r:PySem.Expr→Option CE) (l:PySem.Expr) (ops:List CmpOp) (rs:List PySem.Expr):Option CE:=match ops,rs with
 | [op],[e]=>do
  let a ← r l
  let b ← r e
  some (.cmp op a b)
 | [op1,op2],[m,e]=>do
  let a ← r l
  let b ← r m
  let c ← r e
  some (.chain op1 op2 a b c)
 | _,_=>Option.none
noncomputable def compOpt (r:PySem.Expr→Option CE):Option PySem.Expr→Option CE
 | some e=>r e
 | Option.none=>some (.const .none)
noncomputable def isSlice:PySem.Expr→Option (Option PySem.Expr × Option PySem.Expr × Option PySem.Expr)
 | .Slice lo hi st _=>some (lo,hi,st)
 | _=>Option.none
noncomputable def compSub (r:PySem.Expr→Option CE) (o i:PySem.Expr):Option CE:=(isSlice i).elim (do
  let a ← r o
  let b ← r i
  some (.idx a b)) fun q=>do
  let a ← r o
  let b ← compOpt r q.1
  let c ← compOpt r q.2.1
  let d ← compOpt r q.2.2
  some (.slc a b c d)
noncomputable def compDct (r:PySem.Expr→Option CE) (ks:List (Option PySem.Expr)) (es:List PySem.Expr):Option CE:=do
 let l ← allSome (ks.map strKey)
 let q ← allSome (es.map r)
 if l.length = q.length∧l.Nodup∧l.length < 15 then some (.dct l q) else Option.none
noncomputable def isiArgs (kd:Str→Option NameKind) (args:List PySem.Expr):Option (PySem.Expr × Str):=match args with
 | [e,t]=>match nameOf t with
  | some t=>if isGlob kd t then some (e,t) else Option.none
  | Option.none=>Option.none
 | _=>Option.none
noncomputable def isiEnd (nt:NT) (t:Str) (a:CE):Option CE:=(tyNames.lookup t).elim (if nt.fns.contains t then Option.none else some (.isown t a)) fun ty=>some (.isin ty a)
noncomputable def compIsi (nt:NT) (r:PySem.Expr→Option CE) (kd:Str→Option NameKind) (args:List PySem.Expr):Option CE:=(isiArgs kd args).bind fun q=>(r q.1).bind fun a=>isiEnd nt q.2 a
noncomputable def compFn (nt:NT) (r:PySem.Expr→Option CE) (x:Str) (args:List PySem.Expr):Option CE:=do
 let l ← allSome (args.map r)
 if l.isEmpty || nt.imp.contains x then Option.none else
 (idxOf x nt.fns).elim ((prNames.lookup x).map fun b=>.prim b l) fun f=>some (.call f l)
noncomputable def compNew (nt:NT) (r:PySem.Expr→Option CE) (x:Str) (args:List PySem.Expr):Option CE:=do
 let l ← allSome (args.map r)
 if x = nt.cn∧l.isEmpty = false then some (.new l) else Option.none
noncomputable def compMth (nt:NT) (r:PySem.Expr→Option CE) (o:PySem.Expr) (m:Str) (ap:Pos) (args:List PySem.Expr) (p:Pos):Option CE:=do
 let a ← r o
 let l ← allSome (args.map r)
 let f ← idxOf (nt.cn++"."++m) nt.ms
 if ((ap.endLine == p.line) = true∧l.length ≤ 20)∧nt.imp.contains m = false then some (.mth (nt.fns.length + f) m a l) else Option.none
noncomputable def compMeth (r:PySem.Expr→Option CE) (o:PySem.Expr) (m:Str) (ap:Pos) (args:List PySem.Expr) (p:Pos):Option CE:=do
 let a ← r o
 let l ← allSome (args.map r)
 if ap.endLine == p.line && l.length == 1 then (mtNames.lookup m).map fun b=>.meth b a l else Option.none
noncomputable def attrOf:PySem.Expr→Option (PySem.Expr × Str × Pos)
 | .Attribute o m ap=>some (o,m,ap)
 | _=>Option.none
noncomputable def compCall (nt:NT) (r:PySem.Expr→Option CE) (kd:Str→Option NameKind) (f:PySem.Expr) (args:List PySem.Expr) (p:Pos):Option CE:=(nameOf f).elim ((attrOf f).bind fun q=>(compMeth r q.1 q.2.1 q.2.2 args p).or (compMth nt r q.1 q.2.1 q.2.2 args p)) fun x=>if isGlob kd x then (if x = ("isinstance" : Str) then compIsi nt r kd args else (compFn nt r x args).or (compNew nt r x args)) else Option.none
noncomputable def genOf (gens:List Comprehension):Option (PySem.Expr × (Nat × List Str) × PySem.Expr × List PySem.Expr):=match gens with
 | [g]=>match tgtNames g.target with
  | some q=>if g.is_async = 0∧q.2.Nodup then some (g.target,q,g.iter,g.ifs) else Option.none
  | Option.none=>Option.none
 | _=>Option.none
noncomputable def compLC (r:(Str→Option NameKind)→List Str→PySem.Expr→Option CE) (kd:Str→Option NameKind) (names:List Str) (elt:PySem.Expr) (gens:List Comprehension) (scope:Scope):Option CE:=do
 let g ← genOf gens
 let i ← r kd names g.2.2.1
 let cap ← allSome ((freeNames scope).map fun x=>idxOf x names)
 let c ← r (compKd scope kd) (freeNames scope++g.2.1.2) elt
 let l ← allSome (g.2.2.2.map (r (compKd scope kd) (freeNames scope++g.2.1.2)))
 if compOk scope kd g.2.1.2 && l.length ≤ 1 then some (.comp c l cap g.2.1.1 i) else Option.none
noncomputable def compE1 (nt:NT) (r:(Str→Option NameKind)→List Str→PySem.Expr→Option CE) (kd:Str→Option NameKind) (names:List Str) (e:PySem.Expr):Option CE:=match e with
 | .Constant c _ _=>(constOf c).map .const
 | .Name x _=>compName nt kd names x
 | .BinOp l op rr _=>do
  let a ← r kd names l
  let b ← r kd names rr
  some (.bin op a b)
 | .UnaryOp op x _=>compUn op (r kd names x)
 | .BoolOp op es _=>(allSome (es.map (r kd names))).bind (boolNest op)
 | .Compare l ops rs _=>compCmp (r kd names) l ops rs
 | .Subscript o i _=>compSub (r kd names) o i
 | .Tuple es _ _=>(allSome (es.map (r kd names))).map .tup
 | .List es _=>(allSome (es.map (r kd names))).map .lst
 | .Dict ks es _=>compDct (r kd names) ks es
 | .Call f args kws p=>if kws.isEmpty then compCall nt (r kd names) kd f args p else Option.none
 | .Attribute o x _=>if (nameOf o).isSome = true∧(x = ("states" : Str) ∨ x = ("row" : Str)) then (r kd names o).map (.attr · x) else Option.none
 | .ListComp elt gens scope _=>compLC r kd names elt gens scope
 | _=>Option.none
noncomputable def compE (nt:NT):Nat→(Str→Option NameKind)→List Str→PySem.Expr→Option CE
 | 0,_,_,_=>Option.none
 | n + 1,kd,names,e=>compE1 nt (compE nt n) kd names e
noncomputable def callOf (e:PySem.Expr):Option (PySem.Expr × List PySem.Expr × Bool × Pos):=match e with
 | .Call f args kws p=>some (f,args,kws.isEmpty,p)
 | _=>Option.none
theorem callOf_some {e:PySem.Expr} {q:PySem.Expr × List PySem.Expr × Bool × Pos} (h:callOf e = some q) (hb:q.2.2.1 = true):e = .Call q.1 q.2.1 [] q.2.2.2:=by
 cases e<;>(first | exact none_some h | cases h)
 rename_i kws _
 cases kws with
 | nil=>rfl
 | cons a r=>cases hb
theorem nameOf_some {e:PySem.Expr} {x:Str} (h:nameOf e = some x):∃ p,e = .Name x p:=by
 cases e<;>(first | exact none_some h | cases h)
 exact ⟨_,rfl⟩
theorem attrOf_some {e:PySem.Expr} {q:PySem.Expr × Str × Pos} (h:attrOf e = some q):e = .Attribute q.1 q.2.1 q.2.2:=by
 cases e<;>(first | exact none_some h | cases h)
 rfl
theorem isSlice_some {e:PySem.Expr} {q:Option PySem.Expr × Option PySem.Expr × Option PySem.Expr} (h:isSlice e = some q):∃ p,e = .Slice q.1 q.2.1 q.2.2 p:=by
 cases e<;>(first | exact none_some h | cases h)
 exact ⟨_,rfl⟩
theorem genOf_some {gens:List Comprehension} {g:PySem.Expr × (Nat × List Str) × PySem.Expr × List PySem.Expr} (h:genOf gens = some g):gens = [⟨g.1,g.2.2.1,g.2.2.2,0⟩]∧tgtNames g.1 = some g.2.1∧g.2.1.2.Nodup:=by
 rcases gens with _ | ⟨⟨tg,it,ifs,as⟩,_ | ⟨q',r⟩⟩
 ·first | exact none_some h | cases h
 ·unfold genOf at h
  cases e:tgtNames tg with
  | none=>simp [e] at h
  | some x=>
   simp only [e] at h
   split at h
   ·rename_i ha
    obtain ⟨ha,hn⟩:=ha
    subst ha
    cases h
    exact ⟨rfl,e,hn⟩
   ·first | exact none_some h | cases h
 ·first | exact none_some h | cases h
theorem isiArgs_some {kd:Str→Option NameKind} {args:List PySem.Expr} {q:PySem.Expr × Str} (h:isiArgs kd args = some q):∃ p,args = [q.1,.Name q.2 p]∧isGlob kd q.2 = true:=by
 rcases args with _ | ⟨a,_ | ⟨b,_ | ⟨c,r⟩⟩⟩
 ·first | exact none_some h | cases h
 ·first | exact none_some h | cases h
 ·unfold isiArgs at h
  cases e:nameOf b with
  | none=>simp [e] at h
  | some x=>
   simp only [e] at h
   split at h
   ·rename_i ha
    cases h
    obtain ⟨p,hp⟩:=nameOf_some e
    exact ⟨p,by rw [hp],ha⟩
   ·first | exact none_some h | cases h
 ·first | exact none_some h | cases h
open PySem PyProof.Rows PySem.SeqAt
structure PC where
 prog:Program
 w:World
 mg:Str→Option Value
 mb:Str→Option Value
 nt:NT
 defs:List DefRec
 own:Str→Addr→Option Bool
 sup:Addr
 ma:Str→Option Value
 cls:Option Addr
 mN:Str→Option Value
structure Pin where
 n:Nat
 fr:List (Env × Obj)
structure Lv where
 k:Nat
 q:Bool
 p:Option Pin
noncomputable def Aok (l:Lv) (A:Around):Prop:=(l.q = true→A.handled = none)∧A.depth + l.k < recursionLimit∧A.units + 10 * l.k + 200 < cLine
noncomputable def OwnIs (P:PC) (h:Heap) (t:Str) (c:Addr) (b:Bool):Prop:=
 XCls h c P.sup∧((P.mg t = none∧P.mb t = some (.type "ValueError")∧b = true) ∨ (P.mg t = some (.ref c)∧b = true) ∨ ∃ D,P.mg t = some (.ref D)∧XCls h D P.sup∧c ≠ D∧P.sup ≠ D∧b = false)
noncomputable def FCls (P:PC) (h:Heap) (C:Addr):Prop:=(∃ N,ClsAt h C N P.mN)∧P.mg P.nt.cn = some (.ref C)∧P.mN "__getattribute__" = none∧P.mN "__getattr__" = none∧P.mN "__setattr__" = none∧P.mN "states" = none∧P.mN "row" = none
theorem FCls.kp {P:PC} {h h':Heap} {C:Addr} (x:FCls P h C) (k:∀ b o,h.get? b = some o→h'.get? b = some o):FCls P h' C:=by obtain ⟨⟨N,y⟩,r⟩:=x;exact ⟨⟨N,y.keeps k⟩,r⟩
inductive FAll (P:PC) (h:Heap) (C:Addr):Prop
 | mk (N nm q bs sn sub col dd k0 k1 k2 k3 k5:_):h.Ns N P.mN→h.get? C = some (excClassObj nm q C N bs [.type "object"] true sn sub false col dd k0 k1 k2 k3 k5 "object.__new__")→P.mg P.nt.cn = some (.ref C)→P.mN "__getattribute__" = none→P.mN "__getattr__" = none→P.mN "__setattr__" = none→P.mN "states" = none→P.mN "row" = none→FAll P h C
theorem FCls.all {P:PC} {h:Heap} {C:Addr} (x:FCls P h C):FAll P h C:=by
 obtain ⟨⟨N,X⟩,a,b,c,d,e,f⟩:=x
 obtain ⟨nm,q,bs,sn,sub,col,dd,k0,k1,k2,k3,k5,hC⟩:=X.obj
 exact ⟨N,nm,q,bs,sn,sub,col,dd,k0,k1,k2,k3,k5,X.ns,hC,a,b,c,d,e,f⟩
noncomputable def qualOf (P:PC) (m:Str):Str:=P.nt.cn++"."++m
structure GOk (P:PC) (h:Heap):Prop where
 g:h.Ns mainGlobals P.mg
 b:h.Ns builtinsNs P.mb
 nolimit:h.NoLimit
 bi:∀ x v,biOf x = some v→P.mg x = none∧P.mb x = some v
 cst:∀ x v,P.nt.consts.lookup x = some v→∃ rv,P.mg x = some rv∧∀ S ρ h,VRel S ρ h v rv
 ow:∀ (t:Str) (c:Addr) (b:Bool),P.own t c = some b→OwnIs P h t c b
 fn:∀ (f:Nat) (x:Str),P.nt.fns[f]? = some x→∃ a o,(P.mg x = some (.ref a)∧P.ma x = some (.ref a))∧h.get? a = some o∧∃ fd,o.data = .func fd
 df:∀ (f:Nat) (x:Str) (d:DefRec),P.nt.nm f = some x→P.defs[f]? = some d→∃ a o pm code doc,P.ma x = some (.ref a)∧h.get? a = some o∧o.data = .func (methDef d.name x d.params d.body d.scope pm code doc)∧h.CodeRec code x
 oc:∀ C,P.cls = some C→FCls P h C
 mt:∀ (m:Str) (f:Nat),P.nt.nm f = some (qualOf P m)→P.nt.fns.length ≤ f→(∃ C,P.cls = some C)∧∃ a o,P.mN m = some (.ref a)∧P.ma (qualOf P m) = some (.ref a)∧h.get? a = some o∧o.cls = .type "function"∧∃ fd,o.data = .func fd
inductive DfAt (P:PC) (h:Heap) (x:Str) (d:DefRec):Prop
 | mk (a o pm code doc:_):P.ma x = some (.ref a)→h.get? a = some o→o.data = .func (methDef d.name x d.params d.body d.scope pm code doc)→h.CodeRec code x→DfAt P h x d
theorem GOk.at {P:PC} {h:Heap} (g:GOk P h) {f:Nat} {x:Str} {d:DefRec} (h1:P.nt.nm f = some x) (h2:P.defs[f]? = some d):DfAt P h x d:=by
 obtain ⟨a,o,pm,code,doc,e1,e2,e3,e4⟩:=g.df f x d h1 h2
 exact ⟨a,o,pm,code,doc,e1,e2,e3,e4⟩
inductive MtAt (P:PC) (h:Heap) (m:Str):Prop
 | mk (a o fd:_):P.mN m = some (.ref a)→P.ma (qualOf P m) = some (.ref a)→h.get? a = some o→o.cls = .type "function"→o.data = .func fd→MtAt P h m
theorem GOk.mat {P:PC} {h:Heap} (g:GOk P h) {m:Str} {f:Nat} (h1:P.nt.nm f = some (qualOf P m)) (h2:P.nt.fns.length ≤ f):MtAt P h m:=by
 obtain ⟨_,a,o,e1,e2,e3,e4,fd,e5⟩:=g.mt m f h1 h2
 exact ⟨a,o,fd,e1,e2,e3,e4,e5⟩
theorem GOk.kp {P:PC} {h h':Heap} (x:GOk P h) (k:Kp h h'):GOk P h' where
 g:=x.g.keeps k
 b:=x.b.keeps k
 nolimit:=x.nolimit.keeps k
 bi:=x.bi
 cst:=x.cst
 fn:=fun f y e=>by obtain ⟨a,o,h1,h2,h3⟩:=x.fn f y e;exact ⟨a,o,h1,k _ _ h2,h3⟩
 ow:=fun t c b e=>by obtain ⟨x1,x2⟩:=x.ow t c b e;exact ⟨x1.keeps k,x2.imp id fun q=>q.imp id fun ⟨D,y1,y2,y3⟩=>⟨D,y1,y2.keeps k,y3⟩⟩
 df:=fun f y d e e'=>by obtain ⟨a,o,pm,code,doc,h1,h2,h3,h4⟩:=x.df f y d e e';exact ⟨a,o,pm,code,doc,h1,k _ _ h2,h3,h4.keeps k⟩
 oc:=fun C e=>(x.oc C e).kp k
 mt:=fun m f e e'=>by obtain ⟨c,a,o,h1,h2,h3,h4⟩:=x.mt m f e e';exact ⟨c,a,o,h1,h2,k _ _ h3,h4⟩
noncomputable def ExcC (_P:PC) (_A:Around) (_s:Shared) (_X:Str→Prop) (_e:Value) (_s':Shared):Prop:=False
inductive JOut (S:Sx) (s:Shared) (Q:AV→AH→Prop) (fl:Flow) (s':Shared):Prop
 | mk (rv:Value) (h':Heap) (tk:Nat) (ρ:List Addr) (v:AV) (Hc:AH):fl = .ret rv→s' = { s with heap:=h',toks:=tk }→Kp s.heap h'→Fresh s.heap ρ→HSim S ρ Hc h'→VRel S ρ h' v rv→Q v Hc→JOut S s Q fl s'
noncomputable def CallJ (P:PC) (l:Lv) (f:Nat) (vs:List AV) (Q:AV→AH→Prop) (X:Str→Prop):Prop:=
 ∀ (A:Around) (s:Shared) (S:Sx) (xs:List Value) (x:Str) (a:Addr),Aok l A→GOk P s.heap→P.nt.nm f = some x→P.ma x = some (.ref a)→S.prog = P.prog→S.w = P.w→SD S s.heap→VRels S [] s.heap vs xs →
  codeAny (model P.prog P.w) A (.call (.ref a) ⟨xs,[]⟩) (fun r s'=>match r with
   | .ok fl=>JOut S s Q fl s'
   | .error e=>ExcC P A s X e s') s
theorem CallJ.mono {P:PC} {l:Lv} {f:Nat} {vs:List AV} {Q Q':AV→AH→Prop} {X X':Str→Prop} (h:CallJ P l f vs Q X) (hq:∀ v H,Q v H→Q' v H):CallJ P l f vs Q' X':=
 fun A s S xs x a h1 h2 h3 h4 h5 h6 h7 h8=>codeAny_mono (h A s S xs x a h1 h2 h3 h4 h5 h6 h7 h8) fun r s' hr=>by
  cases r with
  | ok fl=>obtain ⟨rv,h',tk,ρ,v,Hc,e1,e2,k,fr,X,V,q⟩:=hr;exact ⟨rv,h',tk,ρ,v,Hc,e1,e2,k,fr,X,V,hq _ _ q⟩
  | error e=>exact hr.elim
noncomputable def CallP (P:PC) (l:Lv) (f:Nat) (vs:List AV) (H:AH) (Q:AV→AH→Prop) (X:Str→Prop):Prop:=
 ∃ vs',Rens [] H vs vs'∧CallJ P l f vs' (fun v Hc=>(vs' = vs ∨ (NoFl v∧∀ xs ∈ Hc,NoFls xs))∧Q (v.shift H.length) (H++Hc.map (AV.shifts H.length))) X
inductive NOut (S:Sx) (s:Shared) (Q:AV→AH→Prop) (rv:Value) (s':Shared):Prop
 | mk (h':Heap) (tk:Nat) (ρ:List Addr) (v:AV) (Hc:AH):s' = { s with heap:=h',toks:=tk }→Kp s.heap h'→Fresh s.heap ρ→HSim S ρ Hc h'→VRel S ρ h' v rv→Q v Hc→NOut S s Q rv s'
noncomputable def NewJ (P:PC) (l:Lv) (vs:List AV) (Q:AV→AH→Prop):Prop:=
 ∀ (A:Around) (s:Shared) (S:Sx) (xs:List Value) (C:Addr),Aok l A→GOk P s.heap→P.cls = some C→S.prog = P.prog→S.w = P.w→SD S s.heap→VRels S [] s.heap vs xs →
  wpAny (model P.prog P.w) A (call (.ref C) xs) (NOut S s Q) (fun _ _=>False) s
noncomputable def NewP (P:PC) (l:Lv) (vs:List AV) (H:AH) (Q:AV→AH→Prop):Prop:=
 ∃ vs',Rens [] H vs vs'∧NewJ P l vs' (fun v Hc=>(vs' = vs ∨ (NoFl v∧∀ xs ∈ Hc,NoFls xs))∧Q (v.shift H.length) (H++Hc.map (AV.shifts H.length)))
noncomputable def compItems (test:AV→(Bool→Prop)→Prop) (el:AV→Nat→(AV→AH→Prop)→Prop):List AV→Nat→(List AV→AH→Prop)→Prop
 | [],_,K=>K [] []
 | x::r,n,K=>test x fun b=>if b then el x n fun v Hc=>compItems test el r (n + Hc.length) fun vs G=>K (v::vs) (Hc++G) else compItems test el r n K
noncomputable def eltK (g:Prop) (n:Nat) (r:AV) (Hc:AH) (K:AV→AH→Prop):Prop:=∃ φ Hc' r',RenH φ Hc Hc'∧Ren φ Hc r r'∧(g ∨ (NoFl r'∧∀ xs ∈ Hc',NoFls xs))∧K (r'.shift n) (Hc'.map (AV.shifts n))
theorem Ren.noref {H:AH} {v w:AV} (R:Ren [] H v w) (n:Nat):w.shift n = w:=
 Ren.rec (motive_1:=fun _ w _=>w.shift n = w) (motive_2:=fun _ w _=>AV.shifts n w = w) rfl (fun _=>rfl) (fun _=>rfl) (fun _=>rfl) (fun _ ih=>congrArg AV.tup ih) (fun _ ih=>congrArg AV.fl ih) (fun e=>by simp at e) (fun _ _ _=>rfl) (fun _ ih=>congrArg _ ih) (fun _=>rfl) (fun _ ih=>congrArg _ ih) (fun _ _ _ ih=>congrArg AV.fl ih) rfl
  (fun {v w vs ws} _ _ i1 i2=>by show AV.shift n w::AV.shifts n ws = w::ws;rw [i1,i2]) R
theorem RenH.nil0 {H:AH}:RenH [] H []:=⟨rfl,List.nodup_nil,fun _ h=>(by cases h),fun i j xs e=>by simp at e⟩
theorem eltK.frz {g:Prop} {n:Nat} {r r':AV} {Hc:AH} {K:AV→AH→Prop} (R:Ren [] Hc r r') (hg:g ∨ NoFl r') (h:K r' []):eltK g n r Hc K:=⟨[],[],r',RenH.nil0,R,hg.imp id fun q=>⟨q,fun _ hm=>nomatch hm⟩,by rw [R.noref];exact h⟩
noncomputable def AV.isL:AV→Bool
 | .fl _=>true
 | .ref _=>true
 | _=>false
noncomputable def onL (v:AV) (K:Prop):Prop:=match v with
 | .fl _=>K
 | .ref _=>K
 | _=>False
theorem onL_of {v:AV} {K:Prop} (h:onL v K):v.isL = true∧K:=by cases v<;>first | (exact False.elim h) | exact ⟨rfl,h⟩
noncomputable def offRng (v:AV) (K:Prop):Prop:=match v with
 | .rng _ _ _=>False
 | .exc _=>False
 | .obj _ _ _=>False
 | .dict _ _=>False
 | _=>K
theorem offRng_of {v:AV} {K:Prop} (h:offRng v K):v.offX = true∧K:=by cases v<;>first | (exact False.elim h) | exact ⟨rfl,h⟩
noncomputable def onExc (P:PC) (t:Str) (v:AV) (K:Bool→Prop):Prop:=match v with
 | .exc c=>opt (P.own t c) K
 | _=>False
theorem onExc_of {P:PC} {t:Str} {v:AV} {K:Bool→Prop} (h:onExc P t v K):∃ c b,v = .exc c∧P.own t c = some b∧K b:=by
 cases v<;>first | (exact False.elim h) | skip
 obtain ⟨b,e,q⟩:=opt_of h
 exact ⟨_,b,rfl,e,q⟩
noncomputable def iterOfC (H:AH):AV→Option (List AV)
 | .rng a b c=>some ((rngList a b c).map AV.int)
 | v=>v.seq? H
noncomputable def iterOf (H:AH):AV→Option (List AV)
 | .rng a b c=>some ((rngList a b c).map AV.int)
 | v=>v.items? H
noncomputable def bindItem (nv:Nat) (v:AV):Option (List (Option AV)):=
 if nv = 0 then some [some v] else match v with
 | .tup vs=>if vs.length = nv then some (vs.map some) else Option.none
 | _=>Option.none
noncomputable def listCount (H:AH) (o v:AV) (Q:AV→AH→Prop):Prop:=∃ vs ds d,o.items? H = some vs∧Rds H 9 vs ds∧Rd H 9 v d∧vs.length ≤ smallN∧Q (.int ((ds.countP fun e=>e.eqv d:Nat):Int)) H
noncomputable def listIndex (H:AH) (o v:AV) (Q:AV→AH→Prop):Prop:=∃ vs ds d j,o.items? H = some vs∧Rds H 9 vs ds∧Rd H 9 v d∧vs.length ≤ smallN∧ds.findIdx? (fun e=>e.eqv d) = some j∧Q (.int (j:Int)) H
noncomputable def onR (m:Mt) (v:AV) (K:Prop):Prop:=match m with
 | .count=>onL v K
 | .index=>onL v K
noncomputable def opMeth (m:Mt) (o:AV) (vs:List AV) (H:AH) (Q:AV→AH→Prop):Prop:=
 match m with
 | .count=>on1 vs fun v=>listCount H o v Q
 | .index=>on1 vs fun v=>listIndex H o v Q
noncomputable def onAttr (P:PC) (v:AV) (x:Str) (K:AV→Prop):Prop:=match v with
 | .obj c ks vs=>P.cls = some c∧opt ((ks.zip vs).lookup x) K
 | _=>False
theorem onAttr_of {P:PC} {v:AV} {x:Str} {K:AV→Prop} (h:onAttr P v x K):∃ c ks vs u,v = .obj c ks vs∧P.cls = some c∧(ks.zip vs).lookup x = some u∧K u:=by
 cases v<;>first | (exact False.elim h) | skip
 obtain ⟨u,e,q⟩:=opt_of h.2
 exact ⟨_,_,_,u,rfl,h.1,e,q⟩
noncomputable def onObj (P:PC) (v:AV) (m:Str) (K:Prop):Prop:=match v with
 | .obj c ks _=>P.cls = some c∧m ∉ ks∧K
 | _=>False
theorem onObj_of {P:PC} {v:AV} {m:Str} {K:Prop} (h:onObj P v m K):∃ c ks vs,v = .obj c ks vs∧P.cls = some c∧m ∉ ks∧K:=by
 cases v<;>first | (exact False.elim h) | skip
 exact ⟨_,_,_,rfl,h⟩
inductive CapRel (H:AH) (loc:List (Option AV)):List Nat→List (Option AV)→Prop
 | nil:CapRel H loc [] []
 | cons {i:Nat} {v v':AV} {r:List Nat} {base:List (Option AV)}:loc[i]?.join = some v→Ren [] H v v'→CapRel H loc r base→CapRel H loc (i::r) (some v'::base)
 | skip {i:Nat} {r:List Nat} {base:List (Option AV)}:CapRel H loc r base→CapRel H loc (i::r) (Option.none::base)
mutual
noncomputable def wpE (P:PC) (l:Lv) (X:Str→Prop):CE→List (Option AV)→AH→(AV→AH→Prop)→Prop
 | .const v,_,H,Q=>Q v H
 | .var i,loc,H,Q=>opt (loc[i]?.join) fun v=>Q v H
 | .bin op a b,loc,H,Q=>wpE P l X a loc H fun v H₁=>wpE P l X b loc H₁ fun u H₂=>opBin op v u H₂ Q
 | .neg a,loc,H,Q=>wpE P l X a loc H fun v H₁=>onInt v fun i=>Q (.int (-i)) H₁
 | .not a,loc,H,Q=>wpE P l X a loc H fun v H₁=>onBool v fun b=>Q (.bool (!b)) H₁
 | .and a b,loc,H,Q=>wpE P l X a loc H fun v H₁=>onBool v fun c=>if c = true then wpE P l X b loc H₁ Q else Q (.bool false) H₁
 | .or a b,loc,H,Q=>wpE P l X a loc H fun v H₁=>onBool v fun c=>if c = true then Q (.bool true) H₁ else wpE P l X b loc H₁ Q
 | .cmp op a b,loc,H,Q=>wpE P l X a loc H fun v H₁=>wpE P l X b loc H₁ fun u H₂=>opCmp op v u H₂ Q
 | .chain op1 op2 a b c,loc,H,Q=>wpE P l X a loc H fun v H₁=>wpE P l X b loc H₁ fun u H₂=>opCmp op1 v u H₂ fun r H₃=>onBool r fun t=>
   if t = true then wpE P l X c loc H₃ fun z H₄=>opCmp op2 u z H₄ Q else Q (.bool false) H₃
 | .idx o i,loc,H,Q=>wpE P l X o loc H fun v H₁=>wpE P l X i loc H₁ fun u H₂=>opIdx v u H₂ Q
 | .slc o a b c,loc,H,Q=>wpE P l X o loc H fun v H₁=>wpE P l X a loc H₁ fun x H₂=>wpE P l X b loc H₂ fun y H₃=>wpE P l X c loc H₃ fun z H₄=>opSlc v x y z H₄ Q
 | .tup es,loc,H,Q=>wpEs P l X es loc H fun vs H₁=>vs.length ≤ smallN∧Q (.tup vs) H₁
 | .lst es,loc,H,Q=>wpEs P l X es loc H fun vs H₁=>vs.length ≤ smallN∧Q (.ref H₁.length) (H₁++[vs])
 | .dct ks es,loc,H,Q=>wpEs P l X es loc H fun vs H₁=>Q (.dict ks vs) H₁
 | .call f es,loc,H,Q=>0 < l.k∧wpEs P l X es loc H fun vs H₁=>CallP P l f vs H₁ Q X
 | .prim b es,loc,H,Q=>l.q = true∧wpEs P l X es loc H fun vs H₁=>opPrim b vs H₁ Q
 | .isin t e,loc,H,Q=>wpE P l X e loc H fun v H₁=>offRng v (Q (.bool (isInst t v)) H₁)
 | .isown t e,loc,H,Q=>wpE P l X e loc H fun v H₁=>onExc P t v fun b=>Q (.bool b) H₁
 | .meth m o es,loc,H,Q=>wpE P l X o loc H fun v H₁=>onR m v <| wpEs P l X es loc H₁ fun vs H₂=>opMeth m v vs H₂ Q
 | .comp elt cs cap nv it,loc,H,Q=>l.q = true∧wpE P l X it loc H fun v H₁=>∃ its items base,iterOfC H₁ v = some its∧its.length ≤ smallN∧Rens [] H₁ its items∧CapRel H₁ loc cap base ∧
   compItems (fun x K=>opt (bindItem nv x) fun bx=>wpTests P l X cs (base++bx) K)
    (fun x n K=>opt (bindItem nv x) fun bx=>wpE P l X elt (base++bx) [] fun r Hc=>eltK (items = its∧base = cap.map fun i=>loc[i]?.join) n r Hc K) items H₁.length
    fun vs G=>Q (.ref (H₁.length + G.length)) (H₁++(G++[vs]))
 | .attr o x,loc,H,Q=>wpE P l X o loc H fun v H₁=>onAttr P v x fun u=>Q u H₁
 | .mth f m o es,loc,H,Q=>0 < l.k∧wpE P l X o loc H fun v H₁=>onObj P v m <| wpEs P l X es loc H₁ fun vs H₂=>CallP P l f (v::vs) H₂ Q X
 | .new es,loc,H,Q=>1 < l.k∧∃ c,P.cls = some c∧wpEs P l X es loc H fun vs H₁=>NewP P l vs H₁ Q
noncomputable def wpEs (P:PC) (l:Lv) (X:Str→Prop):List CE→List (Option AV)→AH→(List AV→AH→Prop)→Prop
 | [],_,H,Q=>Q [] H
 | e::r,loc,H,Q=>wpE P l X e loc H fun v H₁=>wpEs P l X r loc H₁ fun vs H₂=>Q (v::vs) H₂
noncomputable def wpTests (P:PC) (l:Lv) (X:Str→Prop):List CE→List (Option AV)→(Bool→Prop)→Prop
 | [],_,K=>K true
 | c::_,loc,K=>wpE P l X c loc [] fun v _=>onBool v K
end
section
variable {P:PC} {l:Lv} {X:Str→Prop} {loc:List (Option AV)} {H:AH} {Q:AV→AH→Prop}
theorem w_const (v:AV):wpE P l X (.const v) loc H Q = (Q v H):=rfl
theorem w_var (i:Nat):wpE P l X (.var i) loc H Q = (opt (loc[i]?.join) fun v=>Q v H):=rfl
theorem w_bin (op:Operator) (a b:CE):wpE P l X (.bin op a b) loc H Q = (wpE P l X a loc H fun v H₁=>wpE P l X b loc H₁ fun u H₂=>opBin op v u H₂ Q):=rfl
theorem w_neg (a:CE):wpE P l X (.neg a) loc H Q = (wpE P l X a loc H fun v H₁=>onInt v fun i=>Q (.int (-i)) H₁):=rfl
theorem w_not (a:CE):wpE P l X (.not a) loc H Q = (wpE P l X a loc H fun v H₁=>onBool v fun b=>Q (.bool (!b)) H₁):=rfl
theorem w_and (a b:CE):wpE P l X (.and a b) loc H Q = (wpE P l X a loc H fun v H₁=>onBool v fun c=>if c = true then wpE P l X b loc H₁ Q else Q (.bool false) H₁):=rfl
theorem w_or (a b:CE):wpE P l X (.or a b) loc H Q = (wpE P l X a loc H fun v H₁=>onBool v fun c=>if c = true then Q (.bool true) H₁ else wpE P l X b loc H₁ Q):=rfl
theorem w_cmp (op:CmpOp) (a b:CE):wpE P l X (.cmp op a b) loc H Q = (wpE P l X a loc H fun v H₁=>wpE P l X b loc H₁ fun u H₂=>opCmp op v u H₂ Q):=rfl
theorem w_chain (op1 op2:CmpOp) (a b c:CE):wpE P l X (.chain op1 op2 a b c) loc H Q = (wpE P l X a loc H fun v H₁=>wpE P l X b loc H₁ fun u H₂=>opCmp op1 v u H₂ fun r H₃=>onBool r fun t=>
   if t = true then wpE P l X c loc H₃ fun z H₄=>opCmp op2 u z H₄ Q else Q (.bool false) H₃):=rfl
theorem w_idx (o i:CE):wpE P l X (.idx o i) loc H Q = (wpE P l X o loc H fun v H₁=>wpE P l X i loc H₁ fun u H₂=>opIdx v u H₂ Q):=rfl
theorem w_slc (o a b c:CE):wpE P l X (.slc o a b c) loc H Q = (wpE P l X o loc H fun v H₁=>wpE P l X a loc H₁ fun x H₂=>wpE P l X b loc H₂ fun y H₃=>wpE P l X c loc H₃ fun z H₄=>opSlc v x y z H₄ Q):=rfl
theorem w_tup (es:List CE):wpE P l X (.tup es) loc H Q = (wpEs P l X es loc H fun vs H₁=>vs.length ≤ smallN∧Q (.tup vs) H₁):=rfl
theorem w_lst (es:List CE):wpE P l X (.lst es) loc H Q = (wpEs P l X es loc H fun vs H₁=>vs.length ≤ smallN∧Q (.ref H₁.length) (H₁++[vs])):=rfl
theorem w_dct (ks:List Str) (es:List CE):wpE P l X (.dct ks es) loc H Q = (wpEs P l X es loc H fun vs H₁=>Q (.dict ks vs) H₁):=rfl
theorem w_call (f:Nat) (es:List CE):wpE P l X (.call f es) loc H Q = (0 < l.k∧wpEs P l X es loc H fun vs H₁=>CallP P l f vs H₁ Q X):=rfl
theorem w_prim (b:Pr) (es:List CE):wpE P l X (.prim b es) loc H Q = (l.q = true∧wpEs P l X es loc H fun vs H₁=>opPrim b vs H₁ Q):=rfl
theorem w_isin (t:Ty) (e:CE):wpE P l X (.isin t e) loc H Q = (wpE P l X e loc H fun v H₁=>offRng v (Q (.bool (isInst t v)) H₁)):=rfl
theorem w_isown (t:Str) (e:CE):wpE P l X (.isown t e) loc H Q = (wpE P l X e loc H fun v H₁=>onExc P t v fun b=>Q (.bool b) H₁):=rfl
theorem w_meth (m:Mt) (o:CE) (es:List CE):wpE P l X (.meth m o es) loc H Q = (wpE P l X o loc H fun v H₁=>onR m v <| wpEs P l X es loc H₁ fun vs H₂=>opMeth m v vs H₂ Q):=rfl
theorem w_attr (o:CE) (x:Str):wpE P l X (.attr o x) loc H Q = (wpE P l X o loc H fun v H₁=>onAttr P v x fun u=>Q u H₁):=rfl
theorem w_mth (f:Nat) (m:Str) (o:CE) (es:List CE):wpE P l X (.mth f m o es) loc H Q = (0 < l.k∧wpE P l X o loc H fun v H₁=>onObj P v m <| wpEs P l X es loc H₁ fun vs H₂=>CallP P l f (v::vs) H₂ Q X):=rfl
theorem w_new (es:List CE):wpE P l X (.new es) loc H Q = (1 < l.k∧∃ c,P.cls = some c∧wpEs P l X es loc H fun vs H₁=>NewP P l vs H₁ Q):=rfl
theorem w_comp (elt:CE) (cs:List CE) (cap:List Nat) (nv:Nat) (it:CE):wpE P l X (.comp elt cs cap nv it) loc H Q = (l.q = true∧wpE P l X it loc H fun v H₁=>∃ its items base,iterOfC H₁ v = some its∧its.length ≤ smallN∧Rens [] H₁ its items∧CapRel H₁ loc cap base ∧
   compItems (fun x K=>opt (bindItem nv x) fun bx=>wpTests P l X cs (base++bx) K)
    (fun x n K=>opt (bindItem nv x) fun bx=>wpE P l X elt (base++bx) [] fun r Hc=>eltK (items = its∧base = cap.map fun i=>loc[i]?.join) n r Hc K) items H₁.length
    fun vs G=>Q (.ref (H₁.length + G.length)) (H₁++(G++[vs]))):=rfl
theorem w_nil {Q:List AV→AH→Prop}:wpEs P l X [] loc H Q = Q [] H:=rfl
theorem w_cons {Q:List AV→AH→Prop} (e:CE) (r:List CE):wpEs P l X (e::r) loc H Q = (wpE P l X e loc H fun v H₁=>wpEs P l X r loc H₁ fun vs H₂=>Q (v::vs) H₂):=rfl
theorem w_t0 {K:Bool→Prop}:wpTests P l X [] loc K = K true:=rfl
theorem w_t1 {K:Bool→Prop} (c:CE) (r:List CE):wpTests P l X (c::r) loc K = (wpE P l X c loc [] fun v _=>onBool v K):=rfl
end
open PySem PyProof.Rows PySem.SeqAt
noncomputable def EnvOk (env:Env):Prop:=env.scope.kind = .function∧env.globals = mainGlobals∧env.builtins = builtinsNs∧∀ x,env.kindOf x = some .cell→∃ c,env.cells.lookup x = some c
noncomputable def NameAt (env:Env) (h:Heap) (x:Str) (v:Value):Prop:=
 (env.kindOf x = some .local∧∃ m,h.Ns env.locals m∧m x = some v) ∨ (env.kindOf x = some .cell∧∃ c,env.cells.lookup x = some c∧h.IsCell c (some v))
theorem NameAt.kp {env:Env} {h h':Heap} {x:Str} {v:Value} (n:NameAt env h x v) (k:Kp h h'):NameAt env h' x v:=
 n.elim (fun ⟨a,m,b,c⟩=>.inl ⟨a,m,b.keeps k,c⟩) fun ⟨a,c,b,d⟩=>.inr ⟨a,c,b,d.keeps k⟩
structure Cx (P:PC) (l:Lv) (A:Around) (env:Env) (names:List Str) (S:Sx) (ρ:List Addr) (loc:List (Option AV)) (H:AH) (s:Shared):Prop where
 aok:Aok l A
 gok:GOk P s.heap
 pp:S.prog = P.prog
 pw:S.w = P.w
 sd:SD S s.heap
 sim:HSim S ρ H s.heap
 loc:∀ (i:Nat) (x:Str) (v:AV),names[i]? = some x→loc[i]?.join = some v→∃ rv,NameAt env s.heap x rv∧VRel S ρ s.heap v rv
theorem Cx.kp {P:PC} {l:Lv} {A:Around} {env:Env} {names:List Str} {S:Sx} {ρ e:List Addr} {loc:List (Option AV)} {H G:AH} {s:Shared} {h':Heap} {tk:Nat} (C:Cx P l A env names S ρ loc H s)
  (k:Kp s.heap h') (f:Fresh s.heap e) (X:HSim S (ρ++e) (H++G) h'):Cx P l A env names S (ρ++e) loc (H++G) { s with heap:=h',toks:=tk } where
 aok:=C.aok
 gok:=C.gok.kp k
 pp:=C.pp
 pw:=C.pw
 sd:=C.sd.kp k
 sim:=X
 loc:=fun i x v en e=>by obtain ⟨rv,h2,h3⟩:=C.loc i x v en e;exact ⟨rv,h2.kp k,h3.kp k f⟩
theorem Cx.kpU {P:PC} {l:Lv} {A:Around} {env:Env} {names:List Str} {S:Sx} {ρ e:List Addr} {loc:List (Option AV)} {H G:AH} {s s₁:Shared} (C:Cx P l A env names S ρ loc H s) (k:Kp s.heap s₁.heap) (f:Fresh s.heap e) (X:HSim S (ρ++e) (H++G) s₁.heap):Cx P l A env names S (ρ++e) loc (H++G) s₁:=
 let y:=C.kp (tk:=s₁.toks) k f X
 ⟨y.aok,y.gok,y.pp,y.pw,y.sd,y.sim,y.loc⟩
noncomputable def ExOk (P:PC) (A:Around) (X:Str→Prop) (E:Value→Shared→Prop) (s:Shared):Prop:=
 ∀ h tk e s',Kp s.heap h→ExcC P A { s with heap:=h,toks:=tk } X e s'→E e s'
theorem ExOk.kp {P:PC} {A:Around} {X:Str→Prop} {E:Value→Shared→Prop} {s:Shared} {h':Heap} {tk:Nat} (x:ExOk P A X E s) (k:Kp s.heap h'):ExOk P A X E { s with heap:=h',toks:=tk }:=
 fun h tk' e s' k' q=>x h tk' e s' (k.trans k') q
theorem excC_false {P:PC} {A:Around} {s:Shared} {X:Str→Prop} {e:Value} {s':Shared} (h:ExcC P A s X e s'):False:=h
theorem exOk_any {P:PC} {A:Around} {X:Str→Prop} {E:Value→Shared→Prop} {s:Shared}:ExOk P A X E s:=fun _ _ _ _ _ q=>(excC_false q).elim
noncomputable def EvOk (P:PC) (l:Lv) (env:Env) (names:List Str) (e:PySem.Expr) (c:CE):Prop:=
 ∀ (A:Around) (S:Sx) (ρ:List Addr) (loc:List (Option AV)) (H:AH) (s:Shared) (Q:AV→AH→Prop) (X:Str→Prop) (E:Value→Shared→Prop),
  Cx P l A env names S ρ loc H s→ExOk P A X E s→wpE P l X c loc H Q→wpAny (model P.prog P.w) A (eval e env) (EP S ρ H s Q) E s
inductive EPs (S:Sx) (ρ:List Addr) (H:AH) (s:Shared) (Q:List AV→AH→Prop) (xs:List Value) (s':Shared):Prop
 | mk (h':_) (tk:_) (e:_) (vs:_) (G:_):s' = { s with heap:=h',toks:=tk }→Kp s.heap h'→Fresh s.heap e→HSim S (ρ++e) (H++G) h'→VRels S (ρ++e) h' vs xs→Q vs (H++G)→EPs S ρ H s Q xs s'
theorem EPs.then {M:Model} {A:Around} {S:Sx} {ρ:List Addr} {H:AH} {s:Shared} {Q:List AV→AH→Prop} {m:Sem (List Value)} {Q':List Value→Shared→Prop} {E:Value→Shared→Prop} (h:wpAny M A m (EPs S ρ H s Q) E s)
  (k:∀ y h' tk e v G,Kp s.heap h'→Fresh s.heap e→HSim S (ρ++e) (H++G) h'→VRels S (ρ++e) h' v y→Q v (H++G)→Q' y { s with heap:=h',toks:=tk }):wpAny M A m Q' E s:=
 wpAny_mono h (fun _ _ hy=>by
  obtain ⟨_,_,_,_,_,rfl,a,b,c,d,q⟩:=hy
  exact k _ _ _ _ _ _ a b c d q) fun _ _ y=>y
section
variable {P:PC} {l:Lv} {A:Around} {env:Env} {names:List Str} {S:Sx} {ρ:List Addr} {loc:List (Option AV)} {H:AH} {s:Shared} {X:Str→Prop} {E:Value→Shared→Prop}
theorem fresh_trans {h h₁:Heap} {e e':List Addr} (k:Kp h h₁) (f:Fresh h e) (f':Fresh h₁ e'):Fresh h (e++e'):=fun a ha=>by
 rcases List.mem_append.mp ha with q | q
 ·exact f a q
 ·cases q0:h.get? a with
  | none=>rfl
  | some o=>have:=f' a q;rw [k a o q0] at this;cases this
theorem star_ne {e:PySem.Expr} (h:∀ a p,e ≠ .Starred a p) (rest:List PySem.Expr):starEach (e::rest) env = (false,eval e env)::starEach rest env:=by
 cases e<;>first | rfl | exact absurd rfl (h _ _)
theorem not_starred {nt:NT} {n:Nat} {kd:Str→Option NameKind} {e:PySem.Expr} {c:CE} (h:compE nt n kd names e = some c) (rest:List PySem.Expr):starEach (e::rest) env = (false,eval e env)::starEach rest env:=by
 cases n with
 | zero=>first | exact none_some h | cases h
 | succ n=>exact star_ne (fun a p q=>by subst q;cases h) rest
theorem not_marks {nt:NT} {n:Nat} {kd:Str→Option NameKind} {e:PySem.Expr} {c:CE} (h:compE nt n kd names e = some c) (op:CmpOp):behindInMarks op e = false:=by
 cases n with
 | zero=>first | exact none_some h | cases h
 | succ n=>cases e<;>first | rfl | cases h
theorem allSome_cons {α β:Type} {f:α→Option β} {x:α} {r:List α} {l:List β} (h:allSome ((x::r).map f) = some l):∃ a t,f x = some a∧allSome (r.map f) = some t∧l = a::t:=by
 rw [List.map_cons] at h
 cases e:f x with
 | none=>rw [e] at h;cases h
 | some a=>
  rw [e] at h
  simp only [allSome] at h
  cases e':allSome (r.map f) with
  | none=>rw [e'] at h;cases h
  | some t=>rw [e'] at h;cases h;exact ⟨a,t,rfl,rfl,rfl⟩
theorem args_ok {nt:NT} {n:Nat} {kd:Str→Option NameKind} {pos:Pos} (ih:∀ (e:PySem.Expr) (c:CE),compE nt n kd names e = some c→EvOk P l env names e c) :
  ∀ (es:List PySem.Expr) (cs:List CE),allSome (es.map (compE nt n kd names)) = some cs→∀ {ρ:List Addr} {H:AH} {s:Shared} {Q:List AV→AH→Prop},Cx P l A env names S ρ loc H s→ExOk P A X E s→wpEs P l X cs loc H Q →
   wpAny (model P.prog P.w) A (spliced (backTo pos (starEach es env))) (EPs S ρ H s Q) E s
 | [],_,hc,ρ,H,s,Q,C,hE,h=>by
  cases hc
  exact args_nil ⟨s.heap,s.toks,[],[],[],rfl,Kp.refl _,Fresh.nil _,by simpa using C.sim,.nil,by simpa [w_nil,w_cons] using h⟩
 | e::r,cs,hc,ρ,H,s,Q,C,hE,h=>by
  obtain ⟨a,t,e1,e2,rfl⟩:=allSome_cons hc
  refine args_cons (EP.then (ih e a e1 A S ρ loc H s _ X E C hE h) fun x h1 tk1 n1 v1 G1 k1 f1 X1 V1 q1=>?_) (not_starred e1 r)
  refine EPs.then (args_ok ih r t e2 (C.kp k1 f1 X1) (hE.kp k1) q1) fun xs h2 tk2 n2 vs G2 k2 f2 X2 V2 q2=>?_
  exact ⟨h2,tk2,n1++n2,v1::vs,G1++G2,rfl,k1.trans k2,fresh_trans k1 f1 f2,by simpa [List.append_assoc] using X2,by simpa [List.append_assoc] using VRels.cons (V1.kp k2 f2) V2,by simpa [List.append_assoc] using q2⟩
theorem name_ok (ho:EnvOk env) {x:Str} {p:Pos} {i:Nat} (e:slotOf env.kindOf names x = some i):EvOk P l env names (.Name x p) (.var i):=by
 intro A S ρ loc H s Q X E C hE h
 unfold slotOf at e
 split at e
 ·rename_i hc
  simp at hc
  simp only [w_const,w_var,w_bin,w_neg,w_not,w_and,w_or,w_cmp,w_chain,w_idx,w_slc,w_tup,w_lst,w_dct,w_call,w_prim,w_isin,w_isown,w_meth,w_comp] at h
  obtain ⟨v,ev,q⟩:=opt_of h
  obtain ⟨rv,h2,h3⟩:=C.loc i x v (idxOf_get e) ev
  have hd:(x == ("__debug__" : Str)) = false:=by simpa using hc.2
  rcases h2 with ⟨hk,m,hn,hm⟩ | ⟨hk,c,hc',hm⟩
  ·exact wpAny_Name (wpAny_loadName_local ho.1 hk hn hm (EP.val0 C.sim h3 q)) hd
  ·exact wpAny_Name (wpAny_loadName_cell ho.1 hk hc' hm (EP.val0 C.sim h3 q)) hd
 ·cases e
theorem glob_ok (ho:EnvOk env) {x:Str} {p:Pos} {v:AV} (e:isGlob env.kindOf x = true) (ec:P.nt.consts.lookup x = some v):EvOk P l env names (.Name x p) (.const v):=by
 intro A S ρ loc H s Q X E C hE h
 unfold isGlob at e
 simp at e
 obtain ⟨rv,e1,V⟩:=C.gok.cst x v ec
 have hd:(x == ("__debug__" : Str)) = false:=by simpa using e.2
 exact Calls.Name_function_global ho.1 e.1 (Calls.loadGlobal_global (by rw [ho.2.1];exact C.gok.g) e1 (EP.val0 C.sim (V _ _ _) h)) hd
theorem bi_ok (ho:EnvOk env) {x:Str} {p:Pos} {v:Value} {Q:Value→Shared→Prop} (C:GOk P s.heap) (e:isGlob env.kindOf x = true) (eb:biOf x = some v) (h:Q v s):wpAny (model P.prog P.w) A (eval (.Name x p) env) Q E s:=by
 unfold isGlob at e
 simp at e
 have hd:(x == ("__debug__" : Str)) = false:=by simpa using e.2
 have q:=C.bi x v eb
 exact Calls.Name_function_global ho.1 e.1 (Calls.loadGlobal_builtin (by rw [ho.2.1];exact C.g) q.1 (by rw [ho.2.2.1];exact C.b) q.2 h) hd
end
open PySem PyProof.Rows PySem.SeqAt
section
variable {P:PC} {l:Lv} {A:Around} {env:Env} {names:List Str} {S:Sx} {ρ:List Addr} {loc:List (Option AV)} {H:AH} {s:Shared} {X:Str→Prop} {E:Value→Shared→Prop} {Q:AV→AH→Prop}
theorem const_ok {c:Const} {v:AV} {k:Nat} {p:Pos} (e:constOf c = some v):EvOk P l env names (.Constant c k p) (.const v):=by
 intro A S ρ loc H s Q X E C hE h
 rw [eval_Constant]
 rw [w_const] at h
 cases c with
 | none=>obtain rfl:=Option.some.inj e;exact wpAny_pure (EP.val0 C.sim .none h)
 | bool b=>obtain rfl:=Option.some.inj e;exact wpAny_pure (EP.val0 C.sim (.bool _) h)
 | int i=>obtain rfl:=Option.some.inj e;exact wpAny_mkInt (EP.val C.sim (.int _ _) h _)
 | str x=>obtain rfl:=Option.some.inj e;exact wpAny_mkText (EP.val C.sim (.str _ _) h _)
 | _=>exact none_some e
theorem two_ok {a b:PySem.Expr} {c d:CE} {R:AV→AV→AH→Prop} {t:Value→Value→Sem Value} (ia:EvOk P l env names a c) (ib:EvOk P l env names b d) (C:Cx P l A env names S ρ loc H s) (hE:ExOk P A X E s)
  (h:wpE P l X c loc H fun v H₁=>wpE P l X d loc H₁ fun u H₂=>R v u H₂)
  (fin:∀ {ρ':List Addr} {H':AH} {s':Shared} {v u:AV} {x y:Value},Cx P l A env names S ρ' loc H' s'→VRel S ρ' s'.heap v x→VRel S ρ' s'.heap u y→R v u H'→wpAny (model P.prog P.w) A (t x y) (EP S ρ' H' s' Q) E s') :
  wpAny (model P.prog P.w) A (eval a env) (fun x s₁=>wpAny (model P.prog P.w) A (eval b env) (fun y s₂=>wpAny (model P.prog P.w) A (t x y) (EP S ρ H s Q) E s₂) E s₁) E s:=by
 refine EP.then (ia A S ρ loc H s _ X E C hE h) fun x h1 tk1 n1 v1 G1 k1 f1 X1 V1 q1=>?_
 refine EP.then (ib A S _ loc _ _ _ X E (C.kp k1 f1 X1) (hE.kp k1) q1) fun y h2 tk2 n2 v2 G2 k2 f2 X2 V2 q2=>?_
 refine wpAny_mono (fin ((C.kp (tk:=tk1) k1 f1 X1).kp (tk:=tk2) k2 f2 X2) (V1.kp k2 f2) V2 q2) (fun z s₃ hz=>EP.after k1 f1 (EP.after k2 f2 hz)) fun _ _ y=>y
theorem bin_ok {a b:PySem.Expr} {op:Operator} {p:Pos} {c d:CE} (ia:EvOk P l env names a c) (ib:EvOk P l env names b d):EvOk P l env names (.BinOp a op b p) (.bin op c d):=by
 intro A S ρ loc H s Q X E C hE h
 simp only [w_const,w_var,w_bin,w_neg,w_not,w_and,w_or,w_cmp,w_chain,w_idx,w_slc,w_tup,w_lst,w_dct,w_call,w_prim,w_isin,w_isown,w_meth,w_comp] at h
 exact wpAny_BinOp (two_ok (t:=fun x y=>binaryOp op x y) ia ib C hE h fun C' Va Vb q=>opBin_ok op C'.sim C'.sd Va Vb q)
theorem units_ok {A:Around} (h:Aok l A):A.units + 100 < cLine:=Nat.lt_of_le_of_lt (Nat.add_le_add (Nat.le_add_right _ _) (by decide)) h.2.2
theorem cmp_ok {a b:PySem.Expr} {op:CmpOp} {p:Pos} {c d:CE} (ia:EvOk P l env names a c) (ib:EvOk P l env names b d) (hm:behindInMarks op b = false):EvOk P l env names (.Compare a [op] [b] p) (.cmp op c d):=by
 intro A S ρ loc H s Q X E C hE h
 simp only [w_const,w_var,w_bin,w_neg,w_not,w_and,w_or,w_cmp,w_chain,w_idx,w_slc,w_tup,w_lst,w_dct,w_call,w_prim,w_isin,w_isown,w_meth,w_comp] at h
 exact wpAny_Compare1 (two_ok (t:=fun x y=>compareOp op x y) ia ib C hE h fun C' Va Vb q=>opCmp_ok op (units_ok C'.aok) C'.sim Va Vb q) hm
theorem neg_ok {a:PySem.Expr} {p:Pos} {c:CE} (ia:EvOk P l env names a c):EvOk P l env names (.UnaryOp .USub a p) (.neg c):=by
 intro A S ρ loc H s Q X E C hE h
 simp only [w_const,w_var,w_bin,w_neg,w_not,w_and,w_or,w_cmp,w_chain,w_idx,w_slc,w_tup,w_lst,w_dct,w_call,w_prim,w_isin,w_isown,w_meth,w_comp] at h
 show wpAny _ A (do let v ← eval a env;standAt p;holding [v] (unaryOp .USub v)) _ _ s
 refine wpAny_bind (EP.then (ia A S ρ loc H s _ X E C hE h) fun x h1 tk1 n1 v1 G1 k1 f1 X1 V1 qz=>?_)
 obtain ⟨i,rfl,q⟩:=onInt_of qz
 obtain ⟨_,rfl⟩:=V1.ofInt
 refine wpAny_bind (wpAny_standAt (wpAny_holding (PySem.P.neg_int (EP.after (G:=G1) (tk₁:=tk1) k1 f1 ?_))))
 exact EP.val X1 (.int _ _) q _
theorem unaryNot {M:Model} {A:Around} {b:Bool} {s:Shared} {Q:Value→Shared→Prop} (h:Q (.bool (!b)) s):wpAny M A (unaryOp .Not (.bool b)) Q E s:=by
 show wpAny M A (do return .bool (!(← truthy (.bool b)))) Q E s
 exact wpAny_bind (wpAny_truthy_bool (wpAny_pure h))
theorem not_ok {a:PySem.Expr} {p:Pos} {c:CE} (ia:EvOk P l env names a c):EvOk P l env names (.UnaryOp .Not a p) (.not c):=by
 intro A S ρ loc H s Q X E C hE h
 simp only [w_const,w_var,w_bin,w_neg,w_not,w_and,w_or,w_cmp,w_chain,w_idx,w_slc,w_tup,w_lst,w_dct,w_call,w_prim,w_isin,w_isown,w_meth,w_comp] at h
 show wpAny _ A (do let v ← eval a env;standAt p;holding [v] (unaryOp .Not v)) _ _ s
 refine wpAny_bind (EP.then (ia A S ρ loc H s _ X E C hE h) fun x h1 tk1 n1 v1 G1 k1 f1 X1 V1 qz=>?_)
 obtain ⟨i,rfl,q⟩:=onBool_of qz
 obtain rfl:=V1.ofBool
 refine wpAny_bind (wpAny_standAt (wpAny_holding (unaryNot (EP.after k1 f1 (EP.val0 X1 (.bool _) q)))))
theorem subscripted_eq (slice:PySem.Expr) (o i:Value):∃ ops,subscripted slice false o i = operate ops (getItem o i):=by
 cases slice<;>first | exact ⟨_,rfl⟩ | skip
 rename_i lo hi st p
 cases st<;>exact ⟨_,rfl⟩
theorem idx_ok {a b:PySem.Expr} {p:Pos} {c d:CE} (ia:EvOk P l env names a c) (ib:EvOk P l env names b d):EvOk P l env names (.Subscript a b p) (.idx c d):=by
 intro A S ρ loc H s Q X E C hE h
 simp only [w_const,w_var,w_bin,w_neg,w_not,w_and,w_or,w_cmp,w_chain,w_idx,w_slc,w_tup,w_lst,w_dct,w_call,w_prim,w_isin,w_isown,w_meth,w_comp] at h
 refine Subscript_ (two_ok (t:=fun x y=>subscriptTail a b x y) ia ib C hE h @fun _ _ _ _ _ x y C' Va Vb q=>?_)
 obtain ⟨hT,hg⟩:=getItem_ok (prog:=P.prog) (w:=P.w) (A:=A) (E:=E) C'.pp C'.pw C'.sim Va Vb q
 obtain ⟨ops,e⟩:=subscripted_eq b x y
 rcases hT with hT | hT | hT
 ·exact tail_any hT slot_list_getitem.lookup hg e
 ·exact tail_any hT slot_tuple_getitem.lookup hg e
 ·exact tail_any hT slot_dict_getitem.lookup hg e
theorem optE_ok {nt:NT} {n:Nat} {kd:Str→Option NameKind} {lo:Option PySem.Expr} {c:CE} (ih:∀ (e:PySem.Expr) (c:CE),compE nt n kd names e = some c→EvOk P l env names e c)
  (e:(match lo with | some e=>compE nt n kd names e | Option.none=>some (.const .none)) = some c) (C:Cx P l A env names S ρ loc H s) (hE:ExOk P A X E s) (h:wpE P l X c loc H Q) :
  wpAny (model P.prog P.w) A (valueOrNone (evalOpt lo env)) (EP S ρ H s Q) E s:=by
 cases lo with
 | none=>
  cases e
  simp only [w_const,w_var,w_bin,w_neg,w_not,w_and,w_or,w_cmp,w_chain,w_idx,w_slc,w_tup,w_lst,w_dct,w_call,w_prim,w_isin,w_isown,w_meth,w_comp] at h
  exact wpAny_pure (EP.val0 C.sim .none h)
 | some a=>exact ih a c e A S ρ loc H s Q X E C hE h
theorem slc_end {o:PySem.Expr} {lo hi st:Option PySem.Expr} {p:Pos} {x vl vu vs:Value} {v1 v2 v3 v4:AV} (X4:HSim S ρ H s.heap) (D4:SD S s.heap) (W1:VRel S ρ s.heap v1 x) (W2:VRel S ρ s.heap v2 vl) (W3:VRel S ρ s.heap v3 vu) (V4:VRel S ρ s.heap v4 vs) (q4:opSlc v1 v2 v3 v4 H Q)
  {Q':Value→Shared→Prop} (fin:∀ y s',EP S ρ H s Q y s'→Q' y s') :
  wpAny (model P.prog P.w) A (subscriptTail o (.Slice lo hi st p) x (.ref s.heap.objs.size)) Q' E { s with heap:=s.heap.push { cls:=.type "slice",data:=.fields #[vl,vu,vs] } }:=by
 have fresh:s.heap.get? (s.heap.push { cls:=.type "slice",data:=.fields #[vl,vu,vs] }).objs.size = none:=by
  cases q0:s.heap.get? (s.heap.push { cls:=.type "slice",data:=.fields #[vl,vu,vs] }).objs.size with
  | none=>rfl
  | some o=>exact absurd (Heap.lt_size q0) (by simp)
 rcases opSlc_of q4 with ⟨ws,rfl,qt⟩ | ⟨ws,lo',hi',st',ei,hsm,el,eu,es,h0,q⟩
 ·obtain ⟨a,rfl,rfl,rfl,⟨a1,a2,a3⟩,q⟩:=slcT_of qt
  obtain ⟨tt,rfl⟩:=W2.ofInt
  obtain rfl:=W3.ofNone
  obtain rfl:=V4.ofNone
  cases W1.iTup with
  | mk ha hs hpt hv=>
   rename_i la items
   obtain ⟨m,hpt⟩:=hpt
   have ht:IsTup (s.heap.push { cls:=.type "slice",data:=.fields #[.int a tt,.none,.none] }) la items:=⟨_,Heap.get?_push_of_some _ hpt,rfl,_,rfl⟩
   obtain ⟨ops,eo⟩:=subscripted_eq (.Slice lo hi st p) (.ref la) (.ref s.heap.objs.size)
   obtain ⟨j,rfl⟩:=Int.eq_ofNat_of_zero_le (Int.le_trans (by decide) a1)
   rw [hv.size] at a2 a3
   refine tail_any ht.typeIs slot_tuple_getitem.lookup (getItem_tuple_from ht (Heap.IsSliceOf.new ..) (by (first | lia | omega)) (by (first | lia | omega)) (fin _ _ ?_) (small_le rfl a3)) eo
   exact EP.newT X4 D4 ((push_kp _ _).trans (push_kp _ _)) fresh ⟨0,Heap.get?_push_size _ rfl⟩ (by simpa using hv.drop j) q
 ·obtain ⟨la,items,rfl,hl,vv⟩:=items_real X4 W1 ei
  have hl':Heap.PlainList (s.heap.push { cls:=.type "slice",data:=.fields #[vl,vu,vs] }) la items:=PlainList.at' hl fun o e=>Heap.get?_push_of_some _ e
  obtain ⟨ops,eo⟩:=subscripted_eq (.Slice lo hi st p) (.ref la) (.ref s.heap.objs.size)
  refine tail_any (PL.isList hl').typeIs slot_list_getitem.lookup (wpAny_getItem_list_slice (hsz:=small_le vv.size hsm) (PL.isList hl') (Heap.IsSliceOf.new ..) (optInt_part W2 el) (optInt_part W3 eu) (optInt_part V4 es) h0 (fin _ _ ?_)) eo
  exact EP.newL X4 D4 ((push_kp _ _).trans (push_kp _ _)) fresh ⟨0,Heap.get?_push_size _ rfl⟩ (vv.slPick lo' hi' st') q
theorem slc_ok {nt:NT} {n:Nat} {kd:Str→Option NameKind} {o:PySem.Expr} {lo hi st:Option PySem.Expr} {p p':Pos} {c c1 c2 c3:CE} (ih:∀ (e:PySem.Expr) (c:CE),compE nt n kd names e = some c→EvOk P l env names e c)
  (e0:compE nt n kd names o = some c) (e1:compOpt (compE nt n kd names) lo = some c1)
  (e2:compOpt (compE nt n kd names) hi = some c2) (e3:compOpt (compE nt n kd names) st = some c3) :
  EvOk P l env names (.Subscript o (.Slice lo hi st p) p') (.slc c c1 c2 c3):=by
 intro A S ρ loc H s Q X E C hE h
 rw [w_slc] at h
 refine Subscript_ (EP.thenU (ih o c e0 A S ρ loc H s _ X E C hE h) fun x s₁ n1 v1 G1 u1 k1 f1 X1 V1 q1=>?_)
 have C1:=C.kpU k1 f1 X1
 show wpAny _ A (do let l ← valueOrNone (evalOpt lo env);let u ← holding [l] (valueOrNone (evalOpt hi env));let s ← holding [l,u] (valueOrNone (evalOpt st env));newFields "slice" [l,u,s]) _ _ _
 refine wpAny_bind (EP.thenU (optE_ok ih e1 C1 exOk_any q1) fun vl s₂ n2 v2 G2 u2 k2 f2 X2 V2 q2=>?_)
 have C2:=C1.kpU k2 f2 X2
 refine wpAny_bind (wpAny_holding (EP.thenU (optE_ok ih e2 C2 exOk_any q2) fun vu s₃ n3 v3 G3 u3 k3 f3 X3 V3 q3=>?_))
 have C3:=C2.kpU k3 f3 X3
 refine wpAny_bind (wpAny_holding (EP.thenU (optE_ok ih e3 C3 exOk_any q3) fun vs s₄ n4 v4 G4 u4 k4 f4 X4 V4 q4=>?_))
 exact wpAny_newObj_type (slc_end X4 (C3.kpU k4 f4 X4).sd (((V1.kp k2 f2).kp k3 f3).kp k4 f4) ((V2.kp k3 f3).kp k4 f4) (V3.kp k4 f4) V4 q4 fun y s' h=>EP.afterU u1 k1 f1 (EP.afterU u2 k2 f2 (EP.afterU u3 k3 f3 (EP.afterU u4 k4 f4 h))))
theorem tup_ok {nt:NT} {n:Nat} {kd:Str→Option NameKind} {es:List PySem.Expr} {k:Nat} {p:Pos} {cs:List CE} (ih:∀ (e:PySem.Expr) (c:CE),compE nt n kd names e = some c→EvOk P l env names e c)
  (e:allSome (es.map (compE nt n kd names)) = some cs):EvOk P l env names (.Tuple es k p) (.tup cs):=by
 intro A S ρ loc H s Q X E C hE h
 simp only [w_const,w_var,w_bin,w_neg,w_not,w_and,w_or,w_cmp,w_chain,w_idx,w_slc,w_tup,w_lst,w_dct,w_call,w_prim,w_isin,w_isown,w_meth,w_comp] at h
 refine Tuple_ (EPs.then (args_ok ih es cs e C hE h) fun xs h1 tk1 n1 vs G1 k1 f1 X1 V1 qq=>?_)
 obtain ⟨hsm,q1⟩:=qq
 have e1:=V1.length
 refine wpAny_newObj_type (EP.after k1 f1 (EP.pushT (items:=xs.toArray) X1 (C.kp (tk:=tk1) k1 f1 X1).sd (by simpa using V1) q1 tk1)) ?_
 show xs.toArray.size ≤ sizeLine
 unfold smallN at hsm;have:sizeLine = 2 ^ 24:=rfl;simp only [List.size_toArray];omega
theorem lst_ok {nt:NT} {n:Nat} {kd:Str→Option NameKind} {es:List PySem.Expr} {p:Pos} {cs:List CE} (ih:∀ (e:PySem.Expr) (c:CE),compE nt n kd names e = some c→EvOk P l env names e c)
  (e:allSome (es.map (compE nt n kd names)) = some cs):EvOk P l env names (.List es p) (.lst cs):=by
 intro A S ρ loc H s Q X E C hE h
 simp only [w_const,w_var,w_bin,w_neg,w_not,w_and,w_or,w_cmp,w_chain,w_idx,w_slc,w_tup,w_lst,w_dct,w_call,w_prim,w_isin,w_isown,w_meth,w_comp] at h
 refine List_ (EPs.then (args_ok ih es cs e C hE h) fun xs h1 tk1 n1 vs G1 k1 f1 X1 V1 qq=>?_)
 obtain ⟨hsm,q1⟩:=qq
 have e1:=V1.length
 refine wpAny_newObj_type (EP.after k1 f1 (EP.pushL (items:=xs.toArray) X1 (C.kp (tk:=tk1) k1 f1 X1).sd (by simpa using V1) q1 tk1)) ?_
 show xs.toArray.size ≤ sizeLine
 unfold smallN at hsm;have:sizeLine = 2 ^ 24:=rfl;simp only [List.size_toArray];(first | lia | omega)
inductive BP (S:Sx) (ρ:List Addr) (H:AH) (s:Shared) (K:Bool→AH→Prop) (b:Bool) (s':Shared):Prop
 | mk (h':_) (tk:_) (e:_) (G:_):s' = { s with heap:=h',toks:=tk }→Kp s.heap h'→Fresh s.heap e→HSim S (ρ++e) (H++G) h'→K b (H++G)→BP S ρ H s K b s'
theorem BP.then {M:Model} {A:Around} {S:Sx} {ρ:List Addr} {H:AH} {s:Shared} {Q:Bool→AH→Prop} {m:Sem Bool} {Q':Bool→Shared→Prop} {E:Value→Shared→Prop} (h:wpAny M A m (BP S ρ H s Q) E s)
  (k:∀ y h' tk e G,Kp s.heap h'→Fresh s.heap e→HSim S (ρ++e) (H++G) h'→Q y (H++G)→Q' y { s with heap:=h',toks:=tk }):wpAny M A m Q' E s:=
 wpAny_mono h (fun _ _ hy=>by
  obtain ⟨_,_,_,_,rfl,a,b,c,q⟩:=hy
  exact k _ _ _ _ _ a b c q) fun _ _ y=>y
theorem BP.after {h₁:Heap} {tk₁:Nat} {e:List Addr} {G:AH} {s₂:Shared} {K:Bool→AH→Prop} {b:Bool} (hk:Kp s.heap h₁) (hf:Fresh s.heap e)
  (h:BP S (ρ++e) (H++G) { s with heap:=h₁,toks:=tk₁ } K b s₂):BP S ρ H s K b s₂:=by
 obtain ⟨h',tk,e',G',rfl,k',f',X',q'⟩:=h
 exact ⟨h',tk,e++e',G++G',rfl,hk.trans k',fresh_trans hk hf f',by simpa [List.append_assoc] using X',by simpa [List.append_assoc] using q'⟩
noncomputable def isB (K:Bool→AH→Prop) (v:AV) (H:AH):Prop:=onBool v fun b=>K b H
theorem EP.toB {K:Bool→AH→Prop} {x:Value} {s':Shared} (h:EP S ρ H s (isB K) x s'):∃ b,x = .bool b∧BP S ρ H s K b s':=by
 obtain ⟨h1,tk1,n1,v1,G1,rfl,k1,f1,X1,V1,qz⟩:=h
 obtain ⟨b,rfl,q⟩:=onBool_of qz
 obtain rfl:=V1.ofBool
 exact ⟨b,rfl,h1,tk1,n1,G1,rfl,k1,f1,X1,q⟩
noncomputable def TrOk (P:PC) (l:Lv) (env:Env) (names:List Str) (e:PySem.Expr) (c:CE):Prop:=
 ∀ (A:Around) (S:Sx) (ρ:List Addr) (loc:List (Option AV)) (H:AH) (s:Shared) (K:Bool→AH→Prop) (X:Str→Prop) (E:Value→Shared→Prop),
  Cx P l A env names S ρ loc H s→ExOk P A X E s→wpE P l X c loc H (isB K)→wpAny (model P.prog P.w) A (isTrue e env (eval e env)) (BP S ρ H s K) E s
theorem tr_plain {e:PySem.Expr} {c:CE} (he:EvOk P l env names e c) (hi:isTrue e env (eval e env) = (do let v ← eval e env;standAt e.pos;holding [v] (truthy v))):TrOk P l env names e c:=by
 intro A S ρ loc H s K X E C hE h
 rw [hi]
 refine wpAny_bind (wpAny_mono (he A S ρ loc H s _ X E C hE h) (fun x s₁ hx=>?_) fun _ _ y=>y)
 obtain ⟨b,rfl,q⟩:=hx.toB
 exact wpAny_bind (wpAny_standAt (wpAny_holding (wpAny_truthy_bool q)))
theorem tr_not {a:PySem.Expr} {p:Pos} {c:CE} (ia:TrOk P l env names a c):TrOk P l env names (.UnaryOp .Not a p) (.not c):=by
 intro A S ρ loc H s K X E C hE h
 simp only [w_const,w_var,w_bin,w_neg,w_not,w_and,w_or,w_cmp,w_chain,w_idx,w_slc,w_tup,w_lst,w_dct,w_call,w_prim,w_isin,w_isown,w_meth,w_comp,isB] at h
 show wpAny _ A (do return !(← isTrue a env (eval a env))) _ _ s
 refine wpAny_bind (wpAny_mono (ia A S ρ loc H s (fun b H'=>K (!b) H') X E C hE ?_) (fun b s₁ hb=>wpAny_pure (by obtain ⟨h',tk,e,G,a1,a2,a3,a4,a5⟩:=hb;exact ⟨h',tk,e,G,a1,a2,a3,a4,a5⟩)) fun _ _ y=>y)
 exact h
theorem tr_cmp {a b:PySem.Expr} {op:CmpOp} {p:Pos} {c d:CE} (ia:EvOk P l env names a c) (ib:EvOk P l env names b d) (hm:behindInMarks op b = false):TrOk P l env names (.Compare a [op] [b] p) (.cmp op c d):=by
 intro A S ρ loc H s K X E C hE h
 simp only [w_const,w_var,w_bin,w_neg,w_not,w_and,w_or,w_cmp,w_chain,w_idx,w_slc,w_tup,w_lst,w_dct,w_call,w_prim,w_isin,w_isown,w_meth,w_comp] at h
 refine wpAny_isTrue_Compare1 ?_ hm
 refine wpAny_mono (two_ok (Q:=isB K) (t:=fun x y=>compareOp op x y) ia ib C hE h fun C' Va Vb q=>opCmp_ok op (units_ok C'.aok) C'.sim Va Vb q) (fun x s₁ hx=>wpAny_mono hx (fun y s₂ hy=>wpAny_mono hy (fun z s₃ hz=>?_) fun _ _ y=>y) fun _ _ y=>y) fun _ _ y=>y
 obtain ⟨t,rfl,q⟩:=hz.toB
 exact wpAny_truthy_bool q
end
open PySem PyProof.Rows PySem.SeqAt
section
variable {P:PC} {l:Lv} {A:Around} {env:Env} {names:List Str} {S:Sx} {ρ:List Addr} {loc:List (Option AV)} {H:AH} {s:Shared} {X:Str→Prop} {E:Value→Shared→Prop} {Q:AV→AH→Prop}
theorem wpAny_release' {M:Model} {A:Around} {vs keep:List Value} {s:Shared} {Q:Unit→Shared→Prop} (h:Q () s):wpAny M A (release vs keep) Q E s:=fun Γ p hΓ=>by rw [Sem.wp_release];exact h
theorem marked2 {op1 op2:CmpOp} {m r:PySem.Expr} (h:behindInMarks op2 r = false):markedEach [op1,op2] [m,r] (evalEach [m,r] env) = [eval m env,eval r env]:=by
 show [eval m env,markedBehindIn op2 r (eval r env)] = _
 rw [markedBehindIn_of_false h]
theorem chain_start {a b:PySem.Expr} {op1:CmpOp} {c d:CE} {R:AV→Bool→AH→Prop} (ia:EvOk P l env names a c) (ib:EvOk P l env names b d) (C:Cx P l A env names S ρ loc H s) (hE:ExOk P A X E s) {α:Type} {QQ:α→Shared→Prop} {t:Value→Value→Sem α}
  (h:wpE P l X c loc H fun v H₁=>wpE P l X d loc H₁ fun u H₂=>opCmp op1 v u H₂ (isB (R u)))
  (fin:∀ {ρ':List Addr} {H':AH} {h':Heap} {tk:Nat} {u:AV} {y:Value} {z:Bool} {e:List Addr} {G:AH},ρ' = ρ++e→H' = H++G→Kp s.heap h'→Fresh s.heap e→Cx P l A env names S ρ' loc H' { s with heap:=h',toks:=tk }→ExOk P A X E { s with heap:=h',toks:=tk }→VRel S ρ' h' u y→R u z H' →
   wpAny (model P.prog P.w) A (t y (.bool z)) QQ E { s with heap:=h',toks:=tk }) :
  wpAny (model P.prog P.w) A (eval a env) (fun x s₁=>wpAny (model P.prog P.w) A (eval b env) (fun y s₂=>wpAny (model P.prog P.w) A (compareOp op1 x y) (fun z s₃=>wpAny (model P.prog P.w) A (t y z) QQ E s₃) E s₂) E s₁) E s:=by
 refine EP.then (ia A S ρ loc H s _ X E C hE h) fun x h1 tk1 n1 v1 G1 k1 f1 X1 V1 q1=>?_
 have C1:=C.kp (tk:=tk1) k1 f1 X1
 refine EP.then (ib A S _ loc _ _ _ X E C1 (hE.kp k1) q1) fun y h2 tk2 n2 v2 G2 k2 f2 X2 V2 q2=>?_
 have C2:=C1.kp (tk:=tk2) k2 f2 X2
 refine EP.then (opCmp_ok op1 (units_ok C.aok) X2 (V1.kp k2 f2) V2 q2) fun z h3 tk3 n3 v3 G3 k3 f3 X3 V3 qz=>?_
 obtain ⟨b,rfl,q3⟩:=onBool_of qz
 obtain rfl:=V3.ofBool
 have C3:=C2.kp (tk:=tk3) k3 f3 X3
 refine fin (e:=n1++n2++n3) (G:=G1++G2++G3) (by simp [List.append_assoc]) (by simp [List.append_assoc]) ((k1.trans k2).trans k3) (fresh_trans (k1.trans k2) (fresh_trans k1 f1 f2) f3) C3 (((hE.kp (tk:=tk1) k1).kp (tk:=tk2) k2).kp k3) (V2.kp k3 f3) q3
theorem chain_ok {a b r:PySem.Expr} {op1 op2:CmpOp} {p:Pos} {c d f:CE} (ia:EvOk P l env names a c) (ib:EvOk P l env names b d) (ir:EvOk P l env names r f) (hm:behindInMarks op2 r = false):EvOk P l env names (.Compare a [op1,op2] [b,r] p) (.chain op1 op2 c d f):=by
 intro A S ρ loc H s Q X E C hE h
 simp only [w_const,w_var,w_bin,w_neg,w_not,w_and,w_or,w_cmp,w_chain,w_idx,w_slc,w_tup,w_lst,w_dct,w_call,w_prim,w_isin,w_isown,w_meth,w_comp] at h
 show wpAny _ A (do compareChain p (← eval a env) [op1,op2] (markedEach [op1,op2] [b,r] (evalEach [b,r] env))) _ _ s
 rw [marked2 hm]
 refine wpAny_bind (wpAny_mono (chain_start (t:=fun y z=>do release [y,y] [z];if ← holding [z,y] (truthy z) then compareChain p y [op2] [eval r env] else pure z) (QQ:=EP S ρ H s Q) ia ib C hE (R:=fun u t H₃=>if t = true then wpE P l X f loc H₃ fun z H₄=>opCmp op2 u z H₄ Q else Q (.bool false) H₃) h ?_) (fun x s₁ hx=>?_) fun _ _ y=>y)
 ·intro ρ' H' h' tk u y z e G e1 e2 k fr C' E' V q
  subst e1 e2
  refine wpAny_bind (wpAny_release' (wpAny_bind (wpAny_holding (wpAny_truthy_bool ?_))))
  cases z with
  | false=>exact wpAny_pure (EP.after k fr (EP.val0 C'.sim (.bool _) (by simpa using q)))
  | true=>
   simp only [if_true] at q ⊢
   show wpAny _ A (do let rv ← holding [y] (eval r env);standAt p;operate [y,rv] (compareOp op2 y rv)) _ _ _
   refine wpAny_bind (wpAny_holding (EP.then (ir A S _ loc _ _ _ X E C' E' q) fun x h1 tk1 n1 v1 G1 k1 f1 X1 V1 q1=>?_))
   refine wpAny_bind (wpAny_standAt (wpAny_operating (wpAny_mono (opCmp_ok op2 (units_ok C.aok) X1 (V.kp k1 f1) V1 q1) (fun z s₃ hz=>?_) fun _ _ y=>y)))
   exact EP.after k fr (EP.after k1 f1 hz)
 ·show wpAny _ A (do let rv ← holding [x] (eval b env);standAt p;let c ← holding [x,rv] (compareOp op1 x rv);release [x,rv] [c];if ← holding [c,rv] (truthy c) then compareChain p rv [op2] [eval r env] else pure c) _ _ s₁
  refine wpAny_bind (wpAny_holding (wpAny_mono hx (fun y s₂ hy=>wpAny_bind (wpAny_standAt (wpAny_bind (wpAny_holding (wpAny_mono hy (fun z s₃ hz=>?_) fun _ _ y=>y))))) fun _ _ y=>y))
  refine wpAny_bind (wpAny_release' ?_)
  have:=hz
  unfold wpAny at this ⊢
  intro Γ pp hΓ
  have q:=this Γ pp hΓ
  simp only [Sem.wp_bind',Sem.wp_release,Sem.wp_holding] at q ⊢
  exact q
theorem tr_chain {a b r:PySem.Expr} {op1 op2:CmpOp} {p:Pos} {c d f:CE} (ia:EvOk P l env names a c) (ib:EvOk P l env names b d) (ir:EvOk P l env names r f) (hm:behindInMarks op2 r = false):TrOk P l env names (.Compare a [op1,op2] [b,r] p) (.chain op1 op2 c d f):=by
 intro A S ρ loc H s K X E C hE h
 simp only [w_const,w_var,w_bin,w_neg,w_not,w_and,w_or,w_cmp,w_chain,w_idx,w_slc,w_tup,w_lst,w_dct,w_call,w_prim,w_isin,w_isown,w_meth,w_comp] at h
 show wpAny _ A (do testChain p (← eval a env) [op1,op2] (markedEach [op1,op2] [b,r] (evalEach [b,r] env))) _ _ s
 rw [marked2 hm]
 refine wpAny_bind (wpAny_mono (chain_start (t:=fun y z=>do release [y,y] [z];if ← holding [z,y] (truthy z) then testChain p y [op2] [eval r env] else pure false) (QQ:=BP S ρ H s K) ia ib C hE (R:=fun u t H₃=>if t = true then wpE P l X f loc H₃ fun z H₄=>opCmp op2 u z H₄ (isB K) else isB K (.bool false) H₃) h ?_) (fun x s₁ hx=>?_) fun _ _ y=>y)
 ·intro ρ' H' h' tk u y z e G e1 e2 k fr C' E' V q
  subst e1 e2
  refine wpAny_bind (wpAny_release' (wpAny_bind (wpAny_holding (wpAny_truthy_bool ?_))))
  cases z with
  | false=>
   have q':isB K (.bool false) (H++G):=by simpa using q
   replace q':K false (H++G):=q'
   exact wpAny_pure (BP.after (tk₁:=tk) k fr ⟨h',tk,[],[],rfl,Kp.refl _,Fresh.nil _,by simpa using C'.sim,by simpa using q'⟩)
  | true=>
   simp only [if_true] at q ⊢
   show wpAny _ A (do let rv ← holding [y] (eval r env);standAt p;let c ← operate [y,rv] (compareOp op2 y rv);holding [c] (truthy c)) _ _ _
   refine wpAny_bind (wpAny_holding (EP.then (ir A S _ loc _ _ _ X E C' E' q) fun x h1 tk1 n1 v1 G1 k1 f1 X1 V1 q1=>?_))
   refine wpAny_bind (wpAny_standAt (wpAny_bind (wpAny_operating (wpAny_mono (opCmp_ok op2 (units_ok C.aok) X1 (V.kp k1 f1) V1 q1) (fun z s₃ hz=>?_) fun _ _ y=>y))))
   obtain ⟨t,rfl,q⟩:=hz.toB
   exact wpAny_holding (wpAny_truthy_bool (BP.after k fr (BP.after k1 f1 q)))
 ·show wpAny _ A (do let rv ← holding [x] (eval b env);standAt p;let c ← holding [x,rv] (compareOp op1 x rv);release [x,rv] [c];if ← holding [c,rv] (truthy c) then testChain p rv [op2] [eval r env] else pure false) _ _ s₁
  refine wpAny_bind (wpAny_holding (wpAny_mono hx (fun y s₂ hy=>wpAny_bind (wpAny_standAt (wpAny_bind (wpAny_holding (wpAny_mono hy (fun z s₃ hz=>?_) fun _ _ y=>y))))) fun _ _ y=>y))
  refine wpAny_bind (wpAny_release' ?_)
  have:=hz
  unfold wpAny at this ⊢
  intro Γ pp hΓ
  have q:=this Γ pp hΓ
  simp only [Sem.wp_bind',Sem.wp_release,Sem.wp_holding] at q ⊢
  exact q
theorem boolNest2 (op:BoolOp) (a b:CE) (r:List CE):boolNest op (a::b::r) = (boolNest op (b::r)).map (match op with | .And=>CE.and a | .Or=>CE.or a):=rfl
theorem bool_ok {nt:NT} {n:Nat} {kd:Str→Option NameKind} {pos:Pos} (op:BoolOp) (ih:∀ (e:PySem.Expr) (c:CE),compE nt n kd names e = some c→EvOk P l env names e c) :
  ∀ (es:List PySem.Expr) (cs:List CE) (c:CE),allSome (es.map (compE nt n kd names)) = some cs→boolNest op cs = some c→∀ {ρ:List Addr} {H:AH} {s:Shared} {Q:AV→AH→Prop},Cx P l A env names S ρ loc H s→ExOk P A X E s→wpE P l X c loc H Q →
   wpAny (model P.prog P.w) A (boolOp pos op (evalEach es env)) (EP S ρ H s Q) E s
 | [],_,c,hc,hn,_,_,_,_,_,_,_=>by cases hc;cases hn
 | [e],_,c,hc,hn,ρ,H,s,Q,C,hE,h=>by
  obtain ⟨a,t,e1,e2,rfl⟩:=allSome_cons hc
  cases e2
  cases hn
  exact ih e _ e1 A S ρ loc H s Q X E C hE h
 | e::e'::r,_,c,hc,hn,ρ,H,s,Q,C,hE,h=>by
  obtain ⟨a,t,e1,e2,rfl⟩:=allSome_cons hc
  obtain ⟨a',t',e1',e2',rfl⟩:=allSome_cons e2
  rw [boolNest2] at hn
  cases q:boolNest op (a'::t') with
  | none=>rw [q] at hn;cases hn
  | some d=>
   have hn':=hn
   rw [q] at hn'
   show wpAny _ A (do let v ← eval e env;standAt pos;let t ← holding [v] (truthy v);match op,t with | .And,false | .Or,true=>pure v | _,_=>boolOp pos op (evalEach (e'::r) env)) _ _ s
   have tail:=fun {ρ:List Addr} {H:AH} {s:Shared} {Q:AV→AH→Prop}=>bool_ok (pos:=pos) op ih (e'::r) (a'::t') d e2 q (ρ:=ρ) (H:=H) (s:=s) (Q:=Q)
   cases op with
   | And=>
    cases hn'
    simp only [w_const,w_var,w_bin,w_neg,w_not,w_and,w_or,w_cmp,w_chain,w_idx,w_slc,w_tup,w_lst,w_dct,w_call,w_prim,w_isin,w_isown,w_meth,w_comp] at h
    refine wpAny_bind (EP.then (ih e a e1 A S ρ loc H s _ X E C hE h) fun x h1 tk1 n1 v1 G1 k1 f1 X1 V1 qz=>?_)
    obtain ⟨b,rfl,q1⟩:=onBool_of qz
    obtain rfl:=V1.ofBool
    refine wpAny_bind (wpAny_standAt (wpAny_bind (wpAny_holding (wpAny_truthy_bool ?_))))
    cases b with
    | false=>exact wpAny_pure (EP.after k1 f1 (EP.val0 X1 (.bool _) (by simpa using q1)))
    | true=>exact wpAny_mono (tail (C.kp (tk:=tk1) k1 f1 X1) (hE.kp k1) (by simpa using q1)) (fun z s₂ hz=>EP.after k1 f1 hz) fun _ _ y=>y
   | Or=>
    cases hn'
    simp only [w_const,w_var,w_bin,w_neg,w_not,w_and,w_or,w_cmp,w_chain,w_idx,w_slc,w_tup,w_lst,w_dct,w_call,w_prim,w_isin,w_isown,w_meth,w_comp] at h
    refine wpAny_bind (EP.then (ih e a e1 A S ρ loc H s _ X E C hE h) fun x h1 tk1 n1 v1 G1 k1 f1 X1 V1 qz=>?_)
    obtain ⟨b,rfl,q1⟩:=onBool_of qz
    obtain rfl:=V1.ofBool
    refine wpAny_bind (wpAny_standAt (wpAny_bind (wpAny_holding (wpAny_truthy_bool ?_))))
    cases b with
    | true=>exact wpAny_pure (EP.after k1 f1 (EP.val0 X1 (.bool _) (by simpa using q1)))
    | false=>exact wpAny_mono (tail (C.kp (tk:=tk1) k1 f1 X1) (hE.kp k1) (by simpa using q1)) (fun z s₂ hz=>EP.after k1 f1 hz) fun _ _ y=>y
theorem BP.here {K:Bool→AH→Prop} {b:Bool} (X:HSim S ρ H s.heap) (q:K b H):BP S ρ H s K b s:=⟨s.heap,s.toks,[],[],rfl,Kp.refl _,Fresh.nil _,by simpa using X,by simpa using q⟩
theorem tr_bool {nt:NT} {n:Nat} {kd:Str→Option NameKind} (op:BoolOp) (ih:∀ (e:PySem.Expr) (c:CE),compE nt n kd names e = some c→TrOk P l env names e c) :
  ∀ (es:List PySem.Expr) (cs:List CE) (c:CE),allSome (es.map (compE nt n kd names)) = some cs→boolNest op cs = some c→∀ {ρ:List Addr} {H:AH} {s:Shared} {K:Bool→AH→Prop},Cx P l A env names S ρ loc H s→ExOk P A X E s→wpE P l X c loc H (isB K) →
   wpAny (model P.prog P.w) A (allTrue op es env) (BP S ρ H s K) E s
 | [],_,c,hc,hn,_,_,_,_,_,_,_=>by cases hc;cases hn
 | [e],_,c,hc,hn,ρ,H,s,K,C,hE,h=>by
  obtain ⟨a,t,e1,e2,rfl⟩:=allSome_cons hc
  cases e2
  cases hn
  show wpAny _ A (do match op,← isTrue e env (eval e env) with | .And,false=>pure false | .Or,true=>pure true | _,_=>allTrue op [] env) _ _ s
  refine wpAny_bind (wpAny_mono (ih e _ e1 A S ρ loc H s K X E C hE h) (fun b s₁ hb=>?_) fun _ _ y=>y)
  cases op<;>cases b<;>exact wpAny_pure hb
 | e::e'::r,_,c,hc,hn,ρ,H,s,K,C,hE,h=>by
  obtain ⟨a,t,e1,e2,rfl⟩:=allSome_cons hc
  obtain ⟨a',t',e1',e2',rfl⟩:=allSome_cons e2
  rw [boolNest2] at hn
  cases q:boolNest op (a'::t') with
  | none=>rw [q] at hn;cases hn
  | some d=>
   have hn':=hn
   rw [q] at hn'
   show wpAny _ A (do match op,← isTrue e env (eval e env) with | .And,false=>pure false | .Or,true=>pure true | _,_=>allTrue op (e'::r) env) _ _ s
   have tail:=fun {ρ:List Addr} {H:AH} {s:Shared} {K:Bool→AH→Prop}=>tr_bool op ih (e'::r) (a'::t') d e2 q (ρ:=ρ) (H:=H) (s:=s) (K:=K)
   cases op with
   | And=>
    cases hn'
    simp only [w_const,w_var,w_bin,w_neg,w_not,w_and,w_or,w_cmp,w_chain,w_idx,w_slc,w_tup,w_lst,w_dct,w_call,w_prim,w_isin,w_isown,w_meth,w_comp] at h
    refine wpAny_bind (BP.then (ih e a e1 A S ρ loc H s (fun b H₁=>if b = true then wpE P l X d loc H₁ (isB K) else isB K (.bool false) H₁) X E C hE h) fun b h1 tk1 n1 G1 k1 f1 X1 q1=>?_)
    cases b with
    | false=>
     have q0:isB K (.bool false) (H++G1):=by simpa using q1
     exact wpAny_pure (BP.after (tk₁:=tk1) k1 f1 (BP.here X1 q0))
    | true=>exact wpAny_mono (tail (C.kp (tk:=tk1) k1 f1 X1) (hE.kp k1) (by simpa using q1)) (fun z s₂ hz=>BP.after k1 f1 hz) fun _ _ y=>y
   | Or=>
    cases hn'
    simp only [w_const,w_var,w_bin,w_neg,w_not,w_and,w_or,w_cmp,w_chain,w_idx,w_slc,w_tup,w_lst,w_dct,w_call,w_prim,w_isin,w_isown,w_meth,w_comp] at h
    refine wpAny_bind (BP.then (ih e a e1 A S ρ loc H s (fun b H₁=>if b = true then isB K (.bool true) H₁ else wpE P l X d loc H₁ (isB K)) X E C hE h) fun b h1 tk1 n1 G1 k1 f1 X1 q1=>?_)
    cases b with
    | true=>
     have q0:isB K (.bool true) (H++G1):=by simpa using q1
     exact wpAny_pure (BP.after (tk₁:=tk1) k1 f1 (BP.here X1 q0))
    | false=>exact wpAny_mono (tail (C.kp (tk:=tk1) k1 f1 X1) (hE.kp k1) (by simpa using q1)) (fun z s₂ hz=>BP.after k1 f1 hz) fun _ _ y=>y
end
open PySem PyProof.Rows PySem.SeqAt
section
variable {P:PC} {l:Lv} {A:Around} {env:Env} {names:List Str} {S:Sx} {ρ:List Addr} {loc:List (Option AV)} {H:AH} {s:Shared} {X:Str→Prop} {E:Value→Shared→Prop} {Q:AV→AH→Prop}
theorem star_any {nt:NT} {n:Nat} {kd:Str→Option NameKind} {pos:Pos}:∀ (es:List PySem.Expr) (cs:List CE),allSome (es.map (compE nt n kd names)) = some cs→(backTo pos (starEach es env)).any (·.1) = false
 | [],_,_=>rfl
 | e::r,cs,h=>by
  obtain ⟨a,t,e1,e2,rfl⟩:=allSome_cons h
  rw [not_starred e1 r]
  have:=star_any (pos:=pos) r t e2
  simpa [backTo] using this
theorem lookup_mem {α:Type} {x:Str} {v:α}:∀ {l:List (Str × α)},l.lookup x = some v→(x,v) ∈ l
 | [],h=>by cases h
 | (y,u)::r,h=>by
  rw [List.lookup_cons] at h
  split at h
  ·rename_i hy;cases h;simp at hy;subst hy;exact .head _
  ·exact .tail _ (lookup_mem h)
theorem pr_bi {x:Str} {b:Pr} (h:prNames.lookup x = some b):biOf x = some b.val:=by
 have hm:=lookup_mem h
 simp only [prNames,List.mem_cons,Prod.mk.injEq,List.not_mem_nil,or_false] at hm
 rcases hm with ⟨rfl,rfl⟩ | ⟨rfl,rfl⟩ | ⟨rfl,rfl⟩ | ⟨rfl,rfl⟩ | ⟨rfl,rfl⟩ | ⟨rfl,rfl⟩<;>decide +kernel
theorem ty_bi {x:Str} {b:Ty} (h:tyNames.lookup x = some b):biOf x = some (.type b.name):=by
 have hm:=lookup_mem h
 simp only [tyNames,List.mem_cons,Prod.mk.injEq,List.not_mem_nil,or_false] at hm
 rcases hm with ⟨rfl,rfl⟩ | ⟨rfl,rfl⟩ | ⟨rfl,rfl⟩ | ⟨rfl,rfl⟩ | ⟨rfl,rfl⟩<;>decide +kernel
theorem Ren.tup_inv {φ:List Nat} {H:AH} {vs ws:List AV} (r:Ren φ H (.tup vs) (.tup ws)):Rens φ H vs ws:=by cases r;assumption
theorem Ren.fl_inv {φ:List Nat} {H:AH} {vs ws:List AV} (r:Ren φ H (.fl vs) (.fl ws)):Rens φ H vs ws:=by cases r;assumption
theorem Ren.dict_inv {φ:List Nat} {H:AH} {ks:List Str} {vs ws:List AV} (r:Ren φ H (.dict ks vs) (.dict ks ws)):Rens φ H vs ws:=by cases r;assumption
theorem Ren.obj_inv {φ:List Nat} {H:AH} {c:Addr} {ks:List Str} {vs ws:List AV} (r:Ren φ H (.obj c ks vs) (.obj c ks ws)):Rens φ H vs ws:=by cases r;assumption
theorem Ren.ref_inv {H:AH} {i j:Nat} (r:Ren [] H (.ref i) (.ref j)):False:=by cases r;rename_i h;simp at h
theorem Rens.cons_inv {φ:List Nat} {H:AH} {v w:AV} {vs ws:List AV} (r:Rens φ H (v::vs) (w::ws)):Ren φ H v w∧Rens φ H vs ws:=by cases r;constructor<;>assumption
theorem VRel.pure {S:Sx} {ρ:List Addr} {H:AH} {h:Heap} {v:AV} {x:Value} (V:VRel S ρ h v x):Ren [] H v v→VRel ⟨S.ad++ρ,S.prog,S.w⟩ [] h v x:=
 VRel.rec (motive_1:=fun v x _=>Ren [] H v v→VRel ⟨S.ad++ρ,S.prog,S.w⟩ [] h v x) (motive_2:=fun v x _=>Rens [] H v v→VRels ⟨S.ad++ρ,S.prog,S.w⟩ [] h v x)
  (fun _=>.none)
  (fun b _=>.bool b)
  (fun i t _=>.int i t)
  (fun x t _=>.str x t)
  (fun ha hs hi hv ih r=>.tup (fun hm=>nomatch hm) (fun hm=>(List.mem_append.mp hm).elim hs ha) hi (ih r.tup_inv))
  (fun ha hs hi hv ih r=>.fl (fun hm=>nomatch hm) (fun hm=>(List.mem_append.mp hm).elim hs ha) hi (ih r.fl_inv))
  (fun _ r=>r.ref_inv.elim)
  (fun hr ha hs hi _=>.rng hr (fun hm=>nomatch hm) (fun hm=>(List.mem_append.mp hm).elim hs ha) hi)
  (fun ha hs hm he hv ih r=>.dict (fun hm=>nomatch hm) (fun hm=>(List.mem_append.mp hm).elim hs ha) hm he (ih r.dict_inv))
  (fun ha hs hx _=>.exc (fun hm=>nomatch hm) (fun hm=>(List.mem_append.mp hm).elim hs ha) hx)
  (fun ha hs hd hs' hm he hv ih r=>.obj List.not_mem_nil (fun hm=>(List.mem_append.mp hm).elim hs ha) List.not_mem_nil (fun hm=>(List.mem_append.mp hm).elim hs' hd) hm he (ih r.obj_inv))
  (fun _=>.nil) (fun hv hr i1 i2 r=>.cons (i1 r.cons_inv.1) (i2 r.cons_inv.2)) V
theorem VRels.pure {S:Sx} {ρ:List Addr} {H:AH} {h:Heap} {v:List AV} {x:List Value} (V:VRels S ρ h v x):Rens [] H v v→VRels ⟨S.ad++ρ,S.prog,S.w⟩ [] h v x:=
 VRels.ind (M:=fun v x=>Rens [] H v v→VRels ⟨S.ad++ρ,S.prog,S.w⟩ [] h v x) (fun _=>.nil) (fun _ _ _ _ hv _ i2 r=>.cons (VRel.pure hv r.cons_inv.1) (i2 r.cons_inv.2)) V
theorem call_here {f:Nat} {vs:List AV} {xs:List Value} {x:Str} {a:Addr} (C:Cx P l A env names S ρ loc H s) (hE:ExOk P A X E s) (hx:P.nt.nm f = some x) (ha:P.ma x = some (.ref a)) (V:VRels S ρ s.heap vs xs) (h:CallP P l f vs H Q X) :
  wpAny (model P.prog P.w) A (call (.ref a) xs) (EP S ρ H s Q) E s:=by
 obtain ⟨vs',R,hj⟩:=h
 by_cases hv:vs' = vs
 ·subst hv
  refine wpAny_call (codeAny_mono (hj A s ⟨S.ad++ρ,S.prog,S.w⟩ xs x a C.aok C.gok hx ha C.pp C.pw (fun b hm=>(List.mem_append.mp hm).elim (C.sd b) C.sim.mem) (V.pure R)) fun r s' hr=>?_)
  cases r with
  | error e=>exact hE s.heap s.toks e s' (Kp.refl _) hr
  | ok fl=>
   obtain ⟨rv,h',tk,ρc,v,Hc,rfl,rfl,k,fr,Y,W,q0,q⟩:=hr
   have hA:∀ a,a ∉ ρc→a ∉ (S.ad++ρ)→a ∉ ρ∧a ∉ S.ad:=fun a _ h2=>⟨fun q=>h2 (List.mem_append_right _ q),fun q=>h2 (List.mem_append_left _ q)⟩
   have Z:=HSim.behind (Sc:=⟨S.ad++ρ,S.prog,S.w⟩) C.sim k fr C.sd rfl rfl Y (.inl hA)
   refine ⟨h',tk,ρc,v.shift H.length,Hc.map (AV.shifts H.length),rfl,k,fr,Z,?_,q⟩
   rw [← C.sim.len]
   exact VRel.behind (S:=S) (Sc:=⟨S.ad++ρ,S.prog,S.w⟩) rfl rfl hA (C.sim.kp k).noTuple (C.sim.kp k).listCls W
 ·refine wpAny_call (codeAny_mono (hj A s S xs x a C.aok C.gok hx ha C.pp C.pw C.sd (V.frz C.sim R)) fun r s' hr=>?_)
  cases r with
  | error e=>exact hE s.heap s.toks e s' (Kp.refl _) hr
  | ok fl=>
   obtain ⟨rv,h',tk,ρc,v,Hc,rfl,rfl,k,fr,Y,W,q0,q⟩:=hr
   have q1:=q0.resolve_left hv
   have Z:=HSim.behind (Sc:=S) C.sim k fr C.sd rfl rfl Y (.inr ⟨rfl,q1.2⟩)
   refine ⟨h',tk,ρc,v.shift H.length,Hc.map (AV.shifts H.length),rfl,k,fr,Z,?_,q⟩
   rw [← C.sim.len]
   exact VRel.behindN (C.sim.kp k).noTuple (C.sim.kp k).listCls W q1.1
theorem call_ok (ho:EnvOk env) {nt:NT} {n:Nat} {x:Str} {f:Nat} {p p':Pos} {es:List PySem.Expr} {cs:List CE} (hnt:P.nt = nt) (ih:∀ (e:PySem.Expr) (c:CE),compE nt n env.kindOf names e = some c→EvOk P l env names e c)
  (hg:isGlob env.kindOf x = true) (hf:idxOf x nt.fns = some f) (he:allSome (es.map (compE nt n env.kindOf names)) = some cs) (hne:cs.isEmpty = false):EvOk P l env names (.Call (.Name x p) es [] p') (.call f cs):=by
 intro A S ρ loc H s Q X E C hE h
 simp only [w_const,w_var,w_bin,w_neg,w_not,w_and,w_or,w_cmp,w_chain,w_idx,w_slc,w_tup,w_lst,w_dct,w_call,w_prim,w_isin,w_isown,w_meth,w_comp] at h
 have hx:P.nt.fns[f]? = some x:=by rw [hnt];exact idxOf_get hf
 obtain ⟨a,o,⟨ea,ea'⟩,eo,fd,efd⟩:=C.gok.fn f x hx
 unfold isGlob at hg
 simp at hg
 have hd:(x == ("__debug__" : Str)) = false:=by simpa using hg.2
 cases es with
 | nil=>cases he;simp at hne
 | cons e r=>
 obtain ⟨c0,t0,e1,e2,rfl⟩:=allSome_cons he
 refine Call_ (Calls.Name_function_global ho.1 hg.1 (Calls.loadGlobal_global (by rw [ho.2.1];exact C.gok.g) ea ?_) hd)
 refine callWith_def efd (EPs.then (args_ok ih (e::r) (c0::t0) he C hE h.2) fun xs h1 tk1 n1 vs G1 k1 f1 X1 V1 q1=>?_) (not_starred e1 r)
 refine ⟨k1 _ _ eo,wpAny_mono (call_here (C.kp (tk:=tk1) k1 f1 X1) (hE.kp k1) (NT.nm_of hx) ea' V1 q1) (fun z s₂ hz=>EP.after k1 f1 hz) fun _ _ y=>y⟩
theorem prim_ok (ho:EnvOk env) {nt:NT} {n:Nat} {x:Str} {b:Pr} {p p':Pos} {es:List PySem.Expr} {cs:List CE} (ih:∀ (e:PySem.Expr) (c:CE),compE nt n env.kindOf names e = some c→EvOk P l env names e c)
  (hg:isGlob env.kindOf x = true) (hf:prNames.lookup x = some b) (he:allSome (es.map (compE nt n env.kindOf names)) = some cs) (hne:cs.isEmpty = false):EvOk P l env names (.Call (.Name x p) es [] p') (.prim b cs):=by
 intro A S ρ loc H s Q X E C hE h
 simp only [w_const,w_var,w_bin,w_neg,w_not,w_and,w_or,w_cmp,w_chain,w_idx,w_slc,w_tup,w_lst,w_dct,w_call,w_prim,w_isin,w_isown,w_meth,w_comp] at h
 cases es with
 | nil=>cases he;simp at hne
 | cons e r=>
 obtain ⟨c0,t0,e1,e2,rfl⟩:=allSome_cons he
 refine Call_ (bi_ok ho C.gok hg (pr_bi hf) ?_)
 have fin:wpAny (model P.prog P.w) A (spliced (backTo p' (starEach (e::r) env))) (fun vs s₁=>wpAny (model P.prog P.w) A (call b.val vs) (EP S ρ H s Q) E s₁) E s:=by
  refine EPs.then (args_ok ih (e::r) (c0::t0) he C hE h.2) fun xs h1 tk1 n1 vs G1 k1 f1 X1 V1 q1=>?_
  have C1:=C.kp (tk:=tk1) k1 f1 X1
  exact wpAny_mono (opPrim_ok b (C.aok.1 h.1) X1 C1.sd V1 q1) (fun z s₂ hz=>EP.after k1 f1 hz) fun _ _ y=>y
 have hp:=star_any (env:=env) (pos:=p') r t0 e2
 cases b with
 | len=>exact callWith_builtin1 fin (not_starred e1 r) hp
 | all=>exact callWith_builtin1 fin (not_starred e1 r) hp
 | min=>exact callWith_builtin1 fin (not_starred e1 r) hp
 | int=>exact PyProof.Rows.callWith_type1 fin (not_starred e1 r) hp
 | list=>exact PyProof.Rows.callWith_type1 fin (not_starred e1 r) hp
 | range=>exact PyProof.Rows.callWith_type1 fin (not_starred e1 r) hp
theorem isin_ok (ho:EnvOk env) {t:Str} {ty:Ty} {p p' p'':Pos} {e:PySem.Expr} {c:CE} (ie:EvOk P l env names e c) (hs:∀ rest,starEach (e::rest) env = (false,eval e env)::starEach rest env)
  (hg:isGlob env.kindOf ("isinstance" : Str) = true) (hg':isGlob env.kindOf t = true) (hf:tyNames.lookup t = some ty):EvOk P l env names (.Call (.Name "isinstance" p) [e,.Name t p''] [] p') (.isin ty c):=by
 intro A S ρ loc H s Q X E C hE h
 simp only [w_const,w_var,w_bin,w_neg,w_not,w_and,w_or,w_cmp,w_chain,w_idx,w_slc,w_tup,w_lst,w_dct,w_call,w_prim,w_isin,w_isown,w_meth,w_comp] at h
 refine Call_ (bi_ok (v:=.builtin "isinstance") ho C.gok hg (by decide +kernel) (callWith_builtin1 ?_ (hs _) rfl))
 refine args_cons (EP.then (ie A S ρ loc H s _ X E C hE h) fun x h1 tk1 n1 v1 G1 k1 f1 X1 V1 qz=>?_) (hs _)
 obtain ⟨q0,q1⟩:=offRng_of qz
 have G:=(C.kp (tk:=tk1) k1 f1 X1).gok
 have fin:=wpAny_mono (isinst_ok (prog:=P.prog) (w:=P.w) (A:=A) (E:=E) (s:={ s with heap:=h1,toks:=tk1 }) ty X1 V1 q1 q0) (fun z s₂ hz=>EP.after (s:=s) (Q:=Q) k1 f1 hz) fun _ _ y=>y
 generalize { s with heap:=h1,toks:=tk1 } = s1 at G fin ⊢
 exact args_cons (bi_ok ho G hg' (ty_bi hf) (args_nil fin)) rfl
end
open PySem PyProof.Rows PySem.SeqAt
section
variable {prog:Program} {w:World} {A:Around} {S:Sx} {ρ:List Addr} {H:AH} {s:Shared} {E:Value→Shared→Prop} {v:AV} {x:Value}
noncomputable def ownIts:List String:=["enumerate","zip","dict_itemiterator","dict_reverseitemiterator","odict_iterator","itertools.zip_longest","itertools.pairwise"]
noncomputable def PlainIt (o:Obj):Prop:=∃ n,o.cls = .type n∧ownIts.contains n = false
theorem letGo_ok {target:PySem.Expr} {I:Addr} {y:Value} {o:Obj} {Q:Unit→Shared→Prop} (h:s.heap.get? I = some o) (p:PlainIt o) (hQ:Q () s):wpAny (model prog w) A (letOwnedTupleGo target (.ref I) y) Q E s:=by
 obtain ⟨n,hc,hn⟩:=p
 have fin:wpAny (model prog w) A (do let o ← load I;match o.cls,o.data with
   | .type n,.fields vs=>if ownIts.contains n && vs[0]? == some (rawInt (match y with | .ref a=>a | _=>0)) then do rule "for.unpacks-the-owned-tuple";updateField I 0 .none
   | _,_=>pure ()) Q E s:=by
  refine wpAny_bind (wpAny_load h ?_)
  rw [hc]
  cases o.data<;>first | exact wpAny_pure hQ | skip
  dsimp only
  rw [hn,Bool.false_and,if_neg Bool.false_ne_true]
  exact wpAny_pure hQ
 cases target<;>first | exact wpAny_pure hQ | skip
 all_goals
  cases y<;>first | exact wpAny_pure hQ | exact fin
theorem iter_walk {its:List AV} {QQ:Value→Shared→Prop} (hh:A.handled = none) (X:HSim S ρ H s.heap) (V:VRel S ρ s.heap v x) (e:iterOfC H v = some its)
  (h:∀ (I:Addr) (fp wr:List Addr) (Pp:Nat→Value→Prop) (St:Nat→Heap→Prop) (h₂:Heap),Walks prog w A I fp wr its.length Pp St→St 0 h₂→Kp s.heap h₂→(∀ b ∈ wr,b = I)→s.heap.get? I = none→(∀ b ∈ fp,b < h₂.objs.size)→(∀ b ∈ fp,b = I ∨ x = .ref b) →
   (∀ i y,i < its.length→Pp i y→∃ u,its[i]? = some u∧VRel S ρ s.heap u y)→(∀ i h,St i h→∃ o,h.get? I = some o∧PlainIt o)→QQ (.ref I) { s with heap:=h₂ }):wpAny (model prog w) A (pyIter x) QQ E s:=by
 have seqc:v.seq? H = some its→wpAny (model prog w) A (pyIter x) QQ E s:=fun e1=>by
  obtain ⟨l,items,rfl,hl,vv⟩:=seq_real X V e1
  have e3:=vv.length
  simp only [Array.length_toList] at e3
  have hlt:l < s.heap.objs.size:=by
   rcases hl with ⟨n,hl⟩ | ⟨n,hl⟩<;>exact Heap.lt_size hl
  have hitem:∀ i y,i < its.length→items[i]? = some y→∃ u,its[i]? = some u∧VRel S ρ s.heap u y:=fun i y _ hy=>vv.getR (by simpa using hy)
  rcases hl with hl | hl
  ·refine wpAny_pyIter_list (PL.isList hl) ?_
   have W:=Walks.list (prog:=prog) (w:=w) hh s.heap.objs.size l (Nat.ne_of_lt hlt) items
   rw [← e3] at W
   refine h _ _ _ _ _ _ W ⟨⟨_,Heap.get?_push_size _ rfl,rfl,rfl⟩,(PL.isList hl).at fun o e=>Heap.get?_push_of_some _ e⟩ (push_kp _ _) (fun b hb=>by simpa using hb) (size_none _) (fun b hb=>?_) (fun b hb=>?_) hitem (fun i h st=>by obtain ⟨o,ho,hc,_⟩:=st.1;exact ⟨o,ho,_,hc,by decide +kernel⟩)
   ·simp only [List.mem_cons,List.not_mem_nil,or_false] at hb
    rcases hb with rfl | rfl
    ·simp
    ·simp;exact Nat.lt_succ_of_lt hlt
   ·simp only [List.mem_cons,List.not_mem_nil,or_false] at hb
    rcases hb with rfl | rfl
    ·exact .inl rfl
    ·exact .inr rfl
  ·refine wpAny_pyIter_tuple hl.isTuple ?_
   have W:=Walks.tuple (prog:=prog) (w:=w) hh s.heap.objs.size l (Nat.ne_of_lt hlt) items
   rw [← e3] at W
   refine h _ _ _ _ _ _ W ⟨⟨_,Heap.get?_push_size _ rfl,rfl,rfl⟩,hl.isTuple.at fun o e=>Heap.get?_push_of_some _ e⟩ (push_kp _ _) (fun b hb=>by simpa using hb) (size_none _) (fun b hb=>?_) (fun b hb=>?_) hitem (fun i h st=>by obtain ⟨o,ho,hc,_⟩:=st.1;exact ⟨o,ho,_,hc,by decide +kernel⟩)
   ·simp only [List.mem_cons,List.not_mem_nil,or_false] at hb
    rcases hb with rfl | rfl
    ·simp
    ·simp;exact Nat.lt_succ_of_lt hlt
   ·simp only [List.mem_cons,List.not_mem_nil,or_false] at hb
    rcases hb with rfl | rfl
    ·exact .inl rfl
    ·exact .inr rfl
 cases v with
 | rng i j k=>
  obtain ⟨hr,ha,hs0,hi⟩:=V.iRng
  replace e:(rngList i j k).map AV.int = its:=Option.some.inj e
  have hs:=rng_size hr
  refine wpAny_pyIter_range hi (rng_small hr) ?_
  have W:=Walks.range (prog:=prog) (w:=w) hh s.heap.objs.size i k (Builtin.Range.rangeSize i j k).toNat
  have el:its.length = (Builtin.Range.rangeSize i j k).toNat:=by rw [← e];simp [rngList]
  rw [← el] at W
  refine h _ _ _ _ _ _ W ?_ (push_kp _ _) (fun b hb=>by simpa using hb) (size_none _) (fun b hb=>by simp at hb;subst hb;simp) (fun b hb=>.inl (by simpa using hb)) (fun n y hn hy=>?_) (fun i h st=>⟨_,st,_,rfl,by decide +kernel⟩)
  ·have e0:i + ((0:Nat):Int) * k = i:=by simp
   have e1:((its.length:Nat):Int) - ((0:Nat):Int) = Builtin.Range.rangeSize i j k:=by rw [el];(first | lia | omega)
   rw [e0,e1]
   exact Heap.get?_push_size _ rfl
  ·obtain ⟨t',rfl⟩:=hy
   refine ⟨.int (i + (n:Int) * k),?_,.int _ _⟩
   rw [← e]
   rw [el] at hn
   simp [rngList,hn]
 | tup _=>exact seqc e
 | fl _=>exact seqc e
 | ref _=>exact seqc e
 | _=>exact none_some e
theorem VRel.up {Sc:Sx} (hp:Sc.prog = S.prog) (hw:Sc.w = S.w) {h:Heap} (hA:∀ a,a ∉ Sc.ad→a ∉ ρ∧a ∉ S.ad) (hT:∀ a items,a ∈ ρ→¬ PT h a items) (hR:∀ a o,a ∈ ρ→h.get? a = some o→o.cls = .type "list"∧∃ xs n,o.data = .seq xs n) {v:AV} {x:Value} (V:VRel Sc [] h v x):VRel S ρ h v x:=
 VRel.rec (motive_1:=fun v x _=>VRel S ρ h v x) (motive_2:=fun v x _=>VRels S ρ h v x)
  (.none)
  (fun b=>.bool b)
  (fun i t=>.int i t)
  (fun x t=>.str x t)
  (fun _ hs hi hv ih=>.tup (fun q=>hT _ _ q hi) (hA _ hs).2 hi ih)
  (fun _ hs hi hv ih=>.fl (hA _ hs).1 (hA _ hs).2 hi ih)
  (fun hi=>by simp at hi)
  (fun hr _ hs hi=>.rng hr (fun q=>by have:=(hR _ _ q hi).1;simp at this) (hA _ hs).2 hi)
  (fun _ hs hm he hv ih=>.dict (hA _ hs).1 (hA _ hs).2 (by rw [← hp,← hw];exact hm) he ih)
  (fun _ hs hx=>.exc (hA _ hs).1 (hA _ hs).2 hx)
  (fun _ hs _ hs' hm he hv ih=>.obj (hA _ hs).1 (hA _ hs).2 (hA _ hs').1 (hA _ hs').2 hm he ih)
  .nil (fun _ _ i1 i2=>.cons i1 i2) V
theorem VRels.up {Sc:Sx} (hp:Sc.prog = S.prog) (hw:Sc.w = S.w) {h:Heap} (hA:∀ a,a ∉ Sc.ad→a ∉ ρ∧a ∉ S.ad) (hT:∀ a items,a ∈ ρ→¬ PT h a items) (hR:∀ a o,a ∈ ρ→h.get? a = some o→o.cls = .type "list"∧∃ xs n,o.data = .seq xs n) {v:List AV} {x:List Value} (V:VRels Sc [] h v x):VRels S ρ h v x:=
 VRels.ind (M:=fun v x=>VRels S ρ h v x) .nil (fun _ _ _ _ v _ i2=>.cons (VRel.up hp hw hA hT hR v) i2) V
theorem VRel.avoid {x':List Addr} {h:Heap} (hx:∀ b ∈ x',h.get? b = Option.none) {v:AV} {x:Value} (V:VRel S ρ h v x):VRel ⟨S.ad++x',S.prog,S.w⟩ ρ h v x:=
 VRel.rec (motive_1:=fun v x _=>VRel ⟨S.ad++x',S.prog,S.w⟩ ρ h v x) (motive_2:=fun v x _=>VRels ⟨S.ad++x',S.prog,S.w⟩ ρ h v x)
  (.none)
  (fun b=>.bool b)
  (fun i t=>.int i t)
  (fun x t=>.str x t)
  (fun ha hs hi hv ih=>.tup ha (fun hm=>(List.mem_append.mp hm).elim hs fun q=>by obtain ⟨o,ho⟩:=hi.get;rw [hx _ q] at ho;cases ho) hi ih)
  (fun ha hs hi hv ih=>.fl ha (fun hm=>(List.mem_append.mp hm).elim hs fun q=>by obtain ⟨o,ho⟩:=PL.get hi;rw [hx _ q] at ho;cases ho) hi ih)
  (fun hi=>.ref hi)
  (fun hr ha hs hi=>.rng hr ha (fun hm=>(List.mem_append.mp hm).elim hs fun q=>by have ho:=hi;rw [IsRange,hx _ q] at ho;cases ho) hi)
  (fun ha hs hm he hv ih=>.dict ha (fun hm'=>(List.mem_append.mp hm').elim hs fun q=>by obtain ⟨o,ho⟩:=DMap.get hm;rw [hx _ q] at ho;cases ho) hm he ih)
  (fun ha hs hi=>.exc ha (fun hm=>(List.mem_append.mp hm).elim hs fun q=>by obtain ⟨o,ho⟩:=hi.get;rw [hx _ q] at ho;cases ho) hi)
  (fun ha hs hd hs' hm he hv ih=>.obj ha (fun hm'=>(List.mem_append.mp hm').elim hs fun q=>by obtain ⟨o,ho⟩:=hm.get;rw [hx _ q] at ho;cases ho) hd (fun hm'=>(List.mem_append.mp hm').elim hs' fun q=>by obtain ⟨o,ho⟩:=hm.getD;rw [hx _ q] at ho;cases ho) hm he ih)
  .nil (fun _ _ i1 i2=>.cons i1 i2) V
theorem VRels.avoid {x':List Addr} {h:Heap} (hx:∀ b ∈ x',h.get? b = Option.none) {v:List AV} {x:List Value} (V:VRels S ρ h v x):VRels ⟨S.ad++x',S.prog,S.w⟩ ρ h v x:=
 VRels.ind (M:=fun v x=>VRels ⟨S.ad++x',S.prog,S.w⟩ ρ h v x) .nil (fun _ _ _ _ v _ i2=>.cons (VRel.avoid hx v) i2) V
theorem VRel.sub {S':Sx} (hp:S'.prog = S.prog) (hw:S'.w = S.w) (hs:∀ b ∈ S.ad,b ∈ S'.ad) {h:Heap} {v:AV} {x:Value} (V:VRel S' ρ h v x):VRel S ρ h v x:=
 VRel.rec (motive_1:=fun v x _=>VRel S ρ h v x) (motive_2:=fun v x _=>VRels S ρ h v x)
  (.none)
  (fun b=>.bool b)
  (fun i t=>.int i t)
  (fun x t=>.str x t)
  (fun ha hn hi hv ih=>.tup ha (fun q=>hn (hs _ q)) hi ih)
  (fun ha hn hi hv ih=>.fl ha (fun q=>hn (hs _ q)) hi ih)
  (fun hi=>.ref hi)
  (fun hr ha hn hi=>.rng hr ha (fun q=>hn (hs _ q)) hi)
  (fun ha hn hm he hv ih=>.dict ha (fun q=>hn (hs _ q)) (by rw [← hp,← hw];exact hm) he ih)
  (fun ha hn hi=>.exc ha (fun q=>hn (hs _ q)) hi)
  (fun ha hn hd hn' hm he hv ih=>.obj ha (fun q=>hn (hs _ q)) hd (fun q=>hn' (hs _ q)) hm he ih)
  .nil (fun _ _ i1 i2=>.cons i1 i2) V
theorem VRels.sub {S':Sx} (hp:S'.prog = S.prog) (hw:S'.w = S.w) (hs:∀ b ∈ S.ad,b ∈ S'.ad) {h:Heap} {v:List AV} {x:List Value} (V:VRels S' ρ h v x):VRels S ρ h v x:=
 VRels.ind (M:=fun v x=>VRels S ρ h v x) .nil (fun _ _ _ _ v _ i2=>.cons (VRel.sub hp hw hs v) i2) V
theorem VRel.chg {h h':Heap} (hk:∀ b o,b ∉ S.ad→h.get? b = some o→h'.get? b = some o) {v:AV} {x:Value} (V:VRel S ρ h v x):VRel S ρ h' v x:=
 VRel.rec (motive_1:=fun v x _=>VRel S ρ h' v x) (motive_2:=fun v x _=>VRels S ρ h' v x)
  (.none)
  (fun b=>.bool b)
  (fun i t=>.int i t)
  (fun x t=>.str x t)
  (fun ha hn hi hv ih=>.tup ha hn (hi.at fun o e=>hk _ o hn e) ih)
  (fun ha hn hi hv ih=>.fl ha hn (PlainList.at' hi fun o e=>hk _ o hn e) ih)
  (fun hi=>.ref hi)
  (fun hr ha hn hi=>.rng hr ha hn (hk _ _ hn hi))
  (fun ha hn hm he hv ih=>.dict ha hn (DMap.at hm fun o e=>hk _ o hn e) he ih)
  (fun ha hn hi=>.exc ha hn (hi.at fun o e=>hk _ o hn e))
  (fun ha hn hd hn' hm he hv ih=>.obj ha hn hd hn' (hm.at (fun o e=>hk _ o hn e) fun o e=>hk _ o hn' e) he ih)
  .nil (fun _ _ i1 i2=>.cons i1 i2) V
theorem VRels.chg {h h':Heap} (hk:∀ b o,b ∉ S.ad→h.get? b = some o→h'.get? b = some o) {v:List AV} {x:List Value} (V:VRels S ρ h v x):VRels S ρ h' v x:=
 VRels.ind (M:=fun v x=>VRels S ρ h' v x) .nil (fun _ _ _ _ v _ i2=>.cons (VRel.chg hk v) i2) V
theorem VRel.own {S':Sx} {e:List Addr} (hp:S'.prog = S.prog) (hw:S'.w = S.w) (hs:∀ b ∈ S.ad,b ∈ S'.ad) (he:∀ b ∈ e,b ∈ S'.ad) {h:Heap} {v:AV} {x:Value} (V:VRel S' ρ h v x):VRel S (ρ++e) h v x:=
 VRel.rec (motive_1:=fun v x _=>VRel S (ρ++e) h v x) (motive_2:=fun v x _=>VRels S (ρ++e) h v x)
  (.none)
  (fun b=>.bool b)
  (fun i t=>.int i t)
  (fun x t=>.str x t)
  (fun ha hn hi hv ih=>.tup (fun q=>(List.mem_append.mp q).elim ha fun q=>hn (he _ q)) (fun q=>hn (hs _ q)) hi ih)
  (fun ha hn hi hv ih=>.fl (fun q=>(List.mem_append.mp q).elim ha fun q=>hn (he _ q)) (fun q=>hn (hs _ q)) hi ih)
  (fun hi=>.ref (by rw [List.getElem?_append_left];exact hi;exact (List.getElem?_eq_some_iff.mp hi).1))
  (fun hr ha hn hi=>.rng hr (fun q=>(List.mem_append.mp q).elim ha fun q=>hn (he _ q)) (fun q=>hn (hs _ q)) hi)
  (fun ha hn hm hf hv ih=>.dict (fun q=>(List.mem_append.mp q).elim ha fun q=>hn (he _ q)) (fun q=>hn (hs _ q)) (by rw [← hp,← hw];exact hm) hf ih)
  (fun ha hn hi=>.exc (fun q=>(List.mem_append.mp q).elim ha fun q=>hn (he _ q)) (fun q=>hn (hs _ q)) hi)
  (fun ha hn hd hn' hm hf hv ih=>.obj (fun q=>(List.mem_append.mp q).elim ha fun q=>hn (he _ q)) (fun q=>hn (hs _ q)) (fun q=>(List.mem_append.mp q).elim hd fun q=>hn' (he _ q)) (fun q=>hn' (hs _ q)) hm hf ih)
  .nil (fun _ _ i1 i2=>.cons i1 i2) V
theorem VRels.own {S':Sx} {e:List Addr} (hp:S'.prog = S.prog) (hw:S'.w = S.w) (hs:∀ b ∈ S.ad,b ∈ S'.ad) (he:∀ b ∈ e,b ∈ S'.ad) {h:Heap} {v:List AV} {x:List Value} (V:VRels S' ρ h v x):VRels S (ρ++e) h v x:=
 VRels.ind (M:=fun v x=>VRels S (ρ++e) h v x) .nil (fun _ _ _ _ v _ i2=>.cons (VRel.own hp hw hs he v) i2) V
theorem HSim.avoid {x':List Addr} {h:Heap} (X:HSim S ρ H h) (hx:∀ b ∈ x',h.get? b = Option.none):HSim ⟨S.ad++x',S.prog,S.w⟩ ρ H h where
 len:=X.len
 nodup:=X.nodup
 off:=fun a ha hm=>(List.mem_append.mp hm).elim (X.off a ha) fun q=>by obtain ⟨o,ho⟩:=X.mem ha;rw [hx _ q] at ho;cases ho
 obj:=fun i vs e=>by
  obtain ⟨a,items,e1,p,v⟩:=X.obj i vs e
  exact ⟨a,items,e1,p,v.avoid hx⟩
theorem closure_ok {env:Env} {scope:Scope} (hc:∀ x ∈ freeNames scope,∃ c,env.cells.lookup x = some c):∃ cl,closureFor scope env = pure cl∧∀ x ∈ freeNames scope,cl.lookup x = env.cells.lookup x:=by
 have key:∀ (names:List (Str × NameKind)) (acc:List (Str × Addr)),(∀ p ∈ names,p.2 = .free→∃ c,env.cells.lookup p.1 = some c) →
   (∀ y,(acc.lookup y).isSome = true→acc.lookup y = env.cells.lookup y) →
   ∃ cl,(forIn names acc fun (x:Str × NameKind) r=>(do
    if x.2 == .free then pure (ForInStep.yield ((x.1,← cellOf env x.1)::r)) else pure (ForInStep.yield r):Sem _)) = pure cl ∧
    (∀ y,(cl.lookup y).isSome = true→cl.lookup y = env.cells.lookup y)∧(∀ p ∈ names,p.2 = .free→(cl.lookup p.1).isSome = true)∧(∀ y,(acc.lookup y).isSome = true→(cl.lookup y).isSome = true):=by
  intro names
  induction names with
  | nil=>intro acc _ ha;exact ⟨acc,rfl,ha,(fun _ hm=>by cases hm),fun _ h=>h⟩
  | cons p r ih=>
   intro acc hn ha
   rw [List.forIn_cons]
   by_cases hf:p.2 = .free
   ·obtain ⟨c,ec⟩:=hn p (.head _) hf
    have e1:(p.2 == NameKind.free) = true:=by simp [hf]
    have e2:cellOf env p.1 = pure c:=by unfold cellOf;rw [ec]
    obtain ⟨cl,q1,q2,q3,q4⟩:=ih ((p.1,c)::acc) (fun q hq=>hn q (.tail _ hq)) (fun y hy=>by
     rw [List.lookup_cons] at hy ⊢
     split
     ·rename_i hyp;simp at hyp;rw [hyp,ec]
     ·rename_i hyp;rw [hyp] at hy;exact ha y hy)
    refine ⟨cl,?_,q2,?_,?_⟩
    ·rw [if_pos e1,e2];exact q1
    ·intro q hq hqf
     rcases List.mem_cons.mp hq with rfl | hq
     ·exact q4 _ (by rw [List.lookup_cons];simp)
     ·exact q3 q hq hqf
    ·intro y hy
     exact q4 y (by rw [List.lookup_cons];split<;>simp_all)
   ·have e1:¬ (p.2 == NameKind.free) = true:=by simpa using hf
    obtain ⟨cl,q1,q2,q3,q4⟩:=ih acc (fun q hq=>hn q (.tail _ hq)) ha
    refine ⟨cl,?_,q2,?_,q4⟩
    ·rw [if_neg e1];exact q1
    ·intro q hq hqf
     rcases List.mem_cons.mp hq with rfl | hq
     ·exact absurd hqf hf
     ·exact q3 q hq hqf
 have hmem:∀ p ∈ scope.names,p.2 = .free→p.1 ∈ freeNames scope:=fun p hp hf=>by
  unfold freeNames
  exact List.mem_map.mpr ⟨p,List.mem_filter.mpr ⟨hp,by simp [hf]⟩,rfl⟩
 obtain ⟨cl,q1,q2,q3,_⟩:=key scope.names [] (fun p hp hf=>hc _ (hmem p hp hf)) (fun y hy=>by simp at hy)
 refine ⟨cl,?_,fun x hx=>?_⟩
 ·unfold closureFor
  show (forIn scope.names ([]:List (Str × Addr)) _ >>= fun r=>pure r) = _
  refine Eq.trans (congrArg (· >>= fun r=>pure r) (Eq.trans ?_ q1)) rfl
  rfl
 ·unfold freeNames at hx
  obtain ⟨p,hp,rfl⟩:=List.mem_map.mp hx
  have:=List.mem_filter.mp hp
  exact q2 _ (q3 p this.1 (by simpa using this.2))
end
open PySem PyProof.Rows PySem.SeqAt
theorem relabel_kd (scope:Scope) (env:Env) (hk:env.scope.kind = .function) (y:Str):(relabel scope env).names.lookup y = compKd scope env.kindOf y:=by
 unfold relabel compKd
 show List.lookup y (scope.names.map _) = _
 generalize scope.names = l
 induction l with
 | nil=>rfl
 | cons p r ih=>
  obtain ⟨n,k⟩:=p
  rw [List.map_cons]
  by_cases hy:y = n
  ·subst hy
   simp only [List.lookup_cons,beq_self_eq_true]
   by_cases hf:k = .free
   ·subst hf
    by_cases hc:env.kindOf y = some .cell
    ·simp [hk,hc,List.lookup_cons]
    ·simp [hk,hc,List.lookup_cons]
   ·have:(k == NameKind.free) = false:=by simpa using hf
    simp [this,List.lookup_cons]
    cases k<;>first | rfl | exact absurd rfl hf
  ·have hyb:(y == n) = false:=by simpa using hy
   have e1:∀ (q:Str × NameKind) (L:List (Str × NameKind)),(y == q.1) = false→List.lookup y (q::L) = List.lookup y L:=fun q L hq=>by
    obtain ⟨q1,q2⟩:=q
    rw [List.lookup_cons,hq]
   rw [e1 _ _ (by dsimp only;split<;>exact hyb),ih,List.lookup_cons,hyb]
theorem compEnv_kd (scope:Scope) (env:Env) (cl:List (Str × Addr)) (C:Addr) (hk:env.scope.kind = .function):(compEnvC scope cl C env).kindOf = compKd scope env.kindOf:=funext fun y=>relabel_kd scope env hk y
section
variable {P:PC} {l:Lv} {A:Around} {env:Env} {names:List Str} {S:Sx} {ρ:List Addr} {loc:List (Option AV)} {H:AH} {s:Shared} {X:Str→Prop} {E:Value→Shared→Prop}
theorem compEnv_ok (ho:EnvOk env) {scope:Scope} {cl:List (Str × Addr)} {C:Addr} (hk:scope.kind = .function) (hcell:∀ y ∈ scope.names,y.2 ≠ .cell) (hcl:∀ x ∈ freeNames scope,cl.lookup x = env.cells.lookup x):EnvOk (compEnvC scope cl C env):=by
 refine ⟨by simp [compEnvC,relabel,hk],ho.2.1,ho.2.2.1,fun x hx=>?_⟩
 rw [compEnv_kd _ _ _ _ ho.1] at hx
 unfold compKd at hx
 split at hx
 ·rename_i hf
  have hm:x ∈ freeNames scope:=by
   unfold freeNames
   exact List.mem_map.mpr ⟨(x,.free),List.mem_filter.mpr ⟨lookup_mem hf,rfl⟩,rfl⟩
  split at hx
  ·rename_i hc
   obtain ⟨c,ec⟩:=ho.2.2.2 x hc
   exact ⟨c,by show cl.lookup x = some c;rw [hcl x hm,ec]⟩
  ·cases hx
 ·exact absurd rfl (hcell (x,.cell) (lookup_mem hx))
theorem comp_cx (C:Cx P l A env names S ρ loc H s) (ho:EnvOk env) {scope:Scope} {cl:List (Str × Addr)} {Cc:Addr} {h':Heap} {tk:Nat} {cap:List Nat} {base:List (Option AV)} {txs:List Str} {us:List AV} {m:Str→Option Value} {Sc:Sx}
  (hcl:∀ x ∈ freeNames scope,cl.lookup x = env.cells.lookup x) (hcell:∀ x ∈ freeNames scope,env.kindOf x = some .cell∧scope.names.lookup x = some .free) (hcap:allSome ((freeNames scope).map fun x=>idxOf x names) = some cap) (hx:∀ t ∈ txs,scope.names.lookup t = some .local)
  (hbase:CapRel H loc cap base) (hk:Kp s.heap h') (hn:h'.Ns Cc m) (hm:∀ (i:Nat) (t:Str) (u:AV),txs[i]? = some t→us[i]? = some u→∃ y,m t = some y∧VRel Sc [] h' u y)
  (hp:Sc.prog = S.prog) (hw:Sc.w = S.w) (hsd:SD Sc h')
  (hv:∀ i v v' z,loc[i]?.join = some v→Ren [] H v v'→VRel S ρ s.heap v z→base = base→i ∈ cap→(∃ j:Nat,cap[j]? = some i∧base[j]?.join = some v')→VRel Sc [] h' v' z) :
  Cx P l A (compEnvC scope cl Cc env) (freeNames scope++txs) Sc [] (base++us.map some) [] { s with heap:=h',toks:=tk } where
 aok:=C.aok
 gok:=C.gok.kp hk
 pp:=hp.trans C.pp
 pw:=hw.trans C.pw
 sd:=hsd
 sim:=⟨rfl,List.nodup_nil,fun _ hm=>(by cases hm),fun i vs e=>by simp at e⟩
 loc:=by
  have kd:=compEnv_kd scope env cl Cc ho.1
  have hlen:∀ {c:List Nat} {b:List (Option AV)},CapRel H loc c b→b.length = c.length:=by
   intro c b hb
   induction hb with
   | nil=>rfl
   | cons _ _ _ ih=>simp [ih]
   | skip _ ih=>simp [ih]
  have hlen2:∀ {fs:List Str} {c:List Nat},allSome (fs.map fun x=>idxOf x names) = some c→c.length = fs.length:=by
   intro fs
   induction fs with
   | nil=>intro c h;cases h;rfl
   | cons f r ih=>intro c h;obtain ⟨a,t,_,e2,rfl⟩:=allSome_cons h;simp [ih e2]
  have capGet:∀ {fs:List Str} {c:List Nat},allSome (fs.map fun x=>idxOf x names) = some c→∀ (j i:Nat),c[j]? = some i→∃ x,fs[j]? = some x∧idxOf x names = some i:=by
   intro fs
   induction fs with
   | nil=>intro c h j i e;cases h;simp at e
   | cons f r ih=>
    intro c h j i e
    obtain ⟨a,t,e1,e2,rfl⟩:=allSome_cons h
    cases j with
    | zero=>simp at e;subst e;exact ⟨f,rfl,e1⟩
    | succ j=>simpa using ih e2 j i (by simpa using e)
  have baseGet:∀ {c:List Nat} {b:List (Option AV)},CapRel H loc c b→∀ (j:Nat) (v':AV),b[j]?.join = some v'→∃ i v,c[j]? = some i∧loc[i]?.join = some v∧Ren [] H v v':=by
   intro c b hb
   induction hb with
   | nil=>intro j v' e;simp at e
   | cons e0 r0 _ ih=>
    intro j v' e
    cases j with
    | zero=>simp at e;subst e;exact ⟨_,_,rfl,e0,r0⟩
    | succ j=>simpa using ih j v' (by simpa using e)
   | skip _ ih=>
    intro j v' e
    cases j with
    | zero=>simp at e
    | succ j=>simpa using ih j v' (by simpa using e)
  intro j xx v' en e
  have hl1:=hlen hbase
  have hl2:=hlen2 hcap
  by_cases hj:j < base.length
  ·rw [List.getElem?_append_left hj] at e
   obtain ⟨i,v,e1,e2,r⟩:=baseGet hbase j v' e
   obtain ⟨x,e3,e4⟩:=capGet hcap j i e1
   obtain ⟨z,e6,e7⟩:=C.loc i x v (idxOf_get e4) e2
   rw [List.getElem?_append_left (by (first | lia | omega)),e3] at en
   have en':xx = x:=by simpa using en.symm
   rw [en']
   have hmem:x ∈ freeNames scope:=List.mem_of_getElem? e3
   refine ⟨z,?_,hv i v v' z e2 r e7 rfl (List.mem_of_getElem? e1) ⟨j,e1,e⟩⟩
   ·have hcx:=hcell x hmem
    rcases e6 with ⟨k1,_⟩ | ⟨k1,c,k2,k3⟩
    ·rw [hcx.1] at k1;cases k1
    ·refine .inr ⟨?_,c,?_,k3.keeps hk⟩
     ·rw [kd];unfold compKd;rw [hcx.2];simp [hcx.1]
     ·show cl.lookup x = some c
      rw [hcl x hmem,k2]
  ·rw [List.getElem?_append_right (Nat.le_of_not_lt hj)] at e
   rw [List.getElem?_map] at e
   have e':us[j - base.length]? = some v':=by
    cases q:us[j - base.length]? with
    | none=>rw [q] at e;cases e
    | some u=>rw [q] at e;cases e;rfl
   rw [List.getElem?_append_right (by (first | lia | omega)),← hl2,← hl1] at en
   obtain ⟨y,e1,e2⟩:=hm _ _ _ en e'
   refine ⟨y,.inl ⟨?_,m,hn,e1⟩,e2⟩
   rw [kd];unfold compKd;rw [hx xx (List.mem_of_getElem? en)]
end
section
variable {prog:Program} {w:World} {A:Around} {S:Sx} {ρ:List Addr} {H:AH} {s:Shared} {E:Value→Shared→Prop} {v:AV} {x:Value}
theorem draw_walk {I:Addr} {fp wr:List Addr} {n:Nat} {Pp:Nat→Value→Prop} {St:Nat→Heap→Prop} (W:Walks prog w A I fp wr n Pp St):∀ (k i:Nat) (s:Shared) (Q:List Value→Shared→Prop),St i s.heap→i + k ≤ n →
  (∀ ys h' tk,St (i + k) h'→(∀ j y,ys[j]? = some y→Pp (i + j) y)→ys.length = k→(∀ b o,b ∉ wr→s.heap.get? b = some o→h'.get? b = some o)→Q ys { s with heap:=h',toks:=tk })→wpAny (model prog w) A (draw (.ref I) k) Q E s
 | 0,i,s,Q,st,_,h=>by
  show wpAny _ _ (pure []) Q E s
  exact wpAny_pure (h [] s.heap s.toks st (fun j y e=>by simp at e) rfl fun _ _ _ e=>e)
 | k + 1,i,s,Q,st,hk,h=>by
  show wpAny _ _ (pyNext (.ref I) >>= _) Q E s
  refine wpAny_bind (W.item i s _ E (by (first | lia | omega)) st fun v h₁ tk₁ hv st₁ hk₁=>?_)
  refine wpAny_bind (wpAny_holding (draw_walk W k (i + 1) _ _ st₁ (by (first | lia | omega)) fun ys h₂ tk₂ st₂ hp hl hk₂=>wpAny_pure ?_))
  refine h (v::ys) h₂ tk₂ (by rw [show i + (k + 1) = i + 1 + k by (first | lia | omega)];exact st₂) (fun j y e=>?_) (by simp [hl]) fun b o hb e=>hk₂ b o hb (hk₁ b o hb e)
  cases j with
  | zero=>simp at e;subst e;exact hv
  | succ j=>have:=hp j y (by simpa using e);rw [show i + (j + 1) = i + 1 + j by (first | lia | omega)];exact this
theorem vrels_of_get:∀ {vs:List AV} {ys:List Value} {h:Heap},vs.length = ys.length→(∀ (j:Nat) y,ys[j]? = some y→∃ u,vs[j]? = some u∧VRel S ρ h u y)→VRels S ρ h vs ys
 | [],[],_,_,_=>.nil
 | [],_::_,_,h,_=>by simp at h
 | _::_,[],_,h,_=>by simp at h
 | v::vs,y::ys,_,h,q=>by
  obtain ⟨u,e,V⟩:=q 0 y rfl
  simp at e;subst e
  exact .cons V (vrels_of_get (by simpa using h) fun j z e=>by simpa using q (j + 1) z (by simpa using e))
theorem unpack_real {vs:List AV} {Q:List Value→Shared→Prop} (hh:A.handled = none) (X:HSim S ρ H s.heap) (V:VRel S ρ s.heap v x) (e:v.seq? H = some vs)
  (hQ:∀ ys h' tk,Kp s.heap h'→VRels S ρ s.heap vs ys→Q ys { s with heap:=h',toks:=tk }):wpAny (model prog w) A (unpackItems x vs.length none) Q E s:=by
 have ei:iterOfC H v = some vs:=by
  cases v<;>first | exact e | cases e
 obtain ⟨l,items,rfl,hl,vv⟩:=seq_real X V e
 unfold unpackItems
 refine wpAny_bind ?_
 unfold notIterableAtAll
 have fin:wpAny (model prog w) A (do
   let it ← holding [.ref l] (pyIter (.ref l))
   let items ← holding [it] (draw it vs.length)
   if items.length < vs.length then
    rule "unpack.too-few";raiseError "ValueError" s!"not enough values to unpack (expected {vs.length}, got {items.length})"
   if (← holding items (pyNext it)).isSome then
    rule "unpack.too-many";raiseError "ValueError" s!"too many values to unpack (expected {vs.length})"
   return items) Q E s:=by
  refine wpAny_bind (wpAny_holding (iter_walk hh X V ei fun I fp wr Pp St h₂ W st0 k₂ hwr hIn hfp _ hit hI=>?_))
  refine wpAny_bind (wpAny_holding (draw_walk W vs.length 0 _ _ st0 (by (first | lia | omega)) fun ys h₃ tk₃ st₃ hp hln hk₃=>?_))
  rw [if_neg (by (first | lia | omega))]
  refine wpAny_bind (wpAny_holding (W.done _ _ E (by simpa using st₃) fun h₄ tk₄ hk₄=>?_))
  simp only [Option.isSome_none,Bool.false_eq_true,if_false]
  refine wpAny_pure (hQ ys h₄ tk₄ (fun b o e=>?_) (vrels_of_get (by (first | lia | omega)) fun j y e=>?_))
  ·have hb:b ∉ wr:=fun q=>by rw [hwr b q,hIn] at e;cases e
   exact hk₄ b o hb (hk₃ b o hb (k₂ b o e))
  ·have hj:j < vs.length:=by rw [← hln];exact (List.getElem?_eq_some_iff.mp e).1
   exact hit j y hj (by simpa using hp j y e)
 rcases hl with hl | hl
 ·refine wpAny_bind (wpAny_specialOf (PL.isList hl).typeIs F.slot_list_iter.lookup ?_)
  refine wpAny_pure ?_
  simp only [Bool.false_eq_true,if_false]
  exact fin
 ·refine wpAny_bind (wpAny_specialOf hl.isTuple.typeIs F.slot_tuple_iter.lookup ?_)
  refine wpAny_pure ?_
  simp only [Bool.false_eq_true,if_false]
  exact fin
theorem names_each {env:Env}:∀ {es:List PySem.Expr} {xs:List Str},allSome (es.map nameOf) = some xs→(assignEach es env).length = xs.length∧(assignEach es env).findIdx? (·.1) = none
 | [],xs,hc=>by cases hc;exact ⟨rfl,rfl⟩
 | e::r,xs,hc=>by
  obtain ⟨a,t,e1,e2,rfl⟩:=allSome_cons hc
  obtain ⟨p,rfl⟩:=nameOf_some e1
  have q:=names_each (env:=env) e2
  have e0:assignEach (.Name a p::r) env = (false,assign (.Name a p) env)::assignEach r env:=rfl
  rw [e0]
  refine ⟨by simp [q.1],?_⟩
  rw [List.findIdx?_cons]
  simp [q.2]
inductive NamesP (S:Sx) (Cc:Addr) (m:Str→Option Value) (xs:List Str) (us:List AV) (s s':Shared):Prop
 | mk (h':Heap) (tk:Nat) (m':Str→Option Value):s' = { s with heap:=h',toks:=tk }→(∀ b o,b ≠ Cc→s.heap.get? b = some o→h'.get? b = some o)→h'.Ns Cc m'→(∀ (i:Nat) (t:Str) (u:AV),xs[i]? = some t→us[i]? = some u→∃ z,m' t = some z∧VRel S [] h' u z)→(∀ t,t ∉ xs→m' t = m t)→NamesP S Cc m xs us s s'
inductive TgtP (S:Sx) (Cc:Addr) (txs:List Str) (bx:List (Option AV)) (s s':Shared):Prop
 | mk (h':Heap) (tk:Nat) (m':Str→Option Value) (us:List AV):s' = { s with heap:=h',toks:=tk }→bx = us.map some→(∀ b o,b ≠ Cc→s.heap.get? b = some o→h'.get? b = some o)→h'.Ns Cc m'→(∀ (i:Nat) (t:Str) (u:AV),txs[i]? = some t→us[i]? = some u→∃ z,m' t = some z∧VRel S [] h' u z)→TgtP S Cc txs bx s s'
theorem names_store {cenv:Env} {Cc:Addr} (hl:cenv.locals = Cc) (hk:cenv.scope.kind = .function) (hC:Cc ∈ S.ad):∀ (es:List PySem.Expr) (xs:List Str) (us:List AV) (ys:List Value) (m:Str→Option Value) (s:Shared),allSome (es.map nameOf) = some xs→xs.Nodup→(∀ t ∈ xs,cenv.kindOf t = some .local) →
  VRels S [] s.heap us ys→us.length = xs.length→s.heap.Ns Cc m →
  wpAny (model prog w) A (assignInOrder ((assignEach es cenv).map (·.2)) ys) (fun _ s'=>NamesP S Cc m xs us s s') E s
 | [],xs,us,ys,m,s,hc,_,_,V,hl',hn=>by
  cases hc
  exact wpAny_pure ⟨s.heap,s.toks,m,rfl,fun _ _ _ e=>e,hn,fun i t u e=>by simp at e,fun _ _=>rfl⟩
 | e::r,xs,us,ys,m,s,hc,hnd,hkd,V,hl',hn=>by
  obtain ⟨a,t,e1,e2,rfl⟩:=allSome_cons hc
  obtain ⟨p,rfl⟩:=nameOf_some e1
  cases V with
  | nil=>simp at hl'
  | cons V Vr=>
  rename_i v vs y ys
  show wpAny _ _ (do holding ys (assign (.Name a p) cenv y);assignInOrder ((assignEach r cenv).map (·.2)) ys) _ _ s
  refine wpAny_bind (wpAny_holding (wpAny_assign_Name (wpAny_storeName_local (hkd a (.head _)) (hl ▸ hn) (fun h₄ hn₄ hs₄=>?_) (by simp [hk]))))
  rw [hl] at hn₄ hs₄
  have kb:∀ b o,b ∉ S.ad→s.heap.get? b = some o→h₄.get? b = some o:=fun b o hb e=>hs₄.extBut b o (fun q=>hb (q ▸ hC)) e
  refine wpAny_mono (names_store hl hk hC r t vs ys _ _ e2 (List.nodup_cons.mp hnd).2 (fun z hz=>hkd z (.tail _ hz)) (Vr.chg kb) (by simpa using hl') hn₄) (fun _ s₂ h₂=>?_) fun _ _ y=>y
  obtain ⟨h',tk,m',rfl,k1,n1,q1,q2⟩:=h₂
  refine ⟨h',tk,m',rfl,fun b o hb e=>k1 b o hb (hs₄.extBut b o hb e),n1,fun i z u ez eu=>?_,fun z hz=>?_⟩
  ·cases i with
   | zero=>
    cases ez;cases eu
    exact ⟨y,by rw [q2 a (List.nodup_cons.mp hnd).1];simp,(V.chg kb).chg fun b o hb e=>k1 b o (fun q=>hb (q ▸ hC)) e⟩
   | succ i=>exact q1 i z u ez eu
  ·rw [q2 z fun q=>hz (.tail _ q)]
   simp [show z ≠ a from fun q=>hz (q ▸ .head _)]
theorem tgt_is {tgt:PySem.Expr} {nv:Nat} {txs:List Str} (h:tgtNames tgt = some (nv,txs)):(∃ x p,tgt = .Name x p∧nv = 0∧txs = [x]) ∨ ∃ es kk tp,tgt = .Tuple es kk tp∧allSome (es.map nameOf) = some txs∧nv = txs.length∧nv ≠ 0:=by
 cases tgt with
 | Name x p=>cases h;exact .inl ⟨_,_,rfl,rfl,rfl⟩
 | Tuple es kk tp=>
  obtain ⟨l,e1,e2⟩:=Option.bind_eq_some_iff.mp h
  refine oin e2 fun h0 e2=>?_
  cases e2
  exact .inr ⟨_,_,_,rfl,e1,rfl,h0⟩
 | _=>exact none_some h
theorem bind_is {nv:Nat} {u:AV} {bx:List (Option AV)} (h0:nv ≠ 0) (h:bindItem nv u = some bx):∃ vs,u = .tup vs∧vs.length = nv∧bx = vs.map some:=by
 unfold bindItem at h
 rw [if_neg h0] at h
 cases u with
 | tup vs=>exact oip h fun hl h=>⟨vs,rfl,hl,(Option.some.inj h).symm⟩
 | _=>exact none_some h
theorem tgt_ok {tgt:PySem.Expr} {nv:Nat} {txs:List Str} {cenv:Env} {Cc:Addr} {m:Str→Option Value} {u:AV} {y:Value} {bx:List (Option AV)} (hh:nv = 0 ∨ A.handled = none) (ht:tgtNames tgt = some (nv,txs)) (hnd:txs.Nodup) (hl:cenv.locals = Cc) (hk:cenv.scope.kind = .function) (hC:Cc ∈ S.ad)
  (hkd:∀ t ∈ txs,cenv.kindOf t = some .local) (hn:s.heap.Ns Cc m) (V:VRel S [] s.heap u y) (hb:bindItem nv u = some bx) :
  wpAny (model prog w) A (assign tgt cenv y) (fun _ s'=>TgtP S Cc txs bx s s') E s:=by
 rcases tgt_is ht with ⟨x,p,rfl,rfl,rfl⟩ | ⟨es,kk,tp,rfl,e1,rfl,h0⟩
 ·cases hb
  refine wpAny_assign_Name (wpAny_storeName_local (hkd x (.head _)) (hl ▸ hn) (fun h₄ hn₄ hs₄=>?_) (by simp [hk]))
  rw [hl] at hn₄ hs₄
  refine ⟨h₄,_,_,[u],rfl,rfl,fun b o hb e=>hs₄.extBut b o hb e,hn₄,fun i t w ez eu=>?_⟩
  cases i with
  | zero=>cases ez;cases eu;exact ⟨y,by simp,V.chg fun b o hb e=>hs₄.extBut b o (fun q=>hb (q ▸ hC)) e⟩
  | succ i=>simp at ez
 ·obtain ⟨vs,rfl,hlen,rfl⟩:=bind_is h0 hb
  have hm:=names_each (env:=cenv) e1
  rw [show assign (.Tuple es kk tp) cenv y = (do standAt tp;unpack y (assignEach es cenv)) from rfl]
  refine wpAny_bind (wpAny_standAt ?_)
  unfold unpack
  rw [hm.1,hm.2,← hlen]
  refine wpAny_bind (wpAny_holding (unpack_real (ρ:=[]) (H:=[]) (hh.resolve_left h0) ⟨rfl,List.nodup_nil,fun _ hm=>(by cases hm),fun i vs e=>by simp at e⟩ V rfl fun ys h2 tk2 k2 V2=>?_))
  refine wpAny_mono (names_store hl hk hC es _ vs ys m _ e1 hnd hkd (V2.kp0 k2) hlen (hn.keeps k2)) (fun _ s₂ h₂=>?_) fun _ _ y=>y
  obtain ⟨h',tk,m',rfl,k1,n1,q1,_⟩:=h₂
  exact ⟨h',tk,m',vs,rfl,rfl,fun b o hb e=>k1 b o hb (k2 b o e),n1,q1⟩
end
open PySem PyProof.Rows PySem.SeqAt
section
variable {P:PC} {l:Lv} {A:Around} {env:Env} {names:List Str} {S:Sx} {ρ:List Addr} {loc:List (Option AV)} {H:AH} {s:Shared} {X:Str→Prop} {E:Value→Shared→Prop}
theorem HSim.chg {h h':Heap} (Z:HSim S ρ H h) (hk:∀ b o,b ∉ S.ad→h.get? b = some o→h'.get? b = some o):HSim S ρ H h' where
 len:=Z.len
 nodup:=Z.nodup
 off:=Z.off
 obj:=fun i vs e=>by
  refine hid fun _ kh=>?_
  obtain ⟨a,items,e1,p,v⟩:=Z.obj i vs e
  refine kh ?_
  clear kh
  exact ⟨a,items,e1,PlainList.at' p fun o q=>hk _ o (Z.off a (List.mem_of_getElem? e1)) q,v.chg hk⟩
theorem HSim.sub {S':Sx} (hp:S'.prog = S.prog) (hw:S'.w = S.w) (hs:∀ b ∈ S.ad,b ∈ S'.ad) {h:Heap} (Z:HSim S' ρ H h):HSim S ρ H h where
 len:=Z.len
 nodup:=Z.nodup
 off:=fun a ha hm=>Z.off a ha (hs a hm)
 obj:=fun i vs e=>by
  refine hid fun _ kh=>?_
  obtain ⟨a,items,e1,p,v⟩:=Z.obj i vs e
  refine kh ?_
  clear kh
  exact ⟨a,items,e1,p,v.sub hp hw hs⟩
theorem HSim.addO {S':Sx} {h:Heap} {D:Addr} {ys:Array Value} {vs:List AV} (Z:HSim S' ρ H h) (hp:S'.prog = S.prog) (hw:S'.w = S.w) (hs:∀ b ∈ S.ad,b ∈ S'.ad) (hD:D ∈ S'.ad) (hDS:D ∉ S.ad) (p:h.PlainList D ys) (V:VRels S' ρ h vs ys.toList):HSim S (ρ++[D]) (H++[vs]) h where
 len:=by rw [List.length_append,List.length_append,Z.len];rfl
 nodup:=List.nodup_append.mpr ⟨Z.nodup,List.nodup_cons.mpr ⟨(fun q=>nomatch q),List.nodup_nil⟩,fun a ha b hb e=>Z.off a ha (e ▸ List.mem_singleton.mp hb ▸ hD)⟩
 off:=fun a ha=>(List.mem_append.mp ha).elim (fun q hm=>Z.off a q (hs a hm)) fun q=>List.mem_singleton.mp q ▸ hDS
 obj:=fun i ws e=>by
  have hd:∀ b ∈ [D],b ∈ S'.ad:=fun b hb=>List.mem_singleton.mp hb ▸ hD
  by_cases hi:i < H.length
  ·rw [List.getElem?_append_left hi] at e
   refine hid fun _ kh=>?_
   obtain ⟨b,its,e1,p1,v1⟩:=Z.obj i ws e
   refine kh ?_
   clear kh
   exact ⟨b,its,(List.getElem?_append_left (Z.len ▸ hi)).trans e1,p1,v1.own hp hw hs hd⟩
  ·rw [List.getElem?_append_right (Nat.le_of_not_lt hi)] at e
   cases q:i - H.length with
   | zero=>
    rw [q] at e;cases e
    exact ⟨D,ys,by rw [List.getElem?_append_right (Z.len ▸ Nat.le_of_not_lt hi),Z.len,q];rfl,p,V.own hp hw hs hd⟩
   | succ k=>rw [q] at e;cases e
theorem cc1 {n i:Nat} (h:i < n):n + 1 - (i + 1) < n + 1 - i:=Nat.sub_lt_sub_left (Nat.lt_succ_of_lt h) (Nat.lt_succ_self i)
theorem cc2 {d y i n:Nat} (e:d = y) (h1:d ≤ i) (h2:i < n) (h3:n ≤ smallN):y < sizeLine:=e ▸ Nat.lt_of_le_of_lt h1 (Nat.lt_of_lt_of_le h2 (Nat.le_trans h3 (by decide)))
theorem rens_get {φ:List Nat} {H:AH} {a b:List AV} (r:Rens φ H a b) {i:Nat} {u v:AV} (e1:a[i]? = some u) (e2:b[i]? = some v):Ren φ H u v:=
 Rens.ind (M:=fun a b=>∀ i,a[i]? = some u→b[i]? = some v→Ren φ H u v) (fun _ e1 _=>by simp at e1) (fun _ _ _ _ r _ ih i e1 e2=>by
  cases i with
  | zero=>cases e1;cases e2;exact r
  | succ i=>exact ih i e1 e2) r i e1 e2
theorem tests_ok {cenv:Env} {names':List Str} {Sc:Sx} {loc':List (Option AV)} {ifs:List PySem.Expr} {cs:List CE} (hlen:cs.length ≤ 1) (ht:∀ (j:Nat) (e:PySem.Expr) (c:CE),ifs[j]? = some e→cs[j]? = some c→TrOk P l cenv names' e c) (hl:ifs.length = cs.length) {K:Bool→Prop}
  {s:Shared} (C:Cx P l A cenv names' Sc [] loc' [] s) (h:wpTests P l X cs loc' K) :
  wpAny (model P.prog P.w) A (forIn ifs true fun c r=>if r = true then do let ok ← isTrue c cenv (eval c cenv);pure (ForInStep.yield ok) else pure (ForInStep.yield r))
   (fun ok s'=>∃ h' tk,s' = { s with heap:=h',toks:=tk }∧Kp s.heap h'∧K ok) E s:=by
 cases cs with
 | nil=>
  have:ifs = []:=List.length_eq_zero_iff.mp (by simpa using hl)
  subst this
  simp only [w_t0,w_t1] at h
  exact wpAny_pure ⟨s.heap,s.toks,rfl,Kp.refl _,h⟩
 | cons c r=>
  have:r = []:=by cases r with | nil=>rfl | cons _ _=>simp at hlen
  subst this
  cases ifs with
  | nil=>simp at hl
  | cons e r'=>
   have:r' = []:=by cases r' with | nil=>rfl | cons _ _=>simp at hl
   subst this
   simp only [w_t0,w_t1] at h
   rw [List.forIn_cons]
   simp only [if_true]
   refine wpAny_bind (wpAny_bind (wpAny_mono (ht 0 e c rfl rfl A Sc [] loc' [] s (fun b _=>K b) X E C exOk_any h) (fun b s₁ hb=>?_) fun _ _ y=>y))
   refine hid fun _ kh=>?_
   obtain ⟨h1,tk1,n1,G1,rfl,k1,f1,X1,q1⟩:=hb
   refine kh ?_
   clear kh
   exact wpAny_pure (wpAny_pure ⟨h1,tk1,rfl,k1,q1⟩)
inductive EltP (Sc:Sx) (s:Shared) (g:Prop) (n:Nat) (K:AV→AH→Prop) (y:Value) (s':Shared):Prop
 | mk (h':Heap) (tk:Nat) (n':List Addr) (Hc':AH) (r':AV):s' = { s with heap:=h',toks:=tk }→Kp s.heap h'→Fresh s.heap n'→HSim Sc n' Hc' h'→VRel Sc n' h' r' y→(g ∨ (NoFl r'∧∀ xs ∈ Hc',NoFls xs))→K (r'.shift n) (Hc'.map (AV.shifts n))→EltP Sc s g n K y s'
theorem elt_ok {cenv:Env} {names':List Str} {Sc:Sx} {loc':List (Option AV)} {elt:PySem.Expr} {ce:CE} (he:EvOk P l cenv names' elt ce) {g:Prop} {n:Nat} {K:AV→AH→Prop} {s:Shared} (C:Cx P l A cenv names' Sc [] loc' [] s)
  (h:wpE P l X ce loc' [] fun r Hc=>eltK g n r Hc K) :
  wpAny (model P.prog P.w) A (eval elt cenv) (EltP Sc s g n K) E s:=by
 refine wpAny_mono (he A Sc [] loc' [] s _ X E C exOk_any h) (fun y s₁ hy=>?_) fun _ _ y=>y
 refine hid fun _ kh=>?_
 obtain ⟨h1,tk1,n1,v1,G1,rfl,k1,f1,X1,V1,φ,Hc',r',RH,R,hg,q1⟩:=hy
 refine kh ?_
 clear kh
 simp only [List.nil_append] at X1 V1 RH R
 exact ⟨h1,tk1,pick n1 φ,Hc',r',rfl,k1,(fun a ha=>by obtain ⟨j,_,e⟩:=pick_mem ha;exact f1 a (List.mem_of_getElem? e)),X1.ren RH,VRel.ren' X1 RH.dom R V1,hg,q1⟩
inductive CompI (S:Sx) (ρ:List Addr) (H:AH) (s:Shared) (St:Nat→Heap→Prop) (D Cc I:Addr) (N:Nat) (items:List AV) (CI:List AV→List AV→AH→Prop) (k:Nat) (s':Shared):Prop
 | mk (i:Nat) (h':Heap) (tk:Nat) (m:Str→Option Value) (ys:Array Value) (done:List AV) (e:List Addr) (G:AH):s' = { s with heap:=h',toks:=tk }→k = N + 1 - i→i ≤ N→St i h'→h'.PlainList D ys→h'.Ns Cc m→(Fresh s.heap e∧HSim ⟨S.ad++[I,Cc,D],S.prog,S.w⟩ (ρ++e) (H++G) h')→VRels ⟨S.ad++[I,Cc,D],S.prog,S.w⟩ (ρ++e) h' done ys.toList→done.length ≤ i→Kp s.heap h'→CI (items.drop i) done G→CompI S ρ H s St D Cc I N items CI k s'
inductive CView (S:Sx) (ρ:List Addr) (H:AH) (s:Shared) (g:Prop) (I Cc D:Addr):Prop
 | mk (Sc:Sx):Sc.prog = S.prog→Sc.w = S.w→Cc ∈ Sc.ad→(∀ b ∈ Sc.ad,b ∈ [I,Cc,D] ∨ ∃ o,s.heap.get? b = some o)→(∀ v v' z,VRel S ρ s.heap v z→Ren [] H v v'→g→v' = v→VRel Sc [] s.heap v' z)→(¬ g→∀ v v' z,VRel S ρ s.heap v z→Ren [] H v v'→VRel Sc [] s.heap v' z) →
   (∀ e G h5 h6 n' Hc' r y,HSim ⟨S.ad++[I,Cc,D],S.prog,S.w⟩ (ρ++e) (H++G) h5→Kp h5 h6→Fresh h5 n'→SD ⟨S.ad++[I,Cc,D],S.prog,S.w⟩ h5→HSim ⟨Sc.ad++e,Sc.prog,Sc.w⟩ n' Hc' h6→VRel ⟨Sc.ad++e,Sc.prog,Sc.w⟩ n' h6 r y→(g ∨ (NoFl r∧∀ xs ∈ Hc',NoFls xs)) →
    HSim ⟨S.ad++[I,Cc,D],S.prog,S.w⟩ ((ρ++e)++n') ((H++G)++Hc'.map (AV.shifts (H++G).length)) h6∧VRel ⟨S.ad++[I,Cc,D],S.prog,S.w⟩ ((ρ++e)++n') h6 (r.shift (H++G).length) y)→CView S ρ H s g I Cc D
theorem comp_view {g:Prop} {I Cc D:Addr} (hsd:SD S s.heap) (hsim:HSim S ρ H s.heap) (hx':∀ b ∈ [I,Cc,D],s.heap.get? b = none):CView S ρ H s g I Cc D:=by
 have Xp:=hsim.avoid hx'
 by_cases hg:g
 ·refine ⟨⟨(S.ad++[I,Cc,D])++ρ,S.prog,S.w⟩,rfl,rfl,by simp,fun b hm=>(List.mem_append.mp hm).elim (fun q=>(List.mem_append.mp q).elim (fun q=>.inr (hsd b q)) .inl) fun q=>.inr (hsim.mem q),?_,fun h=>absurd hg h,?_⟩
  ·intro v v' z V R _ e;subst e;exact (V.avoid hx').pure R
  ·intro e G h5 h6 n' Hc' r y X5 k f sd Y V _
   have hA:∀ a,a ∉ n'→a ∉ ((S.ad++[I,Cc,D])++ρ)++e→a ∉ ρ++e∧a ∉ S.ad++[I,Cc,D]:=fun a _ h2=>⟨fun q=>h2 ((List.mem_append.mp q).elim (fun q=>List.mem_append_left _ (List.mem_append_right _ q)) (List.mem_append_right _)),fun q=>h2 (List.mem_append_left _ (List.mem_append_left _ q))⟩
   exact ⟨HSim.behind (Sc:=⟨((S.ad++[I,Cc,D])++ρ)++e,S.prog,S.w⟩) X5 k f sd rfl rfl Y (.inl hA),by rw [← X5.len];exact VRel.behind (S:=⟨S.ad++[I,Cc,D],S.prog,S.w⟩) (Sc:=⟨((S.ad++[I,Cc,D])++ρ)++e,S.prog,S.w⟩) rfl rfl hA (X5.kp k).noTuple (X5.kp k).listCls V⟩
 ·refine ⟨⟨S.ad++[I,Cc,D],S.prog,S.w⟩,rfl,rfl,by simp,fun b hm=>(List.mem_append.mp hm).elim (fun q=>.inr (hsd b q)) .inl,fun _ _ _ _ _ h=>absurd h hg,?_,?_⟩
  ·intro _ v v' z V R;exact (V.avoid hx').frz Xp R
  ·intro e G h5 h6 n' Hc' r y X5 k f sd Y V q
   have q:=q.resolve_left hg
   have Y':=HSim.sub (S:=⟨S.ad++[I,Cc,D],S.prog,S.w⟩) (S':=⟨(S.ad++[I,Cc,D])++e,S.prog,S.w⟩) rfl rfl (fun b hb=>List.mem_append_left _ hb) Y
   have V':=VRel.sub (S:=⟨S.ad++[I,Cc,D],S.prog,S.w⟩) (S':=⟨(S.ad++[I,Cc,D])++e,S.prog,S.w⟩) rfl rfl (fun b hb=>List.mem_append_left _ hb) V
   exact ⟨HSim.behind X5 k f sd rfl rfl Y' (.inr ⟨rfl,q.2⟩),by rw [← X5.len];exact VRel.behindN (X5.kp k).noTuple (X5.kp k).listCls V' q.1⟩
theorem compLoop_tests {prog:Program} {w:World} {R:Result→Shared→Prop} {elt target iter:PySem.Expr} {ifs:List PySem.Expr} {scope:Scope} {pos:Pos} {it acc:Value} {env:Env} {s:Shared} (I:Nat→Shared→Prop)
  (turn:∀ n s,I n s→wpAny (model prog w) A (pyNext it) (fun r s₁=>match r with
   | none=>R (.ok .next) s₁
   | some v=>wpAny (model prog w) A (letOwnedTupleGo target it v) (fun _ s₁'=>wpAny (model prog w) A (assign target env v) (fun _ s₂=>
     wpAny (model prog w) A (forIn ifs true fun c r=>if r = true then do let ok ← isTrue c env (eval c env);pure (ForInStep.yield ok) else pure (ForInStep.yield r)) (fun ok s₃=>
      if ok = true then wpAny (model prog w) A (eval elt env) (fun x s₄=>
       wpAny (model prog w) A (call (.builtin "list.append") [acc,x]) (fun _ s₅=>∃ m,m < n∧I m s₅) (notedBy (model prog w) A env fun e s'=>R (.error e) s') s₄) (notedBy (model prog w) A env fun e s'=>R (.error e) s') s₃
      else ∃ m,m < n∧I m s₃) (notedBy (model prog w) A env fun e s'=>R (.error e) s') s₂) (notedBy (model prog w) A env fun e s'=>R (.error e) s') s₁') (notedBy (model prog w) A env fun e s'=>R (.error e) s') s₁) (notedBy (model prog w) A env fun e s'=>R (.error e) s') s)
  (n:Nat) (h:I n s):codeAny (model prog w) A (.compLoop (.ListComp elt [⟨target,iter,ifs,0⟩] scope pos) 0 it acc env) R s:=by
 refine codeAny_loop rfl I (fun n s hI=>?_) n h
 show wpAny _ A ((compTurn (.ListComp elt [⟨target,iter,ifs,0⟩] scope pos) 0 it acc env).onRaise (fun x=>do noteFrame x env;theTreesLotGoes x)) _ _ s
 refine wpAny_noted ?_
 rw [compTurn_list]
 refine wpAny_bind (wpAny_standAt (wpAny_bind (wpAny_mono (turn n s hI) (fun r s₁ h₁=>?_) fun _ _ y=>y)))
 cases r with
 | none=>exact wpAny_pure h₁
 | some v=>
  refine wpAny_bind (wpAny_mono h₁ (fun _ s₂ h₂=>wpAny_bind (wpAny_mono h₂ (fun _ s₃ h₃=>wpAny_bind (wpAny_mono h₃ (fun ok s₄ h₄=>?_) fun _ _ y=>y)) fun _ _ y=>y)) fun _ _ y=>y)
  cases ok with
  | false=>exact wpAny_pure ⟨rfl,h₄⟩
  | true=>exact wpAny_bind (wpAny_bind (wpAny_mono h₄ (fun x s₅ h₅=>wpAny_bind (wpAny_mono h₅ (fun _ s₆ h₆=>wpAny_pure (wpAny_pure ⟨rfl,h₆⟩)) fun _ _ y=>y)) fun _ _ y=>y))
theorem comp_go (C:Cx P l A env names S ρ loc H s) (ho:EnvOk env) {scope:Scope} {cl:List (Str × Addr)} {cap:List Nat} {base:List (Option AV)} {tgt:PySem.Expr} {nv:Nat} {txs:List Str} {pos:Pos} {elt it:PySem.Expr} {ifs:List PySem.Expr} {ce:CE} {cs:List CE} {its items:List AV} {I:Addr} {fp wr:List Addr}
  {Pp:Nat→Value→Prop} {St:Nat→Heap→Prop} {h₂:Heap} {K:List AV→AH→Prop} {RR:Value→Addr→Result→Shared→Prop}
  (hkind:scope.kind = .function) (hnc:∀ y ∈ scope.names,y.2 ≠ .cell)
  (hcl:∀ x ∈ freeNames scope,cl.lookup x = env.cells.lookup x) (hcell:∀ x ∈ freeNames scope,env.kindOf x = some .cell∧scope.names.lookup x = some .free) (hcap:allSome ((freeNames scope).map fun x=>idxOf x names) = some cap) (hx:∀ t ∈ txs,scope.names.lookup t = some .local) (htg:tgtNames tgt = some (nv,txs)) (hnd:txs.Nodup) (hhn:nv = 0 ∨ A.handled = none)
  (ihe:∀ Cc,EvOk P l (compEnvC scope cl Cc env) (freeNames scope++txs) elt ce) (iht:∀ Cc (j:Nat) (e:PySem.Expr) (c:CE),ifs[j]? = some e→cs[j]? = some c→TrOk P l (compEnvC scope cl Cc env) (freeNames scope++txs) e c) (hil:ifs.length = cs.length) (hcs:cs.length ≤ 1)
  (hsm:its.length ≤ smallN) (hR:Rens [] H its items) (hbase:CapRel H loc cap base)
  (W:Walks P.prog P.w A I fp wr its.length Pp St) (st0:St 0 h₂) (k₂:Kp s.heap h₂) (hwr:∀ b ∈ wr,b = I) (hIn:s.heap.get? I = none) (hfp:∀ b ∈ fp,b < h₂.objs.size) (hit:∀ i y,i < its.length→Pp i y→∃ u,its[i]? = some u∧VRel S ρ s.heap u y) (hI:∀ i h,St i h→∃ o,h.get? I = some o∧PlainIt o)
  {CI:List AV→List AV→AH→Prop} {St':AV→List AV→List AV→AH→Prop} (hitems:CI items [] [])
  (hCI:∀ x r done G,CI (x::r) done G→∃ bx,bindItem nv x = some bx∧wpTests P l X cs (base++bx) fun b=>if b = true then St' x r done G else CI r done G)
  (hSt:∀ x r done G bx,bindItem nv x = some bx→St' x r done G→wpE P l X ce (base++bx) [] fun v Hc=>eltK (items = its∧base = cap.map fun i=>loc[i]?.join) (H.length + G.length) v Hc fun r' Hc'=>CI r (done++[r']) (G++Hc'))
  (hKe:∀ done G,CI [] done G→K done G)
  (hRR:∀ D Cc h' tk m ys vs e G,s.heap.get? D = none→h₂.get? Cc = none→s.heap.get? Cc = none→D ≠ Cc→h'.Ns Cc m→h'.PlainList D ys→Fresh s.heap e→HSim ⟨S.ad++[I,Cc,D],S.prog,S.w⟩ (ρ++e) (H++G) h'→VRels ⟨S.ad++[I,Cc,D],S.prog,S.w⟩ (ρ++e) h' vs ys.toList→Kp s.heap h'→K vs G→RR (.ref D) Cc (.ok .next) { s with heap:=h',toks:=tk }) {D Cc:Addr} {h₁:Heap} {m0:Str→Option Value} {tk₃:Nat} (hacc:h₁.PlainList D #[]) (hns₁:h₁.Ns Cc m0) (kH:∀ b o,h₂.get? b = some o→h₁.get? b = some o) (hDC:D ≠ Cc) (hDn:s.heap.get? D = none) (hCn:s.heap.get? Cc = none) (hCn2:h₂.get? Cc = none) (hDf:D ∉ fp) (hCf:Cc ∉ fp) :
  codeAny (model P.prog P.w) A (.compLoop (.ListComp elt [⟨tgt,it,ifs,0⟩] scope pos) 0 (.ref I) (.ref D) (compEnvC scope cl Cc env)) (RR (.ref D) Cc) { s with heap:=h₁,toks:=tk₃ }:=by
 have hDw:D ∉ wr:=fun hm=>hDf (W.sub _ hm)
 have hCw:Cc ∉ wr:=fun hm=>hCf (W.sub _ hm)
 have hlenR:=hR.length
 have stay:∀ b o,s.heap.get? b = some o→b ∉ wr∧b ≠ Cc∧b ≠ D:=fun b o e=>⟨(fun hm=>by rw [hwr b hm,hIn] at e;cases e),(fun h=>by rw [h,hCn] at e;cases e),(fun h=>by rw [h,hDn] at e;cases e)⟩
 have hx':∀ b ∈ [I,Cc,D],s.heap.get? b = none:=fun b hb=>by
  simp only [List.mem_cons,List.not_mem_nil,or_false] at hb
  rcases hb with rfl | rfl | rfl<;>assumption
 have Xp:=C.sim.avoid hx'
 obtain ⟨Sc,hp,hw,hCsc,hsd,v1,v2,vback⟩:=comp_view (g:=items = its∧base = cap.map fun i=>loc[i]?.join) C.sd C.sim hx'
 have seen:∀ i v v' z,loc[i]?.join = some v→Ren [] H v v'→VRel S ρ s.heap v z→i ∈ cap→(∃ j:Nat,cap[j]? = some i∧base[j]?.join = some v')→VRel Sc [] s.heap v' z:=by
  intro i v v' z e R V hi hb
  by_cases hg:items = its∧base = cap.map fun i=>loc[i]?.join
  ·refine v1 v v' z V R hg ?_
   obtain ⟨j,ej,eb⟩:=hb
   rw [hg.2,List.getElem?_map,ej] at eb
   simp at eb
   rw [e] at eb
   exact (Option.some.inj eb).symm
  ·exact v2 hg v v' z V R
 refine compLoop_tests (CompI S ρ H s St D Cc I its.length items CI) ?_ (its.length + 1)
  ⟨0,h₁,_,_,#[],[],[],[],rfl,rfl,Nat.zero_le _,W.frame _ _ _ st0 fun b _ o e=>kH b o e,hacc,hns₁,⟨Fresh.nil _,by rw [List.append_nil,List.append_nil];exact Xp.kp (k₂.trans kH)⟩,.nil,Nat.zero_le _,k₂.trans kH,hitems⟩
 intro k s' hJ
 refine hidQ fun Q' E' hQ' hE'=>?_
 obtain ⟨i,h',tk,m,ys,done,e,G,rfl,rfl,hi,st,hys,hn,⟨fe,X'⟩,hV,hdl,hk,hrest⟩:=hJ
 by_cases hlt:i < its.length
 ·refine W.item i _ _ _ hlt st fun y h₃ tk₃ hPy st₃ hk₃=>?_
  have hi':i < items.length:=by rw [← hlenR];exact hlt
  obtain ⟨u,eu,Vu⟩:=hit i y hlt hPy
  have eu':items[i]? = some items[i]:=by simp [hi']
  have Ru:Ren [] H u items[i]:=rens_get hR eu eu'
  have hn₃:h₃.Ns Cc m:=hn.at' fun o e=>hk₃ _ o hCw e
  have hCad:Cc ∈ Sc.ad++e:=List.mem_append_left _ hCsc
  have uS:VRel ⟨Sc.ad++e,Sc.prog,Sc.w⟩ [] s.heap items[i] y:=by
   refine VRel.avoid fe ?_
   by_cases hg:items = its∧base = cap.map fun i=>loc[i]?.join
   ·refine v1 u items[i] y Vu Ru hg ?_
    have:its[i]? = some items[i]:=by rw [← hg.1];exact eu'
    rw [eu] at this;exact (Option.some.inj this).symm
   ·exact v2 hg u items[i] y Vu Ru
  have k₃:Kp s.heap h₃:=fun b o e=>hk₃ b o (stay b o e).1 (hk b o e)
  rw [List.drop_eq_getElem_cons hi'] at hrest
  obtain ⟨bx,hbx,hrest⟩:=hCI _ _ _ _ hrest
  obtain ⟨oI,hoI,hpI⟩:=hI _ _ st₃
  refine hQ' _ _ ?_
  clear hQ' hE' Q' E'
  refine letGo_ok hoI hpI ?_
  refine wpAny_mono (tgt_ok hhn htg hnd rfl (by simp [compEnvC,relabel,hkind]) hCad (fun t htm=>by rw [compEnv_kd _ _ _ _ ho.1];unfold compKd;rw [hx t htm]) hn₃ (uS.kp0 k₃) hbx) (fun _ s₄ h₄'=>?_) fun _ _ y=>y
  refine hid fun _ kh=>?_
  obtain ⟨h₄,tk₄,m₄,us,rfl,rfl,hs₄,hn₄,hus⟩:=h₄'
  refine kh ?_
  clear kh
  have k₄:Kp s.heap h₄:=fun b o e=>by
   have q:=stay b o e
   exact hs₄ b o q.2.1 (hk₃ b o q.1 (hk b o e))
  have st₄:St (i + 1) h₄:=W.frame _ _ _ st₃ fun b hb o e=>hs₄ b o (fun h=>hCf (by have h':b = Cc:=h;rw [← h'];exact hb)) e
  have ys₄:h₄.PlainList D ys:=PlainList.at' hys fun o e=>hs₄ D o hDC (hk₃ D o hDw e)
  have here:∀ {h:Heap},Kp h₄ h→∀ b ∈ [I,Cc,D],∃ o,h.get? b = some o:=fun {h} kh b hb=>by
   simp only [List.mem_cons,List.not_mem_nil,or_false] at hb
   rcases hb with rfl | rfl | rfl
   ·obtain ⟨o,ho,_⟩:=hI _ _ st₄;exact ⟨o,kh _ _ ho⟩
   ·obtain ⟨o,_,_,ho,_⟩:=hn₄;exact ⟨o,kh _ _ ho⟩
   ·obtain ⟨o,ho⟩:=ys₄;exact ⟨_,kh _ _ ho⟩
  have ch₄:∀ b o,b ∉ S.ad++[I,Cc,D]→h'.get? b = some o→h₄.get? b = some o:=fun b o hb e=>by
   have hb':b ∉ [I,Cc,D]:=fun q=>hb (List.mem_append_right _ q)
   simp only [List.mem_cons,List.not_mem_nil,or_false,not_or] at hb'
   exact hs₄ b o hb'.2.1 (hk₃ b o (fun q=>hb'.1 (hwr b q)) e)
  have V₄:=hV.chg (h':=h₄) ch₄
  have X₄:=HSim.chg (h':=h₄) X' ch₄
  have ctx:∀ {h:Heap} {tk:Nat},Kp h₄ h→h.Ns Cc m₄→Cx P l A (compEnvC scope cl Cc env) (freeNames scope++txs) ⟨Sc.ad++e,Sc.prog,Sc.w⟩ [] (base++us.map some) [] { s with heap:=h,toks:=tk }:=fun {h} {tk} kh hnh=>
   comp_cx C ho hcl hcell hcap hx hbase (k₄.trans kh) hnh (fun i t u e1 e2=>by obtain ⟨z,a,b⟩:=hus i t u e1 e2;exact ⟨z,a,b.kp0 kh⟩) hp hw (fun b hb=>(List.mem_append.mp hb).elim (fun hb=>(hsd b hb).elim (fun q=>here kh b q) fun ⟨o,ho⟩=>⟨o,kh _ _ (k₄ _ _ ho)⟩) fun hb=>by obtain ⟨o,ho⟩:=X₄.mem (List.mem_append_right _ hb);exact ⟨o,kh _ _ ho⟩) (fun i v v' z e1 e2 e3 _ hic hjb=>(VRel.avoid fe (seen i v v' z e1 e2 e3 hic hjb)).kp0 (k₄.trans kh))
  refine wpAny_mono (tests_ok hcs (iht Cc) hil (ctx (Kp.refl _) hn₄) hrest) (fun ok s₅ hok=>?_) fun _ _ y=>y
  refine hid fun _ kh=>?_
  obtain ⟨h₅,tk₅,rfl,k₅,q₅⟩:=hok
  refine kh ?_
  clear kh
  cases ok with
  | false=>
   refine ⟨its.length + 1 - (i + 1),cc1 hlt,i + 1,h₅,tk₅,_,ys,done,e,G,rfl,rfl,hlt,W.frame _ _ _ st₄ fun b _ o e=>k₅ b o e,PlainList.at' ys₄ fun o e=>k₅ _ o e,hn₄.keeps k₅,⟨fe,X₄.kp k₅⟩,V₄.kp0 k₅,by (first | lia | omega),k₄.trans k₅,q₅⟩
  | true=>
   simp only [if_true] at q₅ ⊢
   refine wpAny_mono (elt_ok (ihe Cc) (ctx k₅ (hn₄.keeps k₅)) (hSt _ _ _ _ _ hbx q₅)) (fun z s₆ hz=>?_) fun _ _ y=>y
   refine hid fun _ kh=>?_
   obtain ⟨h₆,tk₆,n',Hc',r',rfl,k₆,f₆,Y₆,Vr,hfl,q₆⟩:=hz
   refine kh ?_
   clear kh
   have ys₆:h₆.PlainList D ys:=PlainList.at' ys₄ fun o e=>k₆ _ o (k₅ _ o e)
   have e1:=V₄.length
   simp only [Array.length_toList] at e1
   obtain ⟨X₆,Vz⟩:=vback e G _ _ n' Hc' r' z (X₄.kp k₅) k₆ f₆ (fun b hb=>(List.mem_append.mp hb).elim (fun q=>by obtain ⟨o,ho⟩:=C.sd b q;exact ⟨o,k₅ _ _ (k₄ _ _ ho)⟩) fun q=>here k₅ b q) Y₆ Vr hfl
   rw [← List.length_append] at q₆
   refine wpAny_list_append_plain (hsz:=Nat.le_of_lt (cc2 e1 hdl hlt hsm)) ys₆ fun h₇ hl₇ hs₇=>?_
   have k₇:Kp s.heap h₇:=fun b o e=>hs₇.extBut b o (stay b o e).2.2 (k₆ b o (k₅ b o (k₄ b o e)))
   have ch₇:∀ b o,b ∉ S.ad++[I,Cc,D]→h₆.get? b = some o→h₇.get? b = some o:=fun b o hb e=>hs₇.extBut b o (fun q=>hb (List.mem_append_right _ (q ▸ .tail _ (.tail _ (.head _))))) e
   have Va:=((((V₄.kp0 k₅).kp k₆ f₆).app (.cons Vz .nil)).chg (h':=h₇) ch₇)
   have Xa:=HSim.chg (h':=h₇) X₆ ch₇
   rw [List.append_assoc] at Va
   rw [List.append_assoc,List.append_assoc] at Xa
   refine ⟨its.length + 1 - (i + 1),cc1 hlt,i + 1,h₇,tk₆,_,ys.push z,_,e++n',_,rfl,rfl,hlt,W.frame _ _ _ st₄ fun b hb o e=>hs₇.extBut b o (fun h=>hDf (h ▸ hb)) (k₆ b o (k₅ b o e)),hl₇,((hn₄.keeps k₅).keeps k₆).sameBut hs₇ (Ne.symm hDC),⟨fun b hb=>(List.mem_append.mp hb).elim (fe b) fun q=>?_,Xa⟩,by simpa using Va,by simp;(first | lia | omega),k₇,q₆⟩
   cases q0:s.heap.get? b with
   | none=>rfl
   | some o=>have:=f₆ b q;rw [k₅ b o (k₄ b o q0)] at this;cases this
 ·have hie:i = its.length:=Nat.le_antisymm hi (Nat.le_of_not_lt hlt)
  subst hie
  refine W.done _ _ _ st fun h₃ tk₃ hk₃=>hQ' _ _ ?_
  have hdrop:items.drop its.length = []:=by rw [hlenR];simp
  rw [hdrop] at hrest
  replace hrest:=hKe _ _ hrest
  have k₃:Kp s.heap h₃:=fun b o e=>hk₃ b o (stay b o e).1 (hk b o e)
  have ch₃:∀ b o,b ∉ S.ad++[I,Cc,D]→h'.get? b = some o→h₃.get? b = some o:=fun b o hb e=>by
   have hb':b ∉ [I,Cc,D]:=fun q=>hb (List.mem_append_right _ q)
   simp only [List.mem_cons,List.not_mem_nil,or_false,not_or] at hb'
   exact hk₃ b o (fun q=>hb'.1 (hwr b q)) e
  exact hRR D Cc h₃ tk₃ m ys done e G hDn hCn2 hCn hDC (hn.at' fun o e=>hk₃ _ o hCw e) (PlainList.at' hys fun o e=>hk₃ _ o hDw e) fe (HSim.chg X' ch₃) (hV.chg ch₃) k₃ hrest
theorem comp_core (C:Cx P l A env names S ρ loc H s) (ho:EnvOk env) {scope:Scope} {cl:List (Str × Addr)} {cap:List Nat} {base:List (Option AV)} {tgt:PySem.Expr} {nv:Nat} {txs:List Str} {pos:Pos} {elt it:PySem.Expr} {ifs:List PySem.Expr} {ce:CE} {cs:List CE} {its items:List AV} {I:Addr} {fp wr:List Addr}
  {Pp:Nat→Value→Prop} {St:Nat→Heap→Prop} {h₂:Heap} {K:List AV→AH→Prop} {RR:Value→Addr→Result→Shared→Prop}
  (hkind:scope.kind = .function) (hnc:∀ y ∈ scope.names,y.2 ≠ .cell)
  (hcl:∀ x ∈ freeNames scope,cl.lookup x = env.cells.lookup x) (hcell:∀ x ∈ freeNames scope,env.kindOf x = some .cell∧scope.names.lookup x = some .free) (hcap:allSome ((freeNames scope).map fun x=>idxOf x names) = some cap) (hx:∀ t ∈ txs,scope.names.lookup t = some .local) (htg:tgtNames tgt = some (nv,txs)) (hnd:txs.Nodup) (hhn:nv = 0 ∨ A.handled = none)
  (ihe:∀ Cc,EvOk P l (compEnvC scope cl Cc env) (freeNames scope++txs) elt ce) (iht:∀ Cc (j:Nat) (e:PySem.Expr) (c:CE),ifs[j]? = some e→cs[j]? = some c→TrOk P l (compEnvC scope cl Cc env) (freeNames scope++txs) e c) (hil:ifs.length = cs.length) (hcs:cs.length ≤ 1)
  (hsm:its.length ≤ smallN) (hR:Rens [] H its items) (hbase:CapRel H loc cap base)
  (W:Walks P.prog P.w A I fp wr its.length Pp St) (st0:St 0 h₂) (k₂:Kp s.heap h₂) (hwr:∀ b ∈ wr,b = I) (hIn:s.heap.get? I = none) (hfp:∀ b ∈ fp,b < h₂.objs.size) (hit:∀ i y,i < its.length→Pp i y→∃ u,its[i]? = some u∧VRel S ρ s.heap u y) (hI:∀ i h,St i h→∃ o,h.get? I = some o∧PlainIt o)
  {CI:List AV→List AV→AH→Prop} {St':AV→List AV→List AV→AH→Prop} (hitems:CI items [] [])
  (hCI:∀ x r done G,CI (x::r) done G→∃ bx,bindItem nv x = some bx∧wpTests P l X cs (base++bx) fun b=>if b = true then St' x r done G else CI r done G)
  (hSt:∀ x r done G bx,bindItem nv x = some bx→St' x r done G→wpE P l X ce (base++bx) [] fun v Hc=>eltK (items = its∧base = cap.map fun i=>loc[i]?.join) (H.length + G.length) v Hc fun r' Hc'=>CI r (done++[r']) (G++Hc'))
  (hKe:∀ done G,CI [] done G→K done G)
  (hRR:∀ D Cc h' tk m ys vs e G,s.heap.get? D = none→h₂.get? Cc = none→s.heap.get? Cc = none→D ≠ Cc→h'.Ns Cc m→h'.PlainList D ys→Fresh s.heap e→HSim ⟨S.ad++[I,Cc,D],S.prog,S.w⟩ (ρ++e) (H++G) h'→VRels ⟨S.ad++[I,Cc,D],S.prog,S.w⟩ (ρ++e) h' vs ys.toList→Kp s.heap h'→K vs G→RR (.ref D) Cc (.ok .next) { s with heap:=h',toks:=tk }) {tk₂:Nat} :
  wpAny (model P.prog P.w) A (newList []) (fun acc s₃=>wpAny (model P.prog P.w) A (newFunctionEnv scope env.globals cl [] env.qual none .none (some env)) (fun cenv s₄=>
   codeAny (model P.prog P.w) A (.compStart (.ListComp elt [⟨tgt,it,ifs,0⟩] scope pos) 0 (.ref I) acc { cenv with scope:=relabel scope env }) (RR acc cenv.locals) s₄) E s₃) E { s with heap:=h₂,toks:=tk₂ }:=by
 refine wpAny_newObj_type (wpAny_newFunctionEnv hnc (by intro y hy;simp at hy) (fun h₁ hns₁ hsb₁=>?_) hkind)
 dsimp only at hns₁ hsb₁ ⊢
 generalize hH2:h₂.push { cls:=.type "list",dict:=none,data:=.seq ([]:List Value).toArray } = H2 at hns₁ hsb₁ ⊢
 have hCs:H2.objs.size = h₂.objs.size + 1:=by rw [← hH2,Heap.size_push]
 have sz:∀ b o,s.heap.get? b = some o→b < h₂.objs.size:=fun b o e=>Heap.lt_size (k₂ b o e)
 have kH:∀ b o,h₂.get? b = some o→h₁.get? b = some o:=fun b o e=>hsb₁.extBut b o (by rw [hCs];exact Nat.ne_of_lt (Nat.lt_succ_of_lt (Heap.lt_size e))) (Heap.get?_push_of_some _ (hH2 ▸ Heap.get?_push_of_some _ e))
 have hacc:h₁.PlainList h₂.objs.size #[]:=⟨_,hsb₁.extBut _ _ (by rw [hCs];exact Nat.ne_of_lt (Nat.lt_succ_self _)) (Heap.get?_push_of_some _ (hH2 ▸ Heap.get?_push_size _ rfl))⟩
 generalize hCc:H2.objs.size = Cc at hns₁ hsb₁ hCs ⊢
 generalize hD:h₂.objs.size = D at hacc hCs sz ⊢
 have hfp':∀ b ∈ fp,b < D:=fun b hb=>hD ▸ hfp b hb
 have hDC:D ≠ Cc:=by rw [hCs];exact Nat.ne_of_lt (Nat.lt_succ_self _)
 have hDC':D < Cc:=by rw [hCs];exact Nat.lt_succ_self _
 have hDn:s.heap.get? D = none:=by
  cases q:s.heap.get? D with
  | none=>rfl
  | some o=>exact absurd (sz D o q) (Nat.lt_irrefl _)
 have hCn:s.heap.get? Cc = none:=by
  cases q:s.heap.get? Cc with
  | none=>rfl
  | some o=>exact absurd (Nat.lt_trans (sz Cc o q) hDC') (Nat.lt_irrefl _)
 have hCn2:h₂.get? Cc = none:=by
  cases q:h₂.get? Cc with
  | none=>rfl
  | some o=>exact absurd (Nat.lt_trans (hD ▸ Heap.lt_size q) hDC') (Nat.lt_irrefl _)
 have hDf:D ∉ fp:=fun hm=>Nat.lt_irrefl _ (hfp' _ hm)
 have hCf:Cc ∉ fp:=fun hm=>Nat.lt_irrefl _ (Nat.lt_trans (hfp' _ hm) hDC')
 have loop:=comp_go (tk₃:=tk₂ + ([]:List (Str × Value)).length) (it:=it) (pos:=pos) C ho hkind hnc hcl hcell hcap hx htg hnd hhn ihe iht hil hcs hsm hR hbase W st0 k₂ hwr hIn hfp hit hI hitems hCI hSt hKe hRR hacc hns₁ kH hDC hDn hCn hCn2 hDf hCf
 exact codeAny_compStart_list loop (W.self 0 _ _ _ (W.frame _ _ _ st0 fun b _ o e=>kH b o e) loop)
end
open PySem PyProof.Rows PySem.SeqAt
section
variable {P:PC} {l:Lv} {A:Around} {env:Env} {names:List Str} {S:Sx} {ρ:List Addr} {loc:List (Option AV)} {H:AH} {s:Shared} {X:Str→Prop} {E:Value→Shared→Prop} {Q:AV→AH→Prop}
theorem folded_id {nt:NT} {n:Nat} {kd:Str→Option NameKind} {e:PySem.Expr} {c:CE} (h:compE nt n kd names e = some c) (x:Value):foldedSetIterable e env x = pure x:=by
 cases n with
 | zero=>first | exact none_some h | cases h
 | succ n=>cases e<;>first | rfl | cases h
theorem allSome_len {α β:Type} {f:α→Option β}:∀ {xs:List α} {ys:List β},allSome (xs.map f) = some ys→xs.length = ys.length
 | [],_,h=>by cases h;rfl
 | x::r,_,h=>by obtain ⟨a,t,_,e2,rfl⟩:=allSome_cons h;simp [allSome_len e2]
theorem allSome_get {α β:Type} {f:α→Option β}:∀ {xs:List α} {ys:List β},allSome (xs.map f) = some ys→∀ (j:Nat) (e:α) (c:β),xs[j]? = some e→ys[j]? = some c→f e = some c
 | [],_,_,j,e,c,h1,_=>by simp at h1
 | x::r,_,h,j,e,c,h1,h2=>by
  obtain ⟨a,t,e1,e2,rfl⟩:=allSome_cons h
  cases j with
  | zero=>simp at h1 h2;subst h1 h2;exact e1
  | succ j=>exact allSome_get e2 j e c (by simpa using h1) (by simpa using h2)
theorem compOk_spec {scope:Scope} {kd:Str→Option NameKind} {xs:List Str} (h:compOk scope kd xs = true):scope.kind = .function∧(∀ y ∈ scope.names,y.2 ≠ .cell)∧(∀ y ∈ scope.names,y.2 = .local→scope.names.lookup y.1 = some .local)∧(∀ x ∈ xs,scope.names.lookup x = some .local) ∧
  ∀ x ∈ freeNames scope,kd x = some .cell∧scope.names.lookup x = some .free:=by
 unfold compOk at h
 simp only [Bool.and_eq_true,beq_iff_eq,List.all_eq_true,bne_iff_ne,ne_eq,Bool.or_eq_true,Bool.not_eq_true',decide_eq_true_eq,List.mem_map,forall_exists_index,and_imp,forall_apply_eq_imp_iff₂] at h
 obtain ⟨⟨⟨⟨⟨h1,h2⟩,h3⟩,h4⟩,h5⟩,h6⟩:=h
 refine ⟨h1,h2,fun y hy hl=>(h3 y hy).resolve_left fun q=>q hl,h4,fun x hx=>⟨h5 x hx,?_⟩⟩
 have hx':=hx
 unfold freeNames at hx'
 obtain ⟨p,hp,rfl⟩:=List.mem_map.mp hx'
 have:=h6 p (List.mem_filter.mp hp).1
 rcases this with q | q
 ·have:(freeNames scope).contains p.1 = true:=by simpa using hx
  rw [this] at q;cases q
 ·exact q
theorem comp_tail {I Cc D:Addr} {e:List Addr} {G:AH} {vs:List AV} {ys:Array Value} {h':Heap} (C:Cx P l A env names S ρ loc H s) (a1:s.heap.get? D = none) (a4:D ≠ Cc) (a6:h'.PlainList D ys) (fe:Fresh s.heap e) (a7:HSim ⟨S.ad++[I,Cc,D],S.prog,S.w⟩ (ρ++e) (H++G) h') (a8:VRels ⟨S.ad++[I,Cc,D],S.prog,S.w⟩ (ρ++e) h' vs ys.toList) :
  Fresh s.heap (e++[D])∧Cc ∉ e++[D]∧HSim ⟨S.ad++[Cc],S.prog,S.w⟩ (ρ++(e++[D])) (H++(G++[vs])) h'∧(ρ++(e++[D]))[H.length + G.length]? = some D:=by
 have hDS:D ∉ S.ad++[Cc]:=fun hm=>by
  rcases List.mem_append.mp hm with q | q
  ·obtain ⟨o,ho⟩:=C.sd D q;rw [a1] at ho;cases ho
  ·exact a4 (List.mem_singleton.mp q)
 have Z:=HSim.addO (S:=⟨S.ad++[Cc],S.prog,S.w⟩) a7 rfl rfl (fun b hb=>(List.mem_append.mp hb).elim (List.mem_append_left _) fun q=>List.mem_append_right _ (List.mem_singleton.mp q ▸ .tail _ (.head _))) (List.mem_append_right _ (.tail _ (.tail _ (.head _)))) hDS a6 a8
 rw [List.append_assoc,List.append_assoc] at Z
 refine ⟨fun b hb=>(List.mem_append.mp hb).elim (fe b) fun q=>List.mem_singleton.mp q ▸ a1,fun hm=>?_,Z,?_⟩
 ·rcases List.mem_append.mp hm with q | q
  ·exact a7.off Cc (List.mem_append_right _ q) (List.mem_append_right _ (.tail _ (.head _)))
  ·exact a4 (List.mem_singleton.mp q).symm
 ·rw [← List.append_assoc,← List.length_append,← a7.len]
  exact List.getElem?_concat_length
theorem comp_last {Cc D:Addr} {e:List Addr} {G:AH} {vs:List AV} {h' h'':Heap} {tk:Nat} (fe:Fresh s.heap (e++[D])) (Z:HSim ⟨S.ad++[Cc],S.prog,S.w⟩ (ρ++(e++[D])) (H++(G++[vs])) h') (eD:(ρ++(e++[D]))[H.length + G.length]? = some D) (hCc:s.heap.get? Cc = none) (k:Kp s.heap h') (q:Q (.ref (H.length + G.length)) (H++(G++[vs]))) (hs:Heap.SameBut Cc h' h'') :
  EP S ρ H s Q (.ref D) { s with heap:=h'',toks:=tk }:=
 ⟨h'',tk,e++[D],.ref (H.length + G.length),G++[vs],rfl,fun b o e=>hs.extBut b o (fun hb=>by rw [hb,hCc] at e;cases e) (k b o e),fe,HSim.sub (S:=S) (S':=⟨S.ad++[Cc],S.prog,S.w⟩) rfl rfl (fun b hb=>List.mem_append_left _ hb) (HSim.chg Z fun b o hb e=>hs.extBut b o (fun h=>hb (List.mem_append_right _ (h ▸ .head _))) e),.ref eD,q⟩
theorem comp_run {use:Option (Value→Sem Unit)} {QQ:Value→Shared→Prop} (ho:EnvOk env) {nt:NT} {n:Nat} {scope:Scope} {cap:List Nat} {tgt:PySem.Expr} {nv:Nat} {txs:List Str} {pos pos':Pos} {elt it:PySem.Expr} {ifs:List PySem.Expr} {ce ci:CE} {cs:List CE}
  (ih:∀ (env:Env) (names:List Str),EnvOk env→∀ (e:PySem.Expr) (c:CE),compE nt n env.kindOf names e = some c→EvOk P l env names e c∧TrOk P l env names e c)
  (hi:compE nt n env.kindOf names it = some ci) (hcap:allSome ((freeNames scope).map fun x=>idxOf x names) = some cap) (he:compE nt n (compKd scope env.kindOf) (freeNames scope++txs) elt = some ce)
  (hc:allSome (ifs.map (compE nt n (compKd scope env.kindOf) (freeNames scope++txs))) = some cs) (hok:compOk scope env.kindOf txs = true) (htg:tgtNames tgt = some (nv,txs)) (hnd:txs.Nodup) (hcs:cs.length ≤ 1)
  (C:Cx P l A env names S ρ loc H s) (hE:ExOk P A X E s) (h:wpE P l X (.comp ce cs cap nv ci) loc H Q)
  (fin:∀ h₁ tk₁ e₁ G₁ e G D Cc h' tk m vs,Kp s.heap h₁→Fresh s.heap e₁→Cx P l A env names S (ρ++e₁) loc (H++G₁) { s with heap:=h₁,toks:=tk₁ }→Fresh h₁ (e++[D])→h₁.get? Cc = none→Cc ∉ e++[D]→h'.Ns Cc m→HSim ⟨S.ad++[Cc],S.prog,S.w⟩ (ρ++e₁++(e++[D])) (H++G₁++(G++[vs])) h'→(ρ++e₁++(e++[D]))[(H++G₁).length + G.length]? = some D→Kp h₁ h'→Q (.ref ((H++G₁).length + G.length)) ((H++G₁)++(G++[vs])) →
   compPost (model P.prog P.w) A E use QQ (.ref D) Cc (.ok .next) { s with heap:=h',toks:=tk }) :
  wpAny (model P.prog P.w) A (comprehension (.ListComp elt [⟨tgt,it,ifs,0⟩] scope pos) scope env pos' (newList []) false (eval it env) use) QQ E s:=by
 obtain ⟨h1,h2,h3,h4,h5⟩:=compOk_spec hok
 obtain ⟨cl,ecl,hcl⟩:=closure_ok (env:=env) (scope:=scope) fun x hx=>ho.2.2.2 x (h5 x hx).1
 simp only [w_const,w_var,w_bin,w_neg,w_not,w_and,w_or,w_cmp,w_chain,w_idx,w_slc,w_tup,w_lst,w_dct,w_call,w_prim,w_isin,w_isown,w_meth,w_comp] at h
 refine wpAny_comprehension_free (g:=⟨tgt,it,ifs,0⟩) (gs:=[]) rfl (fun x=>folded_id hi x) ecl h1 h3 ?_
 refine EP.then ((ih env names ho it ci hi).1 A S ρ loc H s _ X E C hE h.2) fun x hh1 tk1 n1 v1 G1 k1 f1 X1 V1 qq=>?_
 obtain ⟨its,items,base,e1,e2,e3,e4,q⟩:=qq
 have C1:=C.kp (tk:=tk1) k1 f1 X1
 refine iter_walk (C.aok.1 h.1) X1 V1 e1 fun I fp wr Pp St h₂ W st0 k₂ hwr hIn hfp _ hit hI=>?_
 have hIf:∀ (Cc:Addr),EnvOk (compEnvC scope cl Cc env):=fun Cc=>compEnv_ok ho h1 h2 hcl
 have kdc:∀ (Cc:Addr),(compEnvC scope cl Cc env).kindOf = compKd scope env.kindOf:=fun Cc=>compEnv_kd scope env cl Cc ho.1
 refine comp_core (it:=it) (pos:=pos) (tk₂:=tk1) C1 ho h1 h2 hcl h5 hcap h4 htg hnd (.inr (C.aok.1 h.1)) (fun Cc=>(ih _ _ (hIf Cc) elt ce (by rw [kdc];exact he)).1) (fun Cc j e c a b=>(ih _ _ (hIf Cc) e c (by rw [kdc];exact allSome_get hc j e c a b)).2) (allSome_len hc) hcs e2 e3 e4 W st0 k₂ hwr hIn hfp hit hI
  (CI:=fun r done G=>compItems (fun x K=>opt (bindItem nv x) fun bx=>wpTests P l X cs (base++bx) K) (fun x n K=>opt (bindItem nv x) fun bx=>wpE P l X ce (base++bx) [] fun r Hc=>eltK (items = its∧base = cap.map fun i=>loc[i]?.join) n r Hc K) r ((H++G1).length + G.length) fun vs G'=>Q (.ref ((H++G1).length + (G++G').length)) (H++G1++((G++G')++[done++vs])))
  (St':=fun x r done G=>opt (bindItem nv x) fun bx=>wpE P l X ce (base++bx) [] fun v Hc=>eltK (items = its∧base = cap.map fun i=>loc[i]?.join) ((H++G1).length + G.length) v Hc fun r' Hc'=>compItems (fun x K=>opt (bindItem nv x) fun bx=>wpTests P l X cs (base++bx) K) (fun x n K=>opt (bindItem nv x) fun bx=>wpE P l X ce (base++bx) [] fun r Hc=>eltK (items = its∧base = cap.map fun i=>loc[i]?.join) n r Hc K) r ((H++G1).length + G.length + Hc'.length) fun vs G'=>Q (.ref ((H++G1).length + (G++(Hc'++G')).length)) (H++G1++((G++(Hc'++G'))++[done++r'::vs])))
  (K:=fun vs G=>Q (.ref ((H++G1).length + G.length)) (H++G1++(G++[vs]))) q (fun x r done G hc=>opt_of hc) (fun x r done G bx hb hs=>by rw [hb] at hs;simpa only [opt_some,List.length_append,List.append_assoc,List.cons_append,List.nil_append,Nat.add_assoc] using hs) (fun done G hc=>by simpa only [compItems,List.append_nil] using hc)
  fun D Cc h' tk m ys vs e G a1 a2 a3 a4 a5 a6 fe a7 a8 a9 a10=>?_
 obtain ⟨t1,t2,t3,t4⟩:=comp_tail C1 a1 a4 a6 fe a7 a8
 exact fin hh1 tk1 n1 G1 e G D Cc h' tk m vs k1 f1 C1 t1 a3 t2 a5 t3 t4 a9 a10
theorem comp_ok (ho:EnvOk env) {nt:NT} {n:Nat} {scope:Scope} {cap:List Nat} {tgt:PySem.Expr} {nv:Nat} {txs:List Str} {pos:Pos} {elt it:PySem.Expr} {ifs:List PySem.Expr} {ce ci:CE} {cs:List CE}
  (ih:∀ (env:Env) (names:List Str),EnvOk env→∀ (e:PySem.Expr) (c:CE),compE nt n env.kindOf names e = some c→EvOk P l env names e c∧TrOk P l env names e c)
  (hi:compE nt n env.kindOf names it = some ci) (hcap:allSome ((freeNames scope).map fun x=>idxOf x names) = some cap) (he:compE nt n (compKd scope env.kindOf) (freeNames scope++txs) elt = some ce)
  (hc:allSome (ifs.map (compE nt n (compKd scope env.kindOf) (freeNames scope++txs))) = some cs) (hok:compOk scope env.kindOf txs = true) (htg:tgtNames tgt = some (nv,txs)) (hnd:txs.Nodup) (hcs:cs.length ≤ 1) :
  EvOk P l env names (.ListComp elt [⟨tgt,it,ifs,0⟩] scope pos) (.comp ce cs cap nv ci):=by
 intro A S ρ loc H s Q X E C hE h
 show wpAny _ A (comprehension (.ListComp elt [⟨tgt,it,ifs,0⟩] scope pos) scope env (firstIterPos [⟨tgt,it,ifs,0⟩] pos) (newList []) false (eval it env) none) _ _ s
 refine comp_run ho ih hi hcap he hc hok htg hnd hcs C hE h ?_
 intro h₁ tk₁ e₁ G₁ e G D Cc h' tk m vs k1 f1 C1 fe hCc _ hn Z eD k' q
 exact ⟨m,hn,fun h'' hs=>EP.after (G:=G₁) (tk₁:=tk₁) k1 f1 (comp_last fe Z eD hCc k' q hs)⟩
end
open PySem PyProof.Rows PySem.SeqAt
theorem strKey_some {k:Option PySem.Expr} {x:Str} (h:strKey k = some x):∃ kk kp,k = some (.Constant (.str x) kk kp):=by
 cases k with
 | none=>first | exact none_some h | cases h
 | some e=>
  cases e<;>first | (exact none_some h) | (cases h;done) | skip
  rename_i c kk kp
  cases c<;>first | (exact none_some h) | (cases h;done) | skip
  cases h
  exact ⟨_,_,rfl⟩
section
variable {P:PC} {l:Lv} {A:Around} {env:Env} {names:List Str} {S:Sx} {ρ:List Addr} {loc:List (Option AV)} {H:AH} {s:Shared} {X:Str→Prop} {E:Value→Shared→Prop} {Q:AV→AH→Prop}
theorem Cx.guard {x':List Addr} {h':Heap} {tk:Nat} (C:Cx P l A env names S ρ loc H s) (hx:∀ b ∈ x',s.heap.get? b = none) (k:Kp s.heap h') (hd:∀ b ∈ x',∃ o,h'.get? b = some o):Cx P l A env names ⟨S.ad++x',S.prog,S.w⟩ ρ loc H { s with heap:=h',toks:=tk } where
 aok:=C.aok
 gok:=C.gok.kp k
 pp:=C.pp
 pw:=C.pw
 sd:=fun b hb=>(List.mem_append.mp hb).elim (fun q=>by obtain ⟨o,e⟩:=C.sd b q;exact ⟨o,k _ _ e⟩) (hd b)
 sim:=(C.sim.avoid hx).kp k
 loc:=fun i y v en e=>by obtain ⟨rv,h2,h3⟩:=C.loc i y v en e;exact ⟨rv,h2.kp k,(h3.avoid hx).kp0 k⟩
theorem any_key_false {k:Str}:∀ {kvs:List (Str × Value)},k ∉ kvs.map (·.1)→kvs.any (fun kv=>decide (kv.1 = k)) = false
 | [],_=>rfl
 | p::r,h=>by
  simp at h
  simp [any_key_false (kvs:=r) (by simpa using h.2),Ne.symm h.1]
theorem merged_nodup:∀ (more kvs:List (Str × Value)),((kvs++more).map (·.1)).Nodup→merged kvs more = kvs++more
 | [],kvs,_=>by simp [merged]
 | p::r,kvs,h=>by
  have e:stored kvs p.1 p.2 = kvs++[p]:=by
   unfold stored
   rw [if_neg]
   rw [any_key_false]
   ·simp
   ·intro hm
    rw [List.map_append,List.map_cons,List.nodup_append] at h
    exact h.2.2 _ hm _ (.head _) rfl
  show merged (stored kvs p.1 p.2) r = _
  rw [e,merged_nodup r (kvs++[p]) (by simpa using h)]
  simp
theorem valueAt_zip {k:Str}:∀ (ks:List Str) (xs:List Value),valueAt (ks.zip xs) k = (ks.zip xs).lookup k
 | [],_=>rfl
 | _::_,[]=>rfl
 | a::ks,x::xs=>by
  have ih:=valueAt_zip (k:=k) ks xs
  unfold valueAt at ih ⊢
  simp only [List.zip_cons_cons,List.find?_cons,List.lookup_cons]
  by_cases h:a = k
  ·subst h;simp
  ·have h':(k == a) = false:=by simpa using Ne.symm h
   simp only [h,decide_false,h',ih]
theorem pairs_ok {nt:NT} {n:Nat} {kd:Str→Option NameKind} {pos:Pos} (ih:∀ (e:PySem.Expr) (c:CE),compE nt n kd names e = some c→EvOk P l env names e c) :
  ∀ (keys:List (Option PySem.Expr)) (es:List PySem.Expr) (ks:List Str) (cs:List CE),allSome (keys.map strKey) = some ks→allSome (es.map (compE nt n kd names)) = some cs→ks.length = cs.length→∀ {ρ:List Addr} {H:AH} {s:Shared} {Q:List AV→AH→Prop},Cx P l A env names S ρ loc H s→ExOk P A X E s→wpEs P l X cs loc H Q →
   wpAny (model P.prog P.w) A (evalPairs (pairTrees keys es env pos)) (fun vs s₁=>∃ xs,EPs S ρ H s Q xs s₁∧Carries (strKind P.prog P.w) vs (ks.zip xs)∧xs.length = ks.length) E s
 | [],[],_,_,hk,hc,_,ρ,H,s,Q,C,hE,h=>by
  cases hk;cases hc
  exact pairTrees_nil_walk ⟨[],⟨s.heap,s.toks,[],[],[],rfl,Kp.refl _,Fresh.nil _,by simpa using C.sim,.nil,by simpa [w_nil,w_cons] using h⟩,trivial,rfl⟩
 | [],_::_,_,_,hk,hc,hl,_,_,_,_,_,_,_=>by
  obtain ⟨a,t,e1,e2,rfl⟩:=allSome_cons hc
  cases hk;simp at hl
 | _::_,[],_,_,hk,hc,hl,_,_,_,_,_,_,_=>by
  obtain ⟨a,t,e1,e2,rfl⟩:=allSome_cons hk
  cases hc;simp at hl
 | k::keys,e::es,_,_,hk,hc,hl,ρ,H,s,Q,C,hE,h=>by
  obtain ⟨kx,kt,k1,k2,rfl⟩:=allSome_cons hk
  obtain ⟨a,t,e1,e2,rfl⟩:=allSome_cons hc
  obtain ⟨kk,kp,rfl⟩:∃ kk kp,k = some (.Constant (.str kx) kk kp):=by
   exact strKey_some k1
  refine pairTrees_cons_walk ?_
  rw [eval_Constant]
  refine wpAny_mkText ?_
  have C0:Cx P l A env names S ρ loc H { s with toks:=s.toks + 1 }:=⟨C.aok,C.gok,C.pp,C.pw,C.sd,C.sim,C.loc⟩
  have E0:ExOk P A X E { s with toks:=s.toks + 1 }:=fun h tk e s' k q=>hE h tk e s' k q
  refine EP.then (ih e a e1 A S ρ loc H { s with toks:=s.toks + 1 } _ X E C0 E0 h) fun x h1 tk1 n1 v1 G1 k1' f1 X1 V1 q1=>?_
  refine wpAny_mono (pairs_ok ih keys es kt t k2 e2 (by simpa using hl) (C0.kp (tk:=tk1) k1' f1 X1) (E0.kp k1') q1) (fun vs s₂ hx=>?_) fun _ _ y=>y
  obtain ⟨xs,⟨h2,tk2,n2,us,G2,rfl,k2',f2,X2,V2,q2⟩,hcar,hxl⟩:=hx
  exact ⟨x::xs,⟨h2,tk2,n1++n2,v1::us,G1++G2,rfl,Kp.trans k1' k2',fresh_trans k1' f1 f2,by simpa [List.append_assoc] using X2,by simpa [List.append_assoc] using VRels.cons (V1.kp k2' f2) V2,by simpa [List.append_assoc] using q2⟩,⟨strKind_is P.prog P.w _ _,rfl,hcar⟩,by simp [hxl]⟩
theorem dct_ok {nt:NT} {n:Nat} {kd:Str→Option NameKind} {keys:List (Option PySem.Expr)} {es:List PySem.Expr} {p:Pos} {ks:List Str} {cs:List CE} (ih:∀ (e:PySem.Expr) (c:CE),compE nt n kd names e = some c→EvOk P l env names e c)
  (hk:allSome (keys.map strKey) = some ks) (e:allSome (es.map (compE nt n kd names)) = some cs) (hl:ks.length = cs.length∧ks.Nodup∧ks.length < 15):EvOk P l env names (.Dict keys es p) (.dct ks cs):=by
 intro A S ρ loc H s Q X E C hE h
 simp only [w_const,w_var,w_bin,w_neg,w_not,w_and,w_or,w_cmp,w_chain,w_idx,w_slc,w_tup,w_lst,w_dct,w_call,w_prim,w_isin,w_isown,w_meth,w_comp] at h
 have n0:=size_none s.heap
 have nS:s.heap.objs.size ≠ sysModules:=fun q=>by
  obtain ⟨o,_,_,ho,_⟩:=C.gok.g
  have:=Heap.lt_size ho
  rw [q] at this
  exact absurd this (by decide)
 cases ks with
 | nil=>
  have:keys = []:=List.length_eq_zero_iff.mp (allSome_len hk)
  subst this
  have hcs:cs = []:=List.length_eq_zero_iff.mp (by simpa using hl.1.symm)
  subst hcs
  have:es = []:=List.length_eq_zero_iff.mp (allSome_len e)
  subst this
  simp only [w_nil,w_cons] at h
  refine wpAny_Dict_empty ?_
  refine EP.grow C.sim (push_kp _ _) (.dict (f:=fun _=>none) (xs:=[]) (fun hm=>by obtain ⟨o,ho⟩:=C.sim.mem hm;rw [n0] at ho;cases ho) (fun hm=>by obtain ⟨o,ho⟩:=C.sd _ hm;rw [n0] at ho;cases ho) ?_ (fun _=>rfl) .nil) h
  have:=(Heap.DictOf.new (knd:=strKind S.prog S.w) s.heap).mapOf
  exact ⟨nS,this⟩
 | cons k0 kr=>
 have hlen:=allSome_len hk
 have hle:=allSome_len e
 refine wpAny_Dict_walk (knd:=strKind P.prog P.w) ?_ (by (first | lia | omega)) (by intro h;rw [h] at hlen;simp at hlen) (by (first | lia | omega)) ?_
 ·rw [List.all_eq_true]
  intro k hkm
  obtain ⟨i,hi,rfl⟩:=List.mem_iff_getElem.mp hkm
  have:=allSome_get hk i keys[i] ((k0::kr)[i]'(by (first | lia | omega))) (by simp [hi]) (by simp)
  obtain ⟨_,_,q⟩:=strKey_some this
  rw [q];rfl
 ·have hx':∀ b ∈ [s.heap.objs.size],s.heap.get? b = none:=fun b hb=>by simp at hb;subst hb;exact n0
  have C0:=C.guard (tk:=s.toks) (x':=[s.heap.objs.size]) (h':=s.heap.push { cls:=.type "dict",data:=.dict #[] }) hx' (push_kp _ _) (fun b hb=>by simp at hb;subst hb;exact ⟨_,Heap.get?_push_size _ rfl⟩)
  refine wpAny_mono (pairs_ok ih keys es (k0::kr) cs hk e hl.1 C0 (hE.kp (push_kp _ _)) h) (fun vs s₁ hx=>?_) fun _ _ y=>y
  obtain ⟨xs,⟨h2,tk2,n2,us,G2,rfl,k2,f2,X2,V2,q2⟩,hcar,hxl⟩:=hx
  refine ⟨_,hcar,(Heap.DictOf.new (knd:=strKind P.prog P.w) s.heap).keep k2,fun h' hd hs=>?_⟩
  have kk:Kp s.heap h':=fun b o e=>hs.extBut b o (fun hb=>by rw [hb,n0] at e;cases e) (k2 _ _ (push_kp _ _ b o e))
  have chg:∀ b o,b ∉ (⟨S.ad++[s.heap.objs.size],S.prog,S.w⟩:Sx).ad→h2.get? b = some o→h'.get? b = some o:=fun b o hb e=>hs.extBut b o (fun q=>hb (List.mem_append_right _ (by simp [q]))) e
  have hsub:∀ b ∈ S.ad,b ∈ (⟨S.ad++[s.heap.objs.size],S.prog,S.w⟩:Sx).ad:=fun b hb=>List.mem_append_left _ hb
  have fr:Fresh s.heap n2:=fun a ha=>by
   cases q:s.heap.get? a with
   | none=>rfl
   | some o=>have:=f2 a ha;rw [push_kp _ _ a o q] at this;cases this
  have hDn:s.heap.objs.size ∉ ρ++n2:=fun hm=>(List.mem_append.mp hm).elim (fun q=>by obtain ⟨o,ho⟩:=C.sim.mem q;rw [n0] at ho;cases ho) fun q=>by have:=f2 _ q;rw [Heap.get?_push_size _ rfl] at this;cases this
  have hks:((k0::kr).zip xs).map (·.1) = k0::kr:=by rw [List.map_fst_zip];(first | lia | omega)
  rw [merged_nodup _ [] (by rw [List.nil_append,hks];exact hl.2.1),List.nil_append] at hd
  have hm:=hd.mapOf
  refine ⟨h',_,n2,.dict (k0::kr) us,G2,rfl,kk,fr,HSim.sub (S:=S) (S':=⟨S.ad++[s.heap.objs.size],S.prog,S.w⟩) rfl rfl hsub (X2.chg chg),?_,q2⟩
  refine .dict hDn (fun hm=>by obtain ⟨o,ho⟩:=C.sd _ hm;rw [n0] at ho;cases ho) (by rw [C.pp,C.pw];exact ⟨nS,hm⟩) (fun k=>valueAt_zip _ _) (VRels.sub (S:=S) (S':=⟨S.ad++[s.heap.objs.size],S.prog,S.w⟩) rfl rfl hsub (V2.chg chg))
end
open PySem PyProof.Rows PySem.SeqAt
section
variable {P:PC} {l:Lv} {A:Around} {env:Env} {names:List Str} {S:Sx} {ρ:List Addr} {loc:List (Option AV)} {H:AH} {s:Shared} {X:Str→Prop} {E:Value→Shared→Prop} {Q:AV→AH→Prop}
theorem base_id {nt:NT} {n:Nat} {kd:Str→Option NameKind} {o:PySem.Expr} {c:CE} (h:compE nt n kd names o = some c) (name:Str):attributeBase o name env (eval o env) = eval o env:=by
 cases n with
 | zero=>first | exact none_some h | cases h
 | succ n=>
  cases o<;>first | rfl | skip
  rename_i f args kws p
  rcases args with _ | ⟨a,r⟩
  ·cases f<;>first | rfl | skip
   exfalso
   rename_i x xp
   replace h:(if kws.isEmpty then (if isGlob kd x then (if x = ("isinstance" : Str) then compIsi nt (compE nt n kd names) kd [] else (compFn nt (compE nt n kd names) x []).or (compNew nt (compE nt n kd names) x [])) else Option.none) else Option.none) = some c:=h
   split at h
   ·split at h
    ·split at h
     ·first | exact none_some h | cases h
     ·have e1:compFn nt (compE nt n kd names) x [] = Option.none:=rfl
      have e2:compNew nt (compE nt n kd names) x [] = Option.none:=if_neg fun q=>by cases q.2
      rw [e1,e2] at h
      cases h
    ·first | exact none_some h | cases h
   ·first | exact none_some h | cases h
  ·cases f<;>rfl
theorem star_all {nt:NT} {n:Nat} {kd:Str→Option NameKind} {pos:Pos} (es:List PySem.Expr) (cs:List CE) (h:allSome (es.map (compE nt n kd names)) = some cs):(backTo pos (starEach es env)).all (fun x=>!x.1) = true:=by
 have:=star_any (env:=env) (pos:=pos) es cs h
 rw [List.any_eq_false] at this
 rw [List.all_eq_true]
 intro x hx
 simpa using this x hx
theorem isL_real {v:AV} {x:Value} (Z:HSim S ρ H s.heap) (V:VRel S ρ s.heap v x) (h:v.isL = true):∃ a items,x = .ref a∧s.heap.PlainList a items:=by
 cases v with
 | fl ws=>obtain ⟨_,_,hi,_⟩:=V.iFl;exact ⟨_,_,rfl,hi⟩
 | ref n=>obtain ⟨hi⟩:=V.iRef;obtain ⟨items,p,_⟩:=Z.mem' hi;exact ⟨_,_,rfl,p⟩
 | _=>exact absurd h Bool.false_ne_true
theorem meth_runG {T:String} {Gd:AV→Prop} {On:AV→Prop→Prop} (hon:∀ v K,On v K→Gd v∧K) (pa:PlainAttrs T) (real:∀ {ρ:List Addr} {H:AH} {s:Shared} {v:AV} {x:Value},HSim S ρ H s.heap→VRel S ρ s.heap v x→Gd v→s.TypeIs x T∧∀ a,x = .ref a→∃ ob,s.heap.get? a = some ob∧ob.dict = none) {nt:NT} {n:Nat} {kd:Str→Option NameKind} {o:PySem.Expr} {name:Str} {id:String} {ap p:Pos} {es:List PySem.Expr} {c:CE} {cs:List CE} {R:AV→List AV→AH→Prop} {QQ:Value→Shared→Prop}
  (ih:∀ (e:PySem.Expr) (c:CE),compE nt n kd names e = some c→EvOk P l env names e c) (e1:compE nt n kd names o = some c) (e2:allSome (es.map (compE nt n kd names)) = some cs) (hl:(ap.endLine == p.line) = true) (hlen:cs.length ≤ 20)
  (slot:Slot T name id) (hty:typeOf (.builtin id) = pure (.type "method_descriptor"))
  (C:Cx P l A env names S ρ loc H s) (hE:ExOk P A X E s) (h:wpE P l X c loc H fun v H₁=>On v <| wpEs P l X cs loc H₁ fun vs H₂=>R v vs H₂)
  (fin:∀ {h':Heap} {tk:Nat} {e:List Addr} {G:AH} {v:AV} {vs:List AV} {x:Value} {xs:List Value},Kp s.heap h'→Fresh s.heap e→Cx P l A env names S (ρ++e) loc (H++G) { s with heap:=h',toks:=tk }→VRel S (ρ++e) h' v x→VRels S (ρ++e) h' vs xs→Gd v→R v vs (H++G) →
   wpAny (model P.prog P.w) A (call (.builtin id) (x::xs)) QQ E { s with heap:=h',toks:=tk }) :
  wpAny (model P.prog P.w) A (eval (.Call (.Attribute o name ap) es [] p) env) QQ E s:=by
 have hln:=allSome_len e2
 refine wpAny_Call_method (base_id e1 name) ?_ hl pa slot hty ?_
 ·rw [star_all es cs e2]
  show (true && true && decide (es.length + 0 + 0 < 30)) = true
  simp;(first | lia | omega)
 refine EP.then (ih o c e1 A S ρ loc H s _ X E C hE h) fun x h1 tk1 n1 v1 G1 k1 f1 X1 V1 qz=>?_
 obtain ⟨hL,q1⟩:=hon _ _ qz
 obtain ⟨hT,hD⟩:=real (s:={ s with heap:=h1,toks:=tk1 }) X1 V1 hL
 refine ⟨hT,hD,?_⟩
 have C1:=C.kp (tk:=tk1) k1 f1 X1
 cases es with
 | nil=>
  cases e2
  simp only [w_nil,w_cons] at q1
  exact callWith_method0 (fin k1 f1 C1 V1 .nil hL q1)
 | cons e r=>
  obtain ⟨c0,t0,e3,e4,rfl⟩:=allSome_cons e2
  refine callWith_method1 (EPs.then (args_ok ih (e::r) (c0::t0) e2 C1 (hE.kp k1) q1) fun xs h2 tk2 n2 vs G2 k2 f2 X2 V2 q2=>?_) (not_starred e3 r) (star_any r t0 e4)
  have:=fin (tk:=tk2) (k1.trans k2) (fresh_trans k1 f1 f2) (by simpa [List.append_assoc] using C1.kp (tk:=tk2) k2 f2 X2) (by simpa [List.append_assoc] using V1.kp k2 f2) (by simpa [List.append_assoc] using V2) hL (by simpa [List.append_assoc] using q2)
  exact this
theorem isL_typed {ρ:List Addr} {H:AH} {s:Shared} {v:AV} {x:Value} (Z:HSim S ρ H s.heap) (V:VRel S ρ s.heap v x) (h:v.isL = true):s.TypeIs x "list"∧∀ a,x = .ref a→∃ ob,s.heap.get? a = some ob∧ob.dict = none:=by
 obtain ⟨a,items,rfl,⟨m,hp⟩⟩:=isL_real Z V h
 exact ⟨⟨_,hp,rfl⟩,fun b hb=>by cases hb;exact ⟨_,hp,rfl⟩⟩
theorem meth_run {nt:NT} {n:Nat} {kd:Str→Option NameKind} {o:PySem.Expr} {name:Str} {id:String} {ap p:Pos} {es:List PySem.Expr} {c:CE} {cs:List CE} {R:AV→List AV→AH→Prop} {QQ:Value→Shared→Prop}
  (ih:∀ (e:PySem.Expr) (c:CE),compE nt n kd names e = some c→EvOk P l env names e c) (e1:compE nt n kd names o = some c) (e2:allSome (es.map (compE nt n kd names)) = some cs) (hl:(ap.endLine == p.line) = true) (hlen:cs.length ≤ 20)
  (slot:Slot "list" name id) (hty:typeOf (.builtin id) = pure (.type "method_descriptor"))
  (C:Cx P l A env names S ρ loc H s) (hE:ExOk P A X E s) (h:wpE P l X c loc H fun v H₁=>onL v <| wpEs P l X cs loc H₁ fun vs H₂=>R v vs H₂)
  (fin:∀ {h':Heap} {tk:Nat} {e:List Addr} {G:AH} {v:AV} {vs:List AV} {x:Value} {xs:List Value},Kp s.heap h'→Fresh s.heap e→Cx P l A env names S (ρ++e) loc (H++G) { s with heap:=h',toks:=tk }→VRel S (ρ++e) h' v x→VRels S (ρ++e) h' vs xs→v.isL = true→R v vs (H++G) →
   wpAny (model P.prog P.w) A (call (.builtin id) (x::xs)) QQ E { s with heap:=h',toks:=tk }) :
  wpAny (model P.prog P.w) A (eval (.Call (.Attribute o name ap) es [] p) env) QQ E s:=
 meth_runG (Gd:=fun v=>v.isL = true) (On:=onL) (fun _ _ h=>onL_of h) F.plainAttrs_list isL_typed ih e1 e2 hl hlen slot hty C hE h fin
theorem countP_reads {h:Heap} {d:PyData} {ys:List Value} {ds:List PyData} {as:List Addr} (r:ReadsAll h ys ds as) (hc:PyData.canLayAll0 ds = true):ys.countP (eqIn h d) = ds.countP fun e=>e.eqv d:=
 ReadsAll.ind (M:=fun ys ds=>PyData.canLayAll0 ds = true→ys.countP (eqIn h d) = ds.countP fun e=>e.eqv d) (fun _=>rfl) (fun _ _ _ _ _ r ih hc=>by
  simp [PyData.canLayAll0] at hc
  simp [List.countP_cons,eqIn_of (da:=d) r hc.1,ih hc.2]) r hc
theorem findIdx_reads {h:Heap} {d:PyData} {ys:List Value} {ds:List PyData} {as:List Addr} (r:ReadsAll h ys ds as) (hc:PyData.canLayAll0 ds = true):ys.findIdx? (eqIn h d) = ds.findIdx? fun e=>e.eqv d:=
 ReadsAll.ind (M:=fun ys ds=>PyData.canLayAll0 ds = true→ys.findIdx? (eqIn h d) = ds.findIdx? fun e=>e.eqv d) (fun _=>rfl) (fun _ _ _ _ _ r ih hc=>by
  simp [PyData.canLayAll0] at hc
  simp [List.findIdx?_cons,eqIn_of (da:=d) r hc.1,ih hc.2]) r hc
theorem opMeth1 {vs:List AV} {k:AV→Prop} (h:on1 vs k):∃ v,vs = [v]∧k v:=on1_of h
theorem meth_ok {nt:NT} {n:Nat} {kd:Str→Option NameKind} {o:PySem.Expr} {name:Str} {ap p:Pos} {es:List PySem.Expr} {c:CE} {cs:List CE} {m:Mt}
  (ih:∀ (e:PySem.Expr) (c:CE),compE nt n kd names e = some c→EvOk P l env names e c) (e1:compE nt n kd names o = some c) (e2:allSome (es.map (compE nt n kd names)) = some cs) (hl:(ap.endLine == p.line) = true) (hlen:cs.length = 1) (hm:mtNames.lookup name = some m) :
  EvOk P l env names (.Call (.Attribute o name ap) es [] p) (.meth m c cs):=by
 intro A S ρ loc H s Q X E C hE h
 simp only [w_const,w_var,w_bin,w_neg,w_not,w_and,w_or,w_cmp,w_chain,w_idx,w_slc,w_tup,w_lst,w_dct,w_call,w_prim,w_isin,w_isown,w_meth,w_comp] at h
 have hmem:=lookup_mem hm
 simp only [mtNames,List.mem_cons,Prod.mk.injEq,List.not_mem_nil,or_false] at hmem
 have eqs:∀ {h':Heap} {tk:Nat} {e:List Addr} {G:AH} {vs:List AV} {items:Array Value} {ds:List PyData} {u:AV} {y:Value} {d:PyData},Cx P l A env names S (ρ++e) loc (H++G) { s with heap:=h',toks:=tk }→VRels S (ρ++e) h' vs items.toList→Rds (H++G) 9 vs ds→VRel S (ρ++e) h' u y→Rd (H++G) 9 u d →
   (∀ z,z ∈ items→EqAt A.in1 { s with heap:=h',toks:=tk } z y (eqIn h' d z))∧∃ as,ReadsAll h' items.toList ds as:=by
  intro h' tk e G vs items ds u y d C' vv rs Vu ru
  obtain ⟨as,qa⟩:=ru.reads C'.sim Vu
  obtain ⟨bs,qb⟩:=rs.reads C'.sim vv
  refine ⟨fun z hz=>?_,bs,qb⟩
  obtain ⟨d',cs,hd,q⟩:=readsAll_get qb (y:=z) (by simpa using hz)
  have e0:eqIn h' d z = PyData.eqv d' d:=eqIn_of (da:=d) q (canLay_mem rs.ok.1 hd)
  rw [e0]
  exact eqAt_reads d' d A.in1 { s with heap:=h',toks:=tk } z y cs as q qa (canLay_mem rs.ok.1 hd) ru.ok.1 (min_lt1 (units_ok C.aok) (depth_mem rs.ok.2 hd))
 rcases hmem with ⟨rfl,rfl⟩ | ⟨rfl,rfl⟩
 ·refine meth_run ih e1 e2 hl (by (first | lia | omega)) F.slot_list_count F.type_list_count C hE h ?_
  intro h' tk e G v vs x xs k fr C' V Vs hL q
  obtain ⟨u,eu,q⟩:=opMeth1 q
  subst eu
  obtain ⟨y,ey,Vu⟩:=Vs.of1
  subst ey
  ·skip
   obtain ⟨ws,ds,d,ei,rs,ru,hsm,q⟩:=q
   obtain ⟨a,items,rfl,⟨m,hp⟩,vv⟩:=items_real C'.sim V ei
   obtain ⟨he,as,ra⟩:=eqs C' vv rs Vu ru
   refine call_meets F.slot_list_count ⟨_,hp,rfl⟩ F.entry_list_count (F.args_list_count_2 _ _) (list_countAt a items m none #[] _ (eqIn h' d)) ⟨hp,he,?_⟩
   rw [countP_reads ra rs.ok.1]
   exact EP.after k fr (EP.val C'.sim (.int _ _) q _)
 ·refine meth_run ih e1 e2 hl (by (first | lia | omega)) F.slot_list_index F.type_list_index C hE h ?_
  intro h' tk e G v vs x xs k fr C' V Vs hL q
  obtain ⟨u,eu,q⟩:=opMeth1 q
  subst eu
  obtain ⟨y,ey,Vu⟩:=Vs.of1
  subst ey
  ·skip
   obtain ⟨ws,ds,d,j,ei,rs,ru,hsm,ej,q⟩:=q
   obtain ⟨a,items,rfl,⟨m,hp⟩,vv⟩:=items_real C'.sim V ei
   obtain ⟨he,as,ra⟩:=eqs C' vv rs Vu ru
   rw [← findIdx_reads ra rs.ok.1,List.findIdx?_eq_some_iff_getElem] at ej
   obtain ⟨hj,hit,hno⟩:=ej
   have hj':j < items.size:=by simpa using hj
   have e3:=vv.size
   refine call_meets F.slot_list_index ⟨_,hp,rfl⟩ F.entry_list_index (F.args_list_index_2 _ _) (list_indexAt a items m none #[] _ (eqIn h' d) j hj' (by unfold smallN at hsm;(first | lia | omega)) (by simpa using hit) (fun m hm hmj=>by have:=hno m hmj;simpa using this)) ⟨hp,he,?_⟩
   exact EP.after k fr (EP.val C'.sim (.int _ _) q _)
end
open PySem PyProof.Rows PySem.SeqAt
section
variable {P:PC} {l:Lv} {A:Around} {env:Env} {names:List Str} {S:Sx} {ρ:List Addr} {loc:List (Option AV)} {H:AH} {s:Shared} {X:Str→Prop} {E:Value→Shared→Prop} {Q:AV→AH→Prop}
theorem handed {h:Heap} {v:AV} {x:Value} (V:VRel S ρ h v x):handedOut x = pure x:=VRel.casesOn (motive_1:=fun _ x _=>handedOut x = pure x) V rfl (fun _=>rfl) (fun _ _=>rfl) (fun _ _=>rfl) (fun _ _ _ _=>rfl) (fun _ _ _ _=>rfl) (fun _=>rfl) (fun _ _ _ _=>rfl) (fun _ _ _ _ _=>rfl) (fun _ _ _=>rfl) (fun _ _ _ _ _ _ _=>rfl)
theorem lk_states:typeLookup (.type "object") "states" = pure none:=by rw [typeLookup_type,builtinLookup_eq_fast];kernel_rfl
theorem lk_row:typeLookup (.type "object") "row" = pure none:=by rw [typeLookup_type,builtinLookup_eq_fast];kernel_rfl
theorem attr_ok {y x:Str} {yp p:Pos} {c:CE} (ie:EvOk P l env names (.Name y yp) c) (hx:x = ("states" : Str) ∨ x = ("row" : Str)):EvOk P l env names (.Attribute (.Name y yp) x p) (.attr c x):=by
 intro A S ρ loc H s Q X E C hE h
 rw [w_attr] at h
 refine Attribute_name (EP.then (ie A S ρ loc H s _ X E C hE h) fun v h1 tk1 n1 v1 G1 k1 f1 X1 V1 qz=>?_)
 obtain ⟨c,ks,vs,u,rfl,hc,eu,q⟩:=onAttr_of qz
 have G:=(C.kp (tk:=tk1) k1 f1 X1).gok
 cases V1.iObj with
 | mk ha hs hd hs' hm he hv=>
 obtain ⟨z,ez,Vz⟩:=hv.lookup eu
 obtain ⟨N,nm,qq,bs,sn,sub,col,dd,k0,k1',k2,k3,k5,hN,hC,_,hng,_,_,hst,hrw⟩:=(G.oc c hc).all
 refine load_attr hC hN hng ?_ ?_ hm.inst ((he x).trans ez) (handed Vz) (EP.after k1 f1 (EP.val (s:={ s with heap:=h1,toks:=tk1 }) X1 Vz q _))
 ·rcases hx with rfl | rfl
  ·exact hst
  ·exact hrw
 ·rcases hx with rfl | rfl
  ·exact lk_states
  ·exact lk_row
theorem call_mth {prog:Program} {w:World} {o:PySem.Expr} {name:Str} {apos pos:Pos} {args:List PySem.Expr} {Q:Value→Shared→Prop} (hbase:attributeBase o name env (eval o env) = eval o env)
  (hfew:((backTo pos (starEach args env)).all (fun x=>!x.1) && (backToKw pos (keywordEach [] env)).all (fun x=>x.1.isSome) && decide (args.length + ([]:List Keyword).length + (if ([]:List Keyword).isEmpty then 0 else 1) < 30)) = true) (hline:(apos.endLine == pos.line) = true)
  (h:wpAny (model prog w) A (eval o env) (fun ov s₁=>∀ pl,wpAny (model prog w) A (getMethod ov name pl) (fun fx s₂=>wpAny (model prog w) A (callWith pos fx.1 fx.2 (backTo pos (starEach args env)) []) Q E s₂) E s₁) E s) :
  wpAny (model prog w) A (eval (.Call (.Attribute o name apos) args [] pos) env) Q E s:=by
 rw [arm_eval_Call,hbase]
 refine wpAny_bind (wpAny_mono h (fun ov s₁ h₁=>?_) fun _ _ e=>e)
 refine wpAny_bind (wpAny_standAt ?_)
 have hform:methodCallForm (args.length + ([]:List Keyword).length) (backTo pos (starEach args env)) (backToKw pos (keywordEach [] env)) = true:=hfew
 have hpos:methodCallPos true o env apos pos = pure pos:=by unfold methodCallPos;simp [hline]
 unfold methodCall
 rw [hform]
 refine wpAny_bind (wpAny_holding (wpAny_mono (h₁ _) (fun fx s₂ h₂=>?_) fun _ _ y=>y))
 exact wpAny_bind (wpAny_of_eq hpos h₂)
theorem lookup_off {x:Str} {ks:List Str} {xs:List Value} (h:x ∉ ks):(ks.zip xs).lookup x = none:=by
 induction ks generalizing xs with
 | nil=>rfl
 | cons k r ih=>
  cases xs with
  | nil=>rfl
  | cons z xs=>
   rw [List.zip_cons_cons,List.lookup_cons]
   have:(x == k) = false:=beq_eq_false_iff_ne.mpr fun e=>h (e ▸ .head _)
   rw [this]
   exact ih fun q=>h (.tail _ q)
theorem mth_ok {nt:NT} {n:Nat} {o:PySem.Expr} {m:Str} {f:Nat} {ap p:Pos} {es:List PySem.Expr} {c:CE} {cs:List CE} (ih:∀ (e:PySem.Expr) (c:CE),compE nt n env.kindOf names e = some c→EvOk P l env names e c)
  (e1:compE nt n env.kindOf names o = some c) (e2:allSome (es.map (compE nt n env.kindOf names)) = some cs) (hl:(ap.endLine == p.line) = true) (hlen:cs.length ≤ 20) (hnm:P.nt.nm f = some (qualOf P m)) (hf:P.nt.fns.length ≤ f) :
  EvOk P l env names (.Call (.Attribute o m ap) es [] p) (.mth f m c cs):=by
 intro A S ρ loc H s Q X E C hE h
 rw [w_mth] at h
 have hln:=allSome_len e2
 refine call_mth (base_id e1 m) ?_ hl ?_
 ·rw [star_all es cs e2]
  show (true && true && decide (es.length + 0 + 0 < 30)) = true
  simp;(first | lia | omega)
 refine EP.then (ih o c e1 A S ρ loc H s _ X E C hE h.2) fun x h1 tk1 n1 v1 G1 k1 f1 X1 V1 qz=>?_
 obtain ⟨c,ks,vs,rfl,hc,hm,q⟩:=onObj_of qz
 have C1:=C.kp (tk:=tk1) k1 f1 X1
 cases V1.iObj with
 | mk ha hs hd hs' hmap he hv=>
 intro pl
 obtain ⟨N,nm,qq,bs,sn,sub,col,dd,k0,k1',k2,k3,k5,hN,hC,_,hng,hnh,_,_,_⟩:=(C1.gok.oc c hc).all
 obtain ⟨a,ob,fd,em,ea,eo,ec,efd⟩:=C1.gok.mat hnm hf
 refine method_of hC hN hng hnh em eo ec (typeLookup_type _ _) hmap.inst ((he m).trans (lookup_off hm)) ?_
 show wpAny _ _ (callWith p (.ref a) [_] _ []) _ _ _
 cases es with
 | nil=>
  cases e2
  exact callWith_meth0 efd eo (wpAny_mono (call_here C1 (hE.kp k1) hnm ea (.cons V1 .nil) q) (fun z s₂ hz=>EP.after k1 f1 hz) fun _ _ y=>y)
 | cons e r=>
  obtain ⟨c0,t0,e3,e4,rfl⟩:=allSome_cons e2
  refine callWith_meth efd eo (EPs.then (args_ok ih (e::r) (c0::t0) e2 C1 (hE.kp k1) q) fun xs h2 tk2 n2 us G2 k2' f2 X2 V2 q2=>?_) (not_starred e3 r)
  exact ⟨k2',wpAny_mono (call_here (C1.kp (tk:=tk2) k2' f2 X2) ((hE.kp k1).kp k2') hnm ea (.cons (V1.kp k2' f2) V2) q2) (fun z s₃ hz=>EP.after k1 f1 (EP.after k2' f2 hz)) fun _ _ y=>y⟩
theorem new_here {vs:List AV} {xs:List Value} {c:Addr} (C:Cx P l A env names S ρ loc H s) (hc:P.cls = some c) (V:VRels S ρ s.heap vs xs) (h:NewP P l vs H Q):wpAny (model P.prog P.w) A (call (.ref c) xs) (EP S ρ H s Q) E s:=by
 obtain ⟨vs',R,hj⟩:=h
 by_cases hv:vs' = vs
 ·subst hv
  refine wpAny_mono (hj A s ⟨S.ad++ρ,S.prog,S.w⟩ xs c C.aok C.gok hc C.pp C.pw (fun b hm=>(List.mem_append.mp hm).elim (C.sd b) C.sim.mem) (V.pure R)) (fun rv s' hr=>?_) fun _ _ y=>y.elim
  obtain ⟨h',tk,ρc,v,Hc,rfl,k,fr,Y,W,q0,q⟩:=hr
  have hA:∀ a,a ∉ ρc→a ∉ (S.ad++ρ)→a ∉ ρ∧a ∉ S.ad:=fun a _ h2=>⟨fun q=>h2 (List.mem_append_right _ q),fun q=>h2 (List.mem_append_left _ q)⟩
  have Z:=HSim.behind (Sc:=⟨S.ad++ρ,S.prog,S.w⟩) C.sim k fr C.sd rfl rfl Y (.inl hA)
  refine ⟨h',tk,ρc,v.shift H.length,Hc.map (AV.shifts H.length),rfl,k,fr,Z,?_,q⟩
  rw [← C.sim.len]
  exact VRel.behind (S:=S) (Sc:=⟨S.ad++ρ,S.prog,S.w⟩) rfl rfl hA (C.sim.kp k).noTuple (C.sim.kp k).listCls W
 ·refine wpAny_mono (hj A s S xs c C.aok C.gok hc C.pp C.pw C.sd (V.frz C.sim R)) (fun rv s' hr=>?_) fun _ _ y=>y.elim
  obtain ⟨h',tk,ρc,v,Hc,rfl,k,fr,Y,W,q0,q⟩:=hr
  have q1:=q0.resolve_left hv
  have Z:=HSim.behind (Sc:=S) C.sim k fr C.sd rfl rfl Y (.inr ⟨rfl,q1.2⟩)
  refine ⟨h',tk,ρc,v.shift H.length,Hc.map (AV.shifts H.length),rfl,k,fr,Z,?_,q⟩
  rw [← C.sim.len]
  exact VRel.behindN (C.sim.kp k).noTuple (C.sim.kp k).listCls W q1.1
theorem new_ok (ho:EnvOk env) {nt:NT} {n:Nat} {x:Str} {p p':Pos} {es:List PySem.Expr} {cs:List CE} (hnt:P.nt = nt) (ih:∀ (e:PySem.Expr) (c:CE),compE nt n env.kindOf names e = some c→EvOk P l env names e c)
  (hg:isGlob env.kindOf x = true) (hf:x = nt.cn) (he:allSome (es.map (compE nt n env.kindOf names)) = some cs) (hne:cs.isEmpty = false):EvOk P l env names (.Call (.Name x p) es [] p') (.new cs):=by
 intro A S ρ loc H s Q X E C hE h
 rw [w_new] at h
 obtain ⟨_,c,hc,h⟩:=h
 obtain ⟨⟨N,XC⟩,hmg,_⟩:=C.gok.oc c hc
 unfold isGlob at hg
 simp at hg
 have hd:(x == ("__debug__" : Str)) = false:=by simpa using hg.2
 cases es with
 | nil=>cases he;simp at hne
 | cons e r=>
 obtain ⟨c0,t0,e1,e2,rfl⟩:=allSome_cons he
 refine Call_ (Calls.Name_function_global ho.1 hg.1 (Calls.loadGlobal_global (by rw [ho.2.1];exact C.gok.g) (by rw [hf,← hnt];exact hmg) ?_) hd)
 refine callWith_cls XC (EPs.then (args_ok ih (e::r) (c0::t0) he C hE h) fun xs h1 tk1 n1 vs G1 k1 f1 X1 V1 q1=>?_) (not_starred e1 r) (star_any r t0 e2)
 exact ⟨k1,wpAny_mono (new_here (C.kp (tk:=tk1) k1 f1 X1) hc V1 q1) (fun z s₂ hz=>EP.after k1 f1 hz) fun _ _ y=>y⟩
end
open PySem PyProof.Rows PySem.SeqAt
section
variable {P:PC} {l:Lv} {A:Around} {env:Env} {names:List Str} {S:Sx} {ρ:List Addr} {loc:List (Option AV)} {H:AH} {s:Shared} {X:Str→Prop} {E:Value→Shared→Prop} {Q:AV→AH→Prop}
theorem isown_ok (ho:EnvOk env) {t:Str} {p p' p'':Pos} {e:PySem.Expr} {c:CE} (ie:EvOk P l env names e c) (hs:∀ rest,starEach (e::rest) env = (false,eval e env)::starEach rest env)
  (hg:isGlob env.kindOf ("isinstance" : Str) = true) (hg':isGlob env.kindOf t = true):EvOk P l env names (.Call (.Name "isinstance" p) [e,.Name t p''] [] p') (.isown t c):=by
 intro A S ρ loc H s Q X E C hE h
 rw [w_isown] at h
 refine Call_ (bi_ok (v:=.builtin "isinstance") ho C.gok hg (by decide +kernel) (callWith_builtin1 ?_ (hs _) rfl))
 refine args_cons (EP.then (ie A S ρ loc H s _ X E C hE h) fun x h1 tk1 n1 v1 G1 k1 f1 X1 V1 qz=>?_) (hs _)
 obtain ⟨c,b,rfl,eo,q⟩:=onExc_of qz
 have G:=(C.kp (tk:=tk1) k1 f1 X1).gok
 cases V1.iExc with
 | mk _ _ hi=>
 obtain ⟨o,hi,hc⟩:=hi
 have fin:∀ tk,EP S ρ H s Q (.bool b) { s with heap:=h1,toks:=tk }:=fun tk=>EP.after k1 f1 (EP.val (s:={ s with heap:=h1,toks:=tk1 }) X1 (.bool b) q tk)
 unfold isGlob at hg'
 simp at hg'
 have hd:(t == ("__debug__" : Str)) = false:=by simpa using hg'.2
 obtain ⟨x1,x2⟩:=G.ow t c b eo
 rcases x2 with ⟨m1,m2,rfl⟩ | ⟨m1,rfl⟩ | ⟨D,m1,y,n1,n2,rfl⟩
 ·exact args_cons (Calls.Name_function_global ho.1 hg'.1 (Calls.loadGlobal_builtin (by rw [ho.2.1];exact G.g) m1 (by rw [ho.2.2.1];exact G.b) m2 (args_nil (isi_ve x1 hi hc (fin _)))) hd) rfl
 ·exact args_cons (Calls.Name_function_global ho.1 hg'.1 (Calls.loadGlobal_global (by rw [ho.2.1];exact G.g) m1 (args_nil (isi_self hi hc (fin _)))) hd) rfl
 ·exact args_cons (Calls.Name_function_global ho.1 hg'.1 (Calls.loadGlobal_global (by rw [ho.2.1];exact G.g) m1 (args_nil (isi_other x1 y n1 n2 hi hc (fin _)))) hd) rfl
noncomputable def EB (P:PC) (l:Lv) (env:Env) (names:List Str) (e:PySem.Expr) (c:CE):Prop:=EvOk P l env names e c∧TrOk P l env names e c
theorem tr_b {e:PySem.Expr} {c:CE} (he:EvOk P l env names e c) (hi:isTrue e env (eval e env) = (do let v ← eval e env;standAt e.pos;holding [v] (truthy v))):EB P l env names e c:=⟨he,tr_plain he hi⟩
theorem call_any {nt:NT} {n:Nat} (hnt:P.nt = nt) (ho:EnvOk env) (ih:∀ (e:PySem.Expr) (c:CE),compE nt n env.kindOf names e = some c→EvOk P l env names e c) {f:PySem.Expr} {args:List PySem.Expr} {p':Pos} {c:CE}
  (h:compCall nt (compE nt n env.kindOf names) env.kindOf f args p' = some c):EvOk P l env names (.Call f args [] p') c:=by
 refine oel h (fun x hf h=>?_) fun _ h=>ob h fun q ha h=>?_
 ·obtain ⟨p,rfl⟩:=nameOf_some hf
  refine oip h fun hg h=>oif h (fun hx h=>?_) fun _ h=>oor h (fun h=>ob h fun l1 e1 h=>oin h fun hne h=>?_) fun h=>ob h fun l1 e1 h=>oi c h fun hc=>new_ok ho hnt ih hg hc.1 e1 hc.2
  ·subst hx
   refine ob h fun q e0 h1=>ob h1 fun c1 e1 h2=>?_
   obtain ⟨pt,rfl,hg'⟩:=isiArgs_some e0
   exact oel h2 (fun ty hty h=>os c h (isin_ok ho (ih _ c1 e1) (fun rest=>not_starred e1 rest) hg hg' hty)) fun _ h=>oin h fun _ h=>os c h (isown_ok ho (ih _ c1 e1) (fun rest=>not_starred e1 rest) hg hg')
  ·have hne:l1.isEmpty = false:=by simp at hne;simpa using hne.1
   exact oel h (fun f hf h=>os c h (call_ok ho hnt ih hg hf e1 hne)) fun _ h=>om c h fun b hb=>prim_ok ho ih hg hb e1 hne
 ·have ef:=attrOf_some ha
  subst ef
  refine oor h (fun h=>ob h fun c1 e1 h=>ob h fun l1 e2 h=>oip h fun hc h=>om c h fun b hm=>?_) fun h=>ob h fun c1 e1 h=>ob h fun l1 e2 h=>ob h fun f e3 h=>oi c h fun hc=>?_
  ·have hc:=Bool.and_eq_true_iff.mp hc
   exact meth_ok ih e1 e2 hc.1 (by simpa using hc.2) hm
  ·exact mth_ok (f:=nt.fns.length + f) ih e1 e2 hc.1.1 hc.1.2 (by rw [hnt];unfold qualOf;rw [hnt];exact NT.nm_at (idxOf_get e3)) (by rw [hnt];exact Nat.le_add_right _ _)
theorem expr_ok {nt:NT} (hnt:P.nt = nt):∀ (n:Nat) (env:Env) (names:List Str),EnvOk env→∀ (e:PySem.Expr) (c:CE),compE nt n env.kindOf names e = some c→EB P l env names e c
 | 0,_,_,_,_,_,h=>by cases h
 | n + 1,env,names,ho,e,c,h=>by
  have ih0:=expr_ok hnt n
  have ih:∀ (e:PySem.Expr) (c:CE),compE nt n env.kindOf names e = some c→EvOk P l env names e c:=fun e c h=>(ih0 env names ho e c h).1
  have it:∀ (e:PySem.Expr) (c:CE),compE nt n env.kindOf names e = some c→TrOk P l env names e c:=fun e c h=>(ih0 env names ho e c h).2
  cases e with
  | Constant k kk p=>exact om c h fun v hc=>tr_b (const_ok hc) rfl
  | Name x p=>exact oel h (fun i hi h=>os c h (tr_b (name_ok ho hi) rfl)) fun _ h=>oip h fun hg h=>om c h fun v hc=>tr_b (glob_ok ho hg (by rw [hnt];exact hc)) rfl
  | BinOp a op b p=>exact ob2 c h fun c1 c2 e1 e2=>tr_b (bin_ok (ih a c1 e1) (ih b c2 e2)) rfl
  | UnaryOp op a p=>
   cases op with
   | USub=>exact om c h fun c1 e1=>tr_b (neg_ok (ih a c1 e1)) rfl
   | Not=>exact om c h fun c1 e1=>⟨not_ok (ih a c1 e1),tr_not (it a c1 e1)⟩
   | _=>first | exact none_some h | cases h
  | BoolOp op es p=>
   exact ob h fun cs e1 h=>⟨fun A S ρ loc H s Q X E C hE q=>bool_ok op ih es cs c e1 h C hE q,fun A S ρ loc H s K X E C hE q=>tr_bool op it es cs c e1 h C hE q⟩
  | Compare a ops rs p=>
   rcases ops with _ | ⟨op1,_ | ⟨op2,_ | ⟨op3,ops⟩⟩⟩
   ·first | exact none_some h | cases h
   ·rcases rs with _ | ⟨b,_ | ⟨d,rs⟩⟩
    ·first | exact none_some h | cases h
    ·exact ob2 c h fun c1 c2 e1 e2=>⟨cmp_ok (ih a c1 e1) (ih b c2 e2) (not_marks e2 op1),tr_cmp (ih a c1 e1) (ih b c2 e2) (not_marks e2 op1)⟩
    ·first | exact none_some h | cases h
   ·rcases rs with _ | ⟨b,_ | ⟨d,_ | ⟨d2,rs⟩⟩⟩
    ·first | exact none_some h | cases h
    ·first | exact none_some h | cases h
    ·exact ob3 c h fun c1 c2 c3 e1 e2 e3=>⟨chain_ok (ih a c1 e1) (ih b c2 e2) (ih d c3 e3) (not_marks e3 op2),tr_chain (ih a c1 e1) (ih b c2 e2) (ih d c3 e3) (not_marks e3 op2)⟩
    ·first | exact none_some h | cases h
   ·rcases rs with _ | ⟨b,_ | ⟨d,_ | ⟨d2,rs⟩⟩⟩<;>(first | exact none_some h | cases h)
  | Subscript o i p=>
   refine oel h (fun q hs h=>?_) fun _ h=>ob2 c h fun c1 c2 e1 e2=>tr_b (idx_ok (ih o c1 e1) (ih i c2 e2)) rfl
   obtain ⟨p',rfl⟩:=isSlice_some hs
   exact ob4 c h fun c1 c2 c3 c4 e1 e2 e3 e4=>tr_b (slc_ok ih e1 e2 e3 e4) rfl
  | Tuple es k p=>exact om c h fun cs e1=>tr_b (tup_ok ih e1) rfl
  | List es p=>exact om c h fun cs e1=>tr_b (lst_ok ih e1) rfl
  | Dict ks es p=>exact ob h fun l1 e1 h=>ob h fun l2 e2 h=>oi c h fun hc=>tr_b (dct_ok ih e1 e2 hc) rfl
  | Call f args kws p'=>
   rcases kws with _ | ⟨kw,kws⟩
   ·exact tr_b (call_any hnt ho ih h) rfl
   ·first | exact none_some h | cases h
  | Attribute o x p=>
   refine oip h fun hc h=>om c h fun c1 e1=>?_
   obtain ⟨y,ey⟩:=Option.isSome_iff_exists.mp hc.1
   obtain ⟨yp,rfl⟩:=nameOf_some ey
   exact tr_b (attr_ok (ih _ c1 e1) hc.2) rfl
  | ListComp elt gens scope p=>
   refine ob h fun g e0 h=>ob h fun c1 e1 h=>ob h fun cap e2 h=>ob h fun c2 e3 h=>ob h fun l1 e4 h=>oi c h fun hc=>?_
   obtain ⟨rfl,htg,hnd⟩:=genOf_some e0
   have hc:=Bool.and_eq_true_iff.mp hc
   exact tr_b (comp_ok ho ih0 e1 e2 e3 e4 hc.1 htg hnd (of_decide_eq_true hc.2)) rfl
  | _=>first | exact none_some h | cases h
end
open PySem PyProof.Rows PySem.SeqAt
structure FC where
 P:PC
 l:Lv
 A:Around
 env:Env
 names:List Str
 S₀:Sx
 s₀:Shared
 hid:List Value
 S:Sx
noncomputable abbrev Loc:=List (Option AV)
noncomputable def FoOk (K:FC) (s:Shared) (P:Pin):Prop:=K.A.frames = some (K.env::P.fr.map (·.1))∧K.env.frame = some K.env.locals ∧
 ∀ q ∈ P.fr,(q.1.scope.kind ≠ .module∧q.1.frame = some q.1.locals)∧(q.1.locals ∈ K.S.ad∧q.1.locals < K.env.locals∧K.s₀.heap.get? q.1.locals = none)∧(∃ es ep,q.2.data = .dict es ep∧StrKeys es)∧∃ sl,s.heap.get? q.1.locals = some { q.2 with slots:=sl }
theorem FoOk.step {K:FC} {s:Shared} {P:Pin} {h':Heap} {tk:Nat} (x:FoOk K s P) (k:∀ b o,b ∈ K.S.ad→b < K.env.locals→s.heap.get? b = some o→h'.get? b = some o):FoOk K { s with heap:=h',toks:=tk } P:=
 ⟨x.1,x.2.1,fun q hq=>by obtain ⟨a,b,c,sl,e⟩:=x.2.2 q hq;exact ⟨a,b,c,sl,k _ _ b.1 b.2.1 e⟩⟩
structure Fr (K:FC) (ρ:List Addr) (loc:Loc) (H:AH) (s:Shared):Prop where
 aok:Aok K.l K.A
 eok:EnvOk K.env
 nd:K.names.Nodup
 g0:GOk K.P K.s₀.heap
 pp:K.S.prog = K.P.prog
 pw:K.S.w = K.P.w
 sd:SD K.S s.heap
 sim:HSim K.S ρ H s.heap
 fr:Fresh K.s₀.heap ρ
 sub:∀ b ∈ K.S₀.ad,b ∈ K.S.ad
 hL:K.env.locals ∈ K.S.ad
 hC:∀ n c,(n,c) ∈ K.env.cells→c ∈ K.S.ad
 len:loc.length = K.names.length + K.hid.length
 ic:∃ m cm,InCallC K.s₀ K.env.locals m K.env.cells cm s∧∀ (i:Nat) (x:Str) (v:AV),K.names[i]? = some x→loc[i]?.join = some v→∃ rv,((K.env.kindOf x = some .local∧m x = some rv) ∨ (K.env.kindOf x = some .cell∧cm x = some rv))∧VRel K.S ρ s.heap v rv
 hh:∀ (i:Nat) (rv:Value) (v:AV),K.hid[i]? = some rv→loc[K.names.length + i]?.join = some v→VRel K.S ρ s.heap v rv
 fo:∀ P,K.l.p = some P→FoOk K s P
structure Mvd (p:Option Pin) (env:Env) (ρ:List Addr) (s:Shared) (ρ':List Addr) (s':Shared):Prop where
 same:∃ h tk,s' = { s with heap:=h,toks:=tk }
 mv:∀ b o,b ≠ env.locals→(∀ n c,(n,c) ∈ env.cells→b ≠ c)→b ∉ ρ→(∀ P,p = some P→∀ q ∈ P.fr,b ≠ q.1.locals)→s.heap.get? b = some o→s'.heap.get? b = some o
 sub:∀ a ∈ ρ',a ∈ ρ ∨ s.heap.get? a = none
 alive:∀ b o,s.heap.get? b = some o→∃ o',s'.heap.get? b = some o'
 pre:∀ P,p = some P→∀ i a,i < P.n→ρ[i]? = some a→ρ'[i]? = some a
theorem get_app {ρ e:List Addr} {i:Nat} {a:Addr} (h:ρ[i]? = some a):(ρ++e)[i]? = some a:=by
 rw [List.getElem?_append_left (List.getElem?_eq_some_iff.mp h).1];exact h
theorem Mvd.refl {p:Option Pin} {env:Env} {ρ:List Addr} {s:Shared}:Mvd p env ρ s ρ s:=⟨⟨s.heap,s.toks,rfl⟩,fun _ _ _ _ _ _ e=>e,fun _ h=>.inl h,fun _ o e=>⟨o,e⟩,fun _ _ _ _ _ e=>e⟩
theorem Mvd.kp {p:Option Pin} {env:Env} {ρ e:List Addr} {s:Shared} {h':Heap} {tk:Nat} (k:Kp s.heap h') (f:Fresh s.heap e):Mvd p env ρ s (ρ++e) { s with heap:=h',toks:=tk }:=
 ⟨⟨h',tk,rfl⟩,fun b o _ _ _ _ e=>k b o e,fun a ha=>(List.mem_append.mp ha).elim .inl fun q=>.inr (f a q),fun b o e=>⟨o,k b o e⟩,fun _ _ _ _ _ e=>get_app e⟩
theorem Mvd.kp0 {p:Option Pin} {env:Env} {ρ:List Addr} {s:Shared} {h':Heap} {tk:Nat} (k:Kp s.heap h'):Mvd p env ρ s ρ { s with heap:=h',toks:=tk }:=
 ⟨⟨h',tk,rfl⟩,fun b o _ _ _ _ e=>k b o e,fun _ ha=>.inl ha,fun b o e=>⟨o,k b o e⟩,fun _ _ _ _ _ e=>e⟩
section
variable {K:FC} {ρ e:List Addr} {loc:Loc} {H G:AH} {s:Shared} {h':Heap} {tk:Nat} {E:Value→Shared→Prop}
theorem Fr.offF (F:Fr K ρ loc H s) {b:Addr} (hb:s.heap.get? b = none):∀ P,K.l.p = some P→∀ q ∈ P.fr,b ≠ q.1.locals:=fun P e q hq eq=>by
 obtain ⟨_,_,_,sl,e2⟩:=(F.fo P e).2.2 q hq
 rw [← eq,hb] at e2
 cases e2
theorem Fr.keep (F:Fr K ρ loc H s):Kp K.s₀.heap s.heap:=by obtain ⟨_,_,x,_⟩:=F.ic;exact x.toInCall.keep
theorem Fr.cx (F:Fr K ρ loc H s):Cx K.P K.l K.A K.env K.names K.S ρ loc H s where
 aok:=F.aok
 gok:=F.g0.kp F.keep
 pp:=F.pp
 pw:=F.pw
 sd:=F.sd
 sim:=F.sim
 loc:=fun i x v e1 e2=>by
  obtain ⟨m,cm,I,q⟩:=F.ic
  obtain ⟨rv,h1,h2⟩:=q i x v e1 e2
  refine ⟨rv,?_,h2⟩
  rcases h1 with ⟨hk,hm⟩ | ⟨hk,hm⟩
  ·exact .inl ⟨hk,m,I.toInCall.ns,hm⟩
  ·obtain ⟨c,hc⟩:=F.eok.2.2.2 x hk
   exact .inr ⟨hk,c,hc,hm ▸ I.cell x c hc⟩
theorem InCallC.kp {s₀:Shared} {L:Addr} {m cm:Str→Option Value} {cs:List (Str × Addr)} (x:InCallC s₀ L m cs cm s) (k:Kp s.heap h'):InCallC s₀ L m cs cm { s with heap:=h',toks:=tk }:=
 ⟨⟨by obtain ⟨_,_,e⟩:=x.toInCall.same;exact ⟨h',tk,by rw [e]⟩,x.toInCall.ns.keeps k,fun b o e=>k b o (x.toInCall.keep b o e),x.toInCall.fresh⟩,fun n c hc=>(x.cell n c hc).keeps k,x.apart,x.above⟩
theorem Fr.kp (F:Fr K ρ loc H s) (k:Kp s.heap h') (f:Fresh s.heap e) (X:HSim K.S (ρ++e) (H++G) h'):Fr K (ρ++e) loc (H++G) { s with heap:=h',toks:=tk } where
 aok:=F.aok
 eok:=F.eok
 nd:=F.nd
 g0:=F.g0
 pp:=F.pp
 pw:=F.pw
 sd:=F.sd.kp k
 sim:=X
 fr:=fun a ha=>(List.mem_append.mp ha).elim (F.fr a) fun q=>by
  cases q0:K.s₀.heap.get? a with
  | none=>rfl
  | some o=>have:=f a q;rw [F.keep a o q0] at this;cases this
 sub:=F.sub
 hL:=F.hL
 hC:=F.hC
 len:=F.len
 ic:=by obtain ⟨m,cm,I,q⟩:=F.ic;exact ⟨m,cm,InCallC.kp I k,fun i x v e1 e2=>by obtain ⟨rv,h1,h2⟩:=q i x v e1 e2;exact ⟨rv,h1,h2.kp k f⟩⟩
 hh:=fun i rv v e1 e2=>(F.hh i rv v e1 e2).kp k f
 fo:=fun P e=>(F.fo P e).step fun b o _ _ q=>k b o q
theorem Fr.kp0 (F:Fr K ρ loc H s) (k:Kp s.heap h'):Fr K ρ loc H { s with heap:=h',toks:=tk }:=by
 have:=F.kp (e:=[]) (G:=[]) (tk:=tk) k (Fresh.nil _) (by simpa using F.sim.kp k)
 simpa using this
theorem Mvd.trans {p:Option Pin} {env:Env} {ρ₁ ρ₂:List Addr} {s₁ s₂:Shared} (x:Mvd p env ρ s ρ₁ s₁) (y:Mvd p env ρ₁ s₁ ρ₂ s₂):Mvd p env ρ s ρ₂ s₂ where
 same:=by
  obtain ⟨h,t,rfl⟩:=x.same
  obtain ⟨h2,t2,rfl⟩:=y.same
  exact ⟨h2,t2,rfl⟩
 mv:=fun b o h1 h2 h3 h4 e=>y.mv b o h1 h2 (fun hm=>by
  rcases x.sub b hm with q | q
  ·exact h3 q
  ·rw [q] at e;cases e) h4 (x.mv b o h1 h2 h3 h4 e)
 sub:=fun a ha=>(y.sub a ha).elim (fun q=>x.sub a q) fun q=>by
  cases q0:s.heap.get? a with
  | none=>exact .inr rfl
  | some o=>obtain ⟨o',e⟩:=x.alive a o q0;rw [q] at e;cases e
 alive:=fun b o e=>by obtain ⟨o1,e1⟩:=x.alive b o e;exact y.alive b o1 e1
 pre:=fun P e i a h1 h2=>y.pre P e i a h1 (x.pre P e i a h1 h2)
theorem Fr.own {b:Addr} {loc':Loc} (F:Fr K ρ loc H s) (hb:b ∈ K.S.ad) (hbl:K.env.locals ≤ b) (hs:Heap.SameBut b s.heap h') (hl:∃ o,h'.get? b = some o) (hlen:loc'.length = loc.length) (hhid:∀ i,loc'[K.names.length + i]? = loc[K.names.length + i]?)
  (ic:∃ m cm,InCallC K.s₀ K.env.locals m K.env.cells cm { s with heap:=h',toks:=tk }∧∀ (i:Nat) (x:Str) (v:AV),K.names[i]? = some x→loc'[i]?.join = some v→∃ rv,((K.env.kindOf x = some .local∧m x = some rv) ∨ (K.env.kindOf x = some .cell∧cm x = some rv))∧VRel K.S ρ s.heap v rv) :
  Fr K ρ loc' H { s with heap:=h',toks:=tk }:=by
 have hk:∀ c o,c ∉ K.S.ad→s.heap.get? c = some o→h'.get? c = some o:=fun c o hc e=>by
  rw [hs.2 c (fun q=>hc (q ▸ hb))];exact e
 exact {
     aok:=F.aok,eok:=F.eok,nd:=F.nd,g0:=F.g0,pp:=F.pp,pw:=F.pw
     sd:=fun a ha=>by
      by_cases hab:a = b
      ·subst hab;exact hl
      ·obtain ⟨o,ho⟩:=F.sd a ha;exact ⟨o,(hs.2 a hab).trans ho⟩
     sim:=F.sim.chg hk
     fr:=F.fr,sub:=F.sub,hL:=F.hL,hC:=F.hC,len:=hlen.trans F.len
     ic:=by obtain ⟨m,cm,I,q⟩:=ic;exact ⟨m,cm,I,fun i x v e1 e2=>by obtain ⟨rv,h1,h2⟩:=q i x v e1 e2;exact ⟨rv,h1,h2.chg hk⟩⟩
     hh:=fun i rv v e1 e2=>(F.hh i rv v e1 (by rw [← hhid];exact e2)).chg hk
     fo:=fun P e=>(F.fo P e).step fun c o _ hc q=>(hs.2 c (fun e=>Nat.lt_irrefl _ (Nat.lt_of_lt_of_le hc (e ▸ hbl)))).trans q }
theorem Mvd.own {p:Option Pin} {env:Env} {b:Addr} (hs:Heap.SameBut b s.heap h') (hl:∃ o,h'.get? b = some o) (hb:b = env.locals ∨ ∃ n,(n,b) ∈ env.cells):Mvd p env ρ s ρ { s with heap:=h',toks:=tk } where
 same:=⟨h',tk,rfl⟩
 mv:=fun c o h1 h2 _ _ e=>by
  show h'.get? c = some o
  rw [hs.2 c ?_];exact e
  rintro rfl
  rcases hb with q | ⟨n,q⟩
  ·exact h1 q
  ·exact h2 n c q rfl
 sub:=fun _ ha=>.inl ha
 alive:=fun c o e=>by
  by_cases hcb:c = b
  ·subst hcb;exact hl
  ·exact ⟨o,(hs.2 c hcb).trans e⟩
 pre:=fun _ _ _ _ _ e=>e
theorem store_ok {x:Str} {i:Nat} {v:AV} {rv:Value} (F:Fr K ρ loc H s) (hx:slotOf K.env.kindOf K.names x = some i) (V:VRel K.S ρ s.heap v rv) :
  wpAny (model K.P.prog K.P.w) K.A (storeName K.env x rv) (fun _ s'=>Mvd K.l.p K.env ρ s ρ s'∧Fr K ρ (loc.set i (some v)) H s') E s:=by
 obtain ⟨m,cm,I,q⟩:=F.ic
 unfold slotOf at hx
 split at hx
 ·rename_i hc
  simp only [Bool.and_eq_true] at hc
  have hi:=idxOf_get hx
  have hil:i < K.names.length:=(List.getElem?_eq_some_iff.mp hi).1
  have hil2:i < loc.length:=by rw [F.len];(first | lia | omega)
  have hhid:∀ j,(loc.set i (some v))[K.names.length + j]? = loc[K.names.length + j]?:=fun j=>by
   rw [List.getElem?_set_ne (by (first | lia | omega))]
  have hget:∀ (j:Nat) (y:Str) (u:AV),K.names[j]? = some y→(loc.set i (some v))[j]?.join = some u→(j = i∧y = x∧u = v) ∨ (y ≠ x∧loc[j]?.join = some u):=fun j y u e1 e2=>by
   by_cases hj:i = j
   ·subst hj
    rw [hi] at e1;cases e1
    rw [List.getElem?_set_self hil2] at e2
    simp at e2
    exact .inl ⟨rfl,rfl,e2.symm⟩
   ·rw [List.getElem?_set_ne hj] at e2
    refine .inr ⟨fun hyx=>hj ?_,e2⟩
    subst hyx
    exact ((List.getElem?_inj hil F.nd).mp (hi.trans e1.symm))
  have hkind:K.env.kindOf x = some .local ∨ K.env.kindOf x = some .cell:=by
   have:isLoc (K.env.kindOf x) = true:=hc.1
   cases hk:K.env.kindOf x with
   | none=>rw [hk] at this;cases this
   | some k=>rw [hk] at this;cases k<;>first | exact .inl rfl | exact .inr rfl | cases this
  rcases hkind with hk | hk
  ·refine wpAny_storeName_local hk I.toInCall.ns (fun h' hn' hs'=>?_) (by rw [F.eok.1];rfl)
   have hl:∃ o,h'.get? K.env.locals = some o:=by obtain ⟨o,_,_,ho,_⟩:=hn';exact ⟨o,ho⟩
   refine ⟨Mvd.own hs' hl (.inl rfl),F.own F.hL (Nat.le_refl _) hs' hl (by simp) hhid ⟨_,cm,⟨⟨by obtain ⟨_,_,e⟩:=I.toInCall.same;exact ⟨h',_,by rw [e]⟩,hn',fun b o e=>?_,I.toInCall.fresh⟩,fun k c hc=>?_,I.apart,I.above⟩,fun j y u e1 e2=>?_⟩⟩
   ·exact hs'.extBut b o (Nat.ne_of_lt (Nat.lt_of_lt_of_le (Heap.lt_size e) I.toInCall.fresh)) (I.toInCall.keep b o e)
   ·exact (I.cell k c hc).sameBut hs' (Nat.ne_of_gt (I.above k c (mem_of_lookup hc)))
   ·rcases hget j y u e1 e2 with ⟨rfl,rfl,rfl⟩ | ⟨hy,e3⟩
    ·exact ⟨rv,.inl ⟨hk,by simp⟩,V⟩
    ·obtain ⟨ru,h1,h2⟩:=q j y u e1 e3
     refine ⟨ru,?_,h2⟩
     simpa [hy] using h1
  ·obtain ⟨c,hcc⟩:=F.eok.2.2.2 x hk
   have hLc:=I.above x c (mem_of_lookup hcc)
   refine wpAny_storeName_cell F.eok.1 hk hcc (I.cell x c hcc) fun h' hc' hs'=>?_
   have hl:∃ o,h'.get? c = some o:=by obtain ⟨o,ho,_⟩:=hc';exact ⟨o,ho⟩
   refine ⟨Mvd.own (tk:=s.toks) hs' hl (.inr ⟨x,mem_of_lookup hcc⟩),F.own (tk:=s.toks) (F.hC x c (mem_of_lookup hcc)) (Nat.le_of_lt hLc) hs' hl (by simp) hhid ⟨m,(fun y=>if y = x then some rv else cm y),⟨⟨by obtain ⟨_,_,e⟩:=I.toInCall.same;exact ⟨h',s.toks,by rw [e]⟩,I.toInCall.ns.sameBut hs' (Nat.ne_of_lt hLc),fun b o e=>?_,I.toInCall.fresh⟩,fun k c' hk'=>?_,I.apart,I.above⟩,fun j y u e1 e2=>?_⟩⟩
   ·exact hs'.extBut b o (Nat.ne_of_lt (Nat.lt_trans (Nat.lt_of_lt_of_le (Heap.lt_size e) I.toInCall.fresh) hLc)) (I.toInCall.keep b o e)
   ·by_cases hkn:k = x
    ·subst hkn
     rw [hcc] at hk';cases hk'
     simpa using hc'
    ·rw [if_neg hkn]
     exact (I.cell k c' hk').sameBut hs' fun e=>hkn (name_of_addr I.apart (mem_of_lookup hk') (e ▸ mem_of_lookup hcc))
   ·rcases hget j y u e1 e2 with ⟨rfl,rfl,rfl⟩ | ⟨hy,e3⟩
    ·exact ⟨rv,.inr ⟨hk,by simp⟩,V⟩
    ·obtain ⟨ru,h1,h2⟩:=q j y u e1 e3
     refine ⟨ru,?_,h2⟩
     simpa [hy] using h1
 ·cases hx
theorem HSim.set {S:Sx} {h h':Heap} {i:Nat} {a:Addr} {items:Array Value} {vs:List AV} (X:HSim S ρ H h) (ha:ρ[i]? = some a) (hs:Heap.SameBut a h h') (p:h'.PlainList a items) (V:VRels S ρ h vs items.toList):HSim S ρ (H.set i vs) h' where
 len:=by simpa using X.len
 nodup:=X.nodup
 off:=X.off
 obj:=fun j ws e=>by
  have hm:∀ b o,b ∉ ρ→h.get? b = some o→h'.get? b = some o:=fun b o hb e=>by
   rw [hs.2 b (fun q=>hb (q ▸ List.mem_of_getElem? ha))];exact e
  have hi:i < H.length:=by rw [← X.len];exact (List.getElem?_eq_some_iff.mp ha).1
  by_cases hj:i = j
  ·subst hj
   rw [List.getElem?_set_self hi] at e
   cases e
   exact ⟨a,items,ha,p,by simpa using V.mono hm (Fresh.nil h)⟩
  ·rw [List.getElem?_set_ne hj] at e
   obtain ⟨a',its,e1,p1,v1⟩:=X.obj j ws e
   have hne:a' ≠ a:=fun q=>by
    subst q
    have hil:i < ρ.length:=by rw [X.len];exact hi
    exact hj ((List.getElem?_inj hil X.nodup).mp (ha.trans e1.symm))
   exact ⟨a',its,e1,PlainList.at' p1 fun o q=>(hs.2 a' hne).trans q,by simpa using v1.mono hm (Fresh.nil h)⟩
theorem Fr.set {i:Nat} {a:Addr} {items:Array Value} {vs:List AV} (F:Fr K ρ loc H s) (ha:ρ[i]? = some a) (hs:Heap.SameBut a s.heap h') (p:h'.PlainList a items) (V:VRels K.S ρ s.heap vs items.toList):Fr K ρ loc (H.set i vs) { s with heap:=h',toks:=tk }:=by
 have hmem:=List.mem_of_getElem? ha
 have hoff:=F.sim.off a hmem
 have hm:∀ b o,b ∉ ρ→s.heap.get? b = some o→h'.get? b = some o:=fun b o hb e=>by
  rw [hs.2 b (fun q=>hb (q ▸ hmem))];exact e
 have ch:∀ {v:AV} {x:Value},VRel K.S ρ s.heap v x→VRel K.S ρ h' v x:=fun V=>by simpa using V.mono hm (Fresh.nil s.heap)
 exact {
     aok:=F.aok,eok:=F.eok,nd:=F.nd,g0:=F.g0,pp:=F.pp,pw:=F.pw
     sd:=fun b hb=>by
      obtain ⟨o,ho⟩:=F.sd b hb
      exact ⟨o,(hs.2 b fun q=>hoff (q ▸ hb)).trans ho⟩
     sim:=F.sim.set ha hs p V
     fr:=F.fr,sub:=F.sub,hL:=F.hL,hC:=F.hC,len:=F.len
     ic:=by
      obtain ⟨m,cm,I,q⟩:=F.ic
      refine ⟨m,cm,⟨⟨by obtain ⟨_,_,e⟩:=I.toInCall.same;exact ⟨h',tk,by rw [e]⟩,I.toInCall.ns.sameBut hs (fun q=>hoff (q ▸ F.hL)),fun b o e=>?_,I.toInCall.fresh⟩,fun n c hc=>(I.cell n c hc).sameBut hs (fun q=>hoff (q ▸ F.hC n c (mem_of_lookup hc))),I.apart,I.above⟩,fun i x v e1 e2=>by obtain ⟨rv,h1,h2⟩:=q i x v e1 e2;exact ⟨rv,h1,ch h2⟩⟩
      exact (hs.2 b fun q=>by rw [q,F.fr a hmem] at e;cases e).trans (I.toInCall.keep b o e)
     hh:=fun i rv v e1 e2=>ch (F.hh i rv v e1 e2)
     fo:=fun P e=>(F.fo P e).step fun c o hc _ q=>(hs.2 c (fun e=>hoff (e ▸ hc))).trans q }
theorem Mvd.set {pp:Option Pin} {env:Env} {i:Nat} {a:Addr} {items:Array Value} (ha:ρ[i]? = some a) (hs:Heap.SameBut a s.heap h') (p:h'.PlainList a items):Mvd pp env ρ s ρ { s with heap:=h',toks:=tk } where
 same:=⟨h',tk,rfl⟩
 mv:=fun b o _ _ h3 _ e=>(hs.2 b fun q=>h3 (q ▸ List.mem_of_getElem? ha)).trans e
 sub:=fun _ h=>.inl h
 alive:=fun b o e=>by
  by_cases hb:b = a
  ·subst hb;obtain ⟨n,e⟩:=p;exact ⟨_,e⟩
  ·exact ⟨o,(hs.2 b hb).trans e⟩
 pre:=fun _ _ _ _ _ e=>e
end
open PySem PyProof.Rows PySem.SeqAt
inductive RenLs (φ:List Nat) (H:AH):Loc→Loc→Prop
 | nil:RenLs φ H [] []
 | keep {v v':AV} {r r':Loc}:Ren φ H v v'→RenLs φ H r r'→RenLs φ H (some v::r) (some v'::r')
 | drop {o:Option AV} {r r':Loc}:RenLs φ H r r'→RenLs φ H (o::r) (none::r')
noncomputable def PinOk (p:Option Pin) (φ:List Nat):Prop:=∀ P,p = some P→∀ i,i < P.n→φ[i]? = some i
theorem pin0 {φ:List Nat}:PinOk none φ:=fun _ q=>nomatch q
noncomputable def RenL (p:Option Pin) (loc:Loc) (H:AH) (loc':Loc) (H':AH):Prop:=(loc = loc'∧H = H') ∨ ∃ φ,PinOk p φ∧RenH φ H H'∧RenLs φ H loc loc'
inductive FNx (p:Option Pin) (n:Nat) (J:AV→Loc→AH→Prop) (loc:Loc) (H:AH):Prop
 | mk (v':AV) (loc':Loc) (H':AH):RenL p loc H (loc'++[some v']) H'→loc'.length = n→J v' loc' H'→FNx p n J loc H
noncomputable def Cut (p:Option Pin) (R:Loc→AH→Prop) (loc:Loc) (H:AH):Prop:=∃ loc' H',RenL p loc H loc' H'∧R loc' H'
theorem Cut.here {p:Option Pin} {R:Loc→AH→Prop} {loc:Loc} {H:AH} (h:R loc H):Cut p R loc H:=⟨loc,H,.inl ⟨rfl,rfl⟩,h⟩
noncomputable def insAt (xs:List AV) (k:Int) (v:AV):List AV:=let j:=if k < 0 then (k + (xs.length:Int)).toNat else min k.toNat xs.length;xs.take j++v::xs.drop j
noncomputable def mut0 (vs:List AV) (k:Option (List AV)):Option (List AV):=match vs with
 | []=>k
 | _=>Option.none
noncomputable def mut1 (vs:List AV) (k:AV→Option (List AV)):Option (List AV):=match vs with
 | [v]=>k v
 | _=>Option.none
noncomputable def mut2 (vs:List AV) (k:Int→AV→Option (List AV)):Option (List AV):=match vs with
 | [u,v]=>(match u with
  | .int i=>k i v
  | _=>Option.none)
 | _=>Option.none
noncomputable def opMut (H:AH) (m:Mu) (xs vs:List AV):Option (List AV):=match m with
 | .append=>mut1 vs fun v=>if xs.length < smallN then some (xs++[v]) else Option.none
 | .insert=>mut2 vs fun k v=>if xs.length < smallN∧-1000000 < k∧k < 1000000 then some (insAt xs k v) else Option.none
 | .clear=>mut0 vs (if xs.length ≤ smallN then some [] else Option.none)
 | .reverse=>mut0 vs (if xs.length ≤ smallN then some xs.reverse else Option.none)
 | .pop=>mut0 vs (if xs.length ≤ smallN∧0 < xs.length then some (xs.eraseIdx (xs.length - 1)) else Option.none)
noncomputable def AV.ik:AV→AV
 | .rng i j k=>.rng i j k
 | .fl _=>.fl []
 | .ref _=>.fl []
 | _=>.none
noncomputable def setAll (loc:Loc):List Nat→List AV→Loc
 | x::xs,v::vs=>setAll (loc.set x (some v)) xs vs
 | _,_=>loc
noncomputable def setAllO (loc:Loc):List Nat→List AV→Option Loc
 | [],[]=>some loc
 | x::xs,v::vs=>setAllO (loc.set x (some v)) xs vs
 | _,_=>Option.none
theorem setAllO_nil (loc:Loc):setAllO loc [] [] = some loc:=rfl
theorem setAllO_cons (loc:Loc) (x:Nat) (xs:List Nat) (v:AV) (vs:List AV):setAllO loc (x::xs) (v::vs) = setAllO (loc.set x (some v)) xs vs:=rfl
theorem setAllO_of:∀ (xs:List Nat) (vs:List AV) {loc loc':Loc},setAllO loc xs vs = some loc'→vs.length = xs.length∧loc' = setAll loc xs vs
 | [],[],_,_,e=>⟨rfl,(Option.some.inj e).symm⟩
 | x::xs,v::vs,loc,_,e=>by obtain ⟨a,b⟩:=setAllO_of xs vs (loc:=loc.set x (some v)) e;exact ⟨congrArg (· + 1) a,b⟩
inductive ROut (S:Sx) (ρ:List Addr) (base:Heap) (fr:List (Env × Obj)) (s:Shared) (Q:AV→AH→Prop) (r:Except Value Flow) (s':Shared):Prop
 | mk (rv:Value) (h':Heap) (tk:Nat) (e:List Addr) (v:AV) (H':AH):r = .ok (.ret rv)→s' = { s with heap:=h',toks:=tk }→Kp base h'→(∀ q ∈ fr,∃ sl,h'.get? q.1.locals = some { q.2 with slots:=sl })→Fresh s.heap e→HSim S (ρ++e) H' h'→VRel S (ρ++e) h' v rv→Q v H'→ROut S ρ base fr s Q r s'
noncomputable def CallR (P:PC) (l:Lv) (f:Nat) (vs:List AV) (H:AH) (Q:AV→AH→Prop):Prop:=
 ∀ (A:Around) (s:Shared) (S:Sx) (ρ:List Addr) (xs:List Value) (x:Str) (a:Addr) (base:Heap) (fr:List (Env × Obj)),Aok l A→GOk P base→P.nt.nm f = some x→P.ma x = some (.ref a)→S.prog = P.prog→S.w = P.w→SD S s.heap→HSim S ρ H s.heap→VRels S ρ s.heap vs xs →
  A.frames = some (fr.map (·.1))→Kp base s.heap→base.objs.size ≤ s.heap.objs.size→(∀ b ∈ ρ,base.get? b = none) →
  (∀ q ∈ fr,(q.1.scope.kind ≠ .module∧q.1.frame = some q.1.locals)∧(q.1.locals ∈ S.ad∧base.get? q.1.locals = none)∧(∃ es ep,q.2.data = .dict es ep∧StrKeys es)∧s.heap.get? q.1.locals = some q.2) →
  (∀ b o,s.heap.get? b = some o→b ∉ ρ→(∀ q ∈ fr,b ≠ q.1.locals)→base.get? b = some o) →
  codeAny (model P.prog P.w) A (.call (.ref a) ⟨xs,[]⟩) (ROut S ρ base fr s Q) s
noncomputable def wpI (P:PC) (l:Lv):IE→Loc→AH→(AV→AH→Prop)→Prop
 | .pure e,loc,H,Q=>wpE P l (fun _=>False) e loc H Q
 | .call f es,loc,H,Q=>0 < l.k∧l.q = true∧(∃ n,l.p = some n)∧wpEs P l (fun _=>False) es loc H fun vs H₁=>CallR P l f vs H₁ Q
 | .mth f m o es,loc,H,Q=>0 < l.k∧l.q = true∧(∃ n,l.p = some n)∧wpE P l (fun _=>False) o loc H fun v H₁=>onObj P v m <| wpEs P l (fun _=>False) es loc H₁ fun vs H₂=>CallR P l f (v::vs) H₂ Q
 | .pop o,loc,H,Q=>wpE P l (fun _=>False) o loc H fun u H₁=>onL u (∃ r xs y,(u = .ref r∧([]:List AV) = [])∧H₁[r]? = some (xs++[y])∧xs.length < smallN∧Q y (H₁.set r xs))
 | .tup e i,loc,H,Q=>wpE P l (fun _=>False) e loc H fun v H₁=>wpI P l i loc H₁ fun u H₂=>Q (.tup [v,u]) H₂
 | .eq e i,loc,H,Q=>wpE P l (fun _=>False) e loc H fun v H₁=>wpI P l i loc H₁ fun u H₂=>opCmp .Eq v u H₂ Q
 | .not i,loc,H,Q=>wpI P l i loc H fun v H₁=>onBool v fun b=>Q (.bool (!b)) H₁
 | .and i j,loc,H,Q=>wpI P l i loc H fun v H₁=>onBool v fun c=>if c = true then wpI P l j loc H₁ Q else Q (.bool false) H₁
 | .or i j,loc,H,Q=>wpI P l i loc H fun v H₁=>onBool v fun c=>if c = true then Q (.bool true) H₁ else wpI P l j loc H₁ Q
mutual
noncomputable def wpS (P:PC) (l:Lv):CS→Loc→AH→(Loc→AH→Prop)→(AV→AH→Prop)→(Str→Loc→AH→Prop)→Prop
 | .assign x e,loc,H,Qn,_,Qx=>wpE P l (fun c=>Qx c loc H) e loc H fun v H₁=>Qn (loc.set x (some v)) H₁
 | .assignT xs e,loc,H,Qn,_,Qx=>l.q = true∧wpE P l (fun c=>Qx c loc H) e loc H fun v H₁=>opt (v.seq? H₁) fun vs=>opt (setAllO loc xs vs) fun loc'=>Qn loc' H₁
 | .setIdx o i e,loc,H,Qn,_,Qx=>wpE P l (fun c=>Qx c loc H) e loc H fun v H₁=>wpE P l (fun c=>Qx c loc H) o loc H₁ fun u H₂=>wpE P l (fun c=>Qx c loc H) i loc H₂ fun j H₃=>
   ∃ r k vs,u = .ref r∧j = .int k∧H₃[r]? = some vs∧0 ≤ k∧k < vs.length∧vs.length ≤ smallN∧Qn loc (H₃.set r (vs.set k.toNat v))
 | .mut m o es,loc,H,Qn,_,Qx=>wpE P l (fun c=>Qx c loc H) o loc H fun u H₁=>onL u <| wpEs P l (fun c=>Qx c loc H) es loc H₁ fun vs H₂=>
   ∃ r xs ys,u = .ref r∧H₂[r]? = some xs∧opMut H₂ m xs vs = some ys∧Qn loc (H₂.set r ys)
 | .expr e,loc,H,Qn,_,Qx=>wpE P l (fun c=>Qx c loc H) e loc H fun _ H₁=>Qn loc H₁
 | .ite c a b,loc,H,Qn,Qr,Qx=>∃ R:Loc→AH→Prop,(∀ loc' H',R loc' H'→Qn loc' H')∧wpE P l (fun c=>Qx c loc H) c loc H fun v H₁=>onBool v fun t=>
   if t = true then wpSs P l a loc H₁ (Cut l.p R) Qr Qx else wpSs P l b loc H₁ (Cut l.p R) Qr Qx
 | .for1 x it body,loc,H,Qn,Qr,Qx=>l.q = true∧wpE P l (fun c=>Qx c loc H) it loc H fun v H₁=>∃ (n:Nat) (κ:AV) (Inv:Nat→AV→Loc→AH→Prop),
   FNx l.p loc.length (Inv 0) (loc++[some v]) H₁ ∧
   (∀ k v loc H,k ≤ n→Inv k v loc H→v.ik = κ∧∃ its,iterOf H v = some its∧its.length = n)∧n ≤ smallN ∧
   (∀ k v loc' H its u,k < n→loc'.length = loc.length→Inv k v loc' H→iterOf H v = some its→its[k]? = some u→wpSs P l body (loc'.set x (some u)++[some v]) H
    (FNx l.p loc.length (Inv (k + 1))) Qr (fun c loc₂ H₂=>Qx c loc₂.dropLast H₂)) ∧
   (∀ v loc H,Inv n v loc H→Qn loc H)
 | .while c body,loc,H,Qn,Qr,Qx=>∃ (Inv:Loc→AH→Prop) (μ:Loc→AH→Nat),Cut l.p Inv loc H ∧
   ∀ loc H,Inv loc H→wpE P l (fun c=>Qx c loc H) c loc H fun v H₁=>onBool v fun t=>
    if t = true then wpSs P l body loc H₁ (Cut l.p fun loc₂ H₂=>Inv loc₂ H₂∧μ loc₂ H₂ < μ loc H) Qr Qx else Cut l.p Qn loc H₁
 | .ret e,loc,H,_,Qr,Qx=>wpE P l (fun c=>Qx c loc H) e loc H Qr
 | .raise _,_,_,_,_,_=>False
 | .try b _ _ _,loc,H,Qn,Qr,Qx=>wpSs P l b loc H Qn Qr Qx
 | .asgI x i,loc,H,Qn,_,_=>wpI P l i loc H fun v H₁=>Qn (loc.set x (some v)) H₁
 | .iteI i a b,loc,H,Qn,Qr,Qx=>∃ R:Loc→AH→Prop,(∀ loc' H',R loc' H'→Qn loc' H')∧wpI P l i loc H fun v H₁=>onBool v fun t=>
   if t = true then wpSs P l a loc H₁ (Cut l.p R) Qr Qx else wpSs P l b loc H₁ (Cut l.p R) Qr Qx
 | .retI i,loc,H,_,Qr,_=>wpI P l i loc H Qr
noncomputable def wpSs (P:PC) (l:Lv):List CS→Loc→AH→(Loc→AH→Prop)→(AV→AH→Prop)→(Str→Loc→AH→Prop)→Prop
 | [],loc,H,Qn,_,_=>Qn loc H
 | c::r,loc,H,Qn,Qr,Qx=>wpS P l c loc H (fun loc' H'=>wpSs P l r loc' H' Qn Qr Qx) Qr Qx
end
section
variable {P:PC} {l:Lv} {loc:Loc} {H:AH} {Qn:Loc→AH→Prop} {Qr:AV→AH→Prop} {Qx:Str→Loc→AH→Prop}
theorem q_assign (x:Nat) (e:CE):wpS P l (.assign x e) loc H Qn Qr Qx = (wpE P l (fun c=>Qx c loc H) e loc H fun v H₁=>Qn (loc.set x (some v)) H₁):=rfl
theorem q_assignT (xs:List Nat) (e:CE):wpS P l (.assignT xs e) loc H Qn Qr Qx = (l.q = true∧wpE P l (fun c=>Qx c loc H) e loc H fun v H₁=>opt (v.seq? H₁) fun vs=>opt (setAllO loc xs vs) fun loc'=>Qn loc' H₁):=rfl
theorem q_setIdx (o i e:CE):wpS P l (.setIdx o i e) loc H Qn Qr Qx = (wpE P l (fun c=>Qx c loc H) e loc H fun v H₁=>wpE P l (fun c=>Qx c loc H) o loc H₁ fun u H₂=>wpE P l (fun c=>Qx c loc H) i loc H₂ fun j H₃=>
   ∃ r k vs,u = .ref r∧j = .int k∧H₃[r]? = some vs∧0 ≤ k∧k < vs.length∧vs.length ≤ smallN∧Qn loc (H₃.set r (vs.set k.toNat v))):=rfl
theorem q_mut (m:Mu) (o:CE) (es:List CE):wpS P l (.mut m o es) loc H Qn Qr Qx = (wpE P l (fun c=>Qx c loc H) o loc H fun u H₁=>onL u <| wpEs P l (fun c=>Qx c loc H) es loc H₁ fun vs H₂=>
   ∃ r xs ys,u = .ref r∧H₂[r]? = some xs∧opMut H₂ m xs vs = some ys∧Qn loc (H₂.set r ys)):=rfl
theorem q_expr (e:CE):wpS P l (.expr e) loc H Qn Qr Qx = (wpE P l (fun c=>Qx c loc H) e loc H fun _ H₁=>Qn loc H₁):=rfl
theorem q_ite (c:CE) (a b:List CS):wpS P l (.ite c a b) loc H Qn Qr Qx = (∃ R:Loc→AH→Prop,(∀ loc' H',R loc' H'→Qn loc' H')∧wpE P l (fun c=>Qx c loc H) c loc H fun v H₁=>onBool v fun t=>
   if t = true then wpSs P l a loc H₁ (Cut l.p R) Qr Qx else wpSs P l b loc H₁ (Cut l.p R) Qr Qx):=rfl
theorem q_for1 (x:Nat) (it:CE) (body:List CS):wpS P l (.for1 x it body) loc H Qn Qr Qx = (l.q = true∧wpE P l (fun c=>Qx c loc H) it loc H fun v H₁=>∃ (n:Nat) (κ:AV) (Inv:Nat→AV→Loc→AH→Prop),
   FNx l.p loc.length (Inv 0) (loc++[some v]) H₁ ∧
   (∀ k v loc H,k ≤ n→Inv k v loc H→v.ik = κ∧∃ its,iterOf H v = some its∧its.length = n)∧n ≤ smallN ∧
   (∀ k v loc' H its u,k < n→loc'.length = loc.length→Inv k v loc' H→iterOf H v = some its→its[k]? = some u→wpSs P l body (loc'.set x (some u)++[some v]) H
  (FNx l.p loc.length (Inv (k + 1))) Qr (fun c loc₂ H₂=>Qx c loc₂.dropLast H₂)) ∧
   (∀ v loc H,Inv n v loc H→Qn loc H)):=rfl
theorem q_while (c:CE) (body:List CS):wpS P l (.while c body) loc H Qn Qr Qx = (∃ (Inv:Loc→AH→Prop) (μ:Loc→AH→Nat),Cut l.p Inv loc H ∧
   ∀ loc H,Inv loc H→wpE P l (fun c=>Qx c loc H) c loc H fun v H₁=>onBool v fun t=>
  if t = true then wpSs P l body loc H₁ (Cut l.p fun loc₂ H₂=>Inv loc₂ H₂∧μ loc₂ H₂ < μ loc H) Qr Qx else Cut l.p Qn loc H₁):=rfl
theorem q_ret (e:CE):wpS P l (.ret e) loc H Qn Qr Qx = (wpE P l (fun c=>Qx c loc H) e loc H Qr):=rfl
theorem q_try (b h:List CS) (c:Str) (x:Nat):wpS P l (.try b c x h) loc H Qn Qr Qx = wpSs P l b loc H Qn Qr Qx:=rfl
theorem q_nil:wpSs P l [] loc H Qn Qr Qx = Qn loc H:=rfl
theorem q_cons (c:CS) (r:List CS):wpSs P l (c::r) loc H Qn Qr Qx = wpS P l c loc H (fun loc' H'=>wpSs P l r loc' H' Qn Qr Qx) Qr Qx:=rfl
end
noncomputable def isComp:PySem.Expr→Bool
 | .ListComp .. => true
 | .SetComp .. => true
 | .DictComp .. => true
 | _=>false
noncomputable def isTup:PySem.Expr→Bool
 | .Tuple .. => true
 | _=>false
noncomputable def methOf (e:PySem.Expr):Option (PySem.Expr × Str × List PySem.Expr × Pos × Pos):=(callOf e).bind fun c=>if c.2.2.1 = true then (attrOf c.1).map fun q=>(q.1,q.2.1,c.2.1,q.2.2,c.2.2.2) else Option.none
theorem methOf_some {e:PySem.Expr} {q:PySem.Expr × Str × List PySem.Expr × Pos × Pos} (h:methOf e = some q):e = .Call (.Attribute q.1 q.2.1 q.2.2.2.1) q.2.2.1 [] q.2.2.2.2:=by
 obtain ⟨c,e1,h⟩:=Option.bind_eq_some_iff.mp h
 split at h
 ·rename_i hb
  obtain ⟨z,e2,rfl⟩:=Option.map_eq_some_iff.mp h
  rw [callOf_some e1 hb,attrOf_some e2]
 ·first | exact none_some h | cases h
noncomputable def mutOf (e:PySem.Expr):Option (PySem.Expr × Mu × List PySem.Expr × Pos × Pos):=(methOf e).bind fun q=>(muNames.lookup q.2.1).map fun mu=>(q.1,mu,q.2.2.1,q.2.2.2.1,q.2.2.2.2)
noncomputable def compWhile (r:PySem.Expr→Option CE) (q:PySem.Stmt→Option CS) (t:PySem.Expr) (body els:List PySem.Stmt):Option CS:=do
 let c ← r t
 let x ← allSome (body.map q)
 if els.isEmpty then some (.while c x) else Option.none
noncomputable def compFor (r:PySem.Expr→Option CE) (q:PySem.Stmt→Option CS) (kd:Str→Option NameKind) (names:List Str) (t it:PySem.Expr) (body:List PySem.Stmt):Option CS:=(nameOf t).bind fun x=>do
  let i ← slotOf kd names x
  let c ← r it
  let b ← allSome (body.map q)
  some (.for1 i c b)
noncomputable def compAsg (r:PySem.Expr→Option CE) (kd:Str→Option NameKind) (names:List Str) (x:Str) (v:PySem.Expr):Option CS:=do
 let i ← slotOf kd names x
 (r v).map (.assign i)
noncomputable def compAsgT (r:PySem.Expr→Option CE) (kd:Str→Option NameKind) (names:List Str) (es:List PySem.Expr) (v:PySem.Expr):Option CS:=do
 let xs ← allSome (es.map fun e=>(nameOf e).bind (slotOf kd names))
 let c ← r v
 if isTup v || isComp v then Option.none else some (.assignT xs c)
noncomputable def compSet (r:PySem.Expr→Option CE) (o i v:PySem.Expr):Option CS:=do
 let a ← r v
 let b ← r o
 let c ← r i
 some (.setIdx b c a)
noncomputable def compAs1 (r:PySem.Expr→Option CE) (kd:Str→Option NameKind) (names:List Str) (t v:PySem.Expr):Option CS:=match t with
 | .Name x _=>compAsg r kd names x v
 | .Tuple es _ _=>compAsgT r kd names es v
 | .Subscript o i _=>compSet r o i v
 | _=>Option.none
noncomputable def compAs (r:PySem.Expr→Option CE) (kd:Str→Option NameKind) (names:List Str) (ts:List PySem.Expr) (v:PySem.Expr):Option CS:=match ts with
 | [t]=>compAs1 r kd names t v
 | _=>Option.none
noncomputable def compEx (r:PySem.Expr→Option CE) (e:PySem.Expr):Option CS:=(mutOf e).elim (if isComp e then Option.none else (r e).map .expr) fun q=>do
  let a ← r q.1
  let l ← allSome (q.2.2.1.map r)
  if (q.2.2.2.1.endLine == q.2.2.2.2.line) = true∧l.length ≤ 2 then some (.mut q.2.1 a l) else Option.none
noncomputable def one? {α:Type}:List α→Option α
 | [a]=>some a
 | _=>Option.none
noncomputable def two? {α:Type}:List α→Option (α × α)
 | [a,b]=>some (a,b)
 | _=>Option.none
noncomputable def thr? {α:Type}:List α→Option (α × α × α)
 | [a,b,c]=>some (a,b,c)
 | _=>Option.none
theorem one_of {α:Type} {l:List α} {a:α} (h:one? l = some a):l = [a]:=by
 rcases l with _ | ⟨b,_ | ⟨c,r⟩⟩
 ·exact none_some h
 ·rw [Option.some.inj h]
 ·exact none_some h
theorem two_of {α:Type} {l:List α} {a:α × α} (h:two? l = some a):l = [a.1,a.2]:=by
 rcases l with _ | ⟨b,_ | ⟨c,_ | ⟨d,r⟩⟩⟩
 ·exact none_some h
 ·exact none_some h
 ·rw [← Option.some.inj h]
 ·exact none_some h
theorem thr_of {α:Type} {l:List α} {a:α × α × α} (h:thr? l = some a):l = [a.1,a.2.1,a.2.2]:=by
 rcases l with _ | ⟨b,_ | ⟨c,_ | ⟨d,_ | ⟨e,r⟩⟩⟩⟩
 ·exact none_some h
 ·exact none_some h
 ·exact none_some h
 ·rw [← Option.some.inj h]
 ·exact none_some h
noncomputable def isNot:UnaryOp→Bool
 | .Not=>true
 | _=>false
theorem isNot_of {op:UnaryOp} (h:isNot op = true):op = .Not:=by cases op<;>first | rfl | cases h
noncomputable def isEq:CmpOp→Bool
 | .Eq=>true
 | _=>false
theorem isEq_of {op:CmpOp} (h:isEq op = true):op = .Eq:=by cases op<;>first | rfl | cases h
noncomputable def isAnd:BoolOp→Bool
 | .And=>true
 | .Or=>false
theorem isAnd_of {op:BoolOp} (h:isAnd op = true):op = .And:=by cases op<;>first | rfl | cases h
noncomputable def IE.bop (op:BoolOp) (i j:IE):IE:=match op with
 | .And=>.and i j
 | .Or=>.or i j
noncomputable def compIB (q:PySem.Expr→Option IE) (op:BoolOp) (es:List PySem.Expr):Option IE:=
 ((two? es).bind fun p=>(q p.1).bind fun i=>(q p.2).map fun j=>IE.bop op i j).or ((thr? es).bind fun p=>if isAnd op then (q p.1).bind fun i=>(q p.2.1).bind fun j=>(q p.2.2).map fun k=>.and i (.and j k) else Option.none)
noncomputable def compIC (nt:NT) (r:PySem.Expr→Option CE) (kd:Str→Option NameKind) (f:PySem.Expr) (args:List PySem.Expr) (p:Pos):Option IE:=
 (nameOf f).elim ((attrOf f).bind fun q=>(r q.1).bind fun c=>(allSome (args.map r)).bind fun l=>
   if q.2.1 = ("pop" : Str)∧l.isEmpty = true∧(q.2.2.endLine == p.line) = true then some (.pop c)
   else (idxOf (nt.cn++"."++q.2.1) nt.ms).bind fun g=>if (q.2.2.endLine == p.line) = true∧l.length ≤ 20 then some (.mth (nt.fns.length + g) q.2.1 c l) else Option.none)
  fun x=>(allSome (args.map r)).bind fun l=>(idxOf x nt.fns).bind fun g=>if isGlob kd x = true∧l.isEmpty = false then some (.call g l) else Option.none
noncomputable def compI1 (nt:NT) (r:PySem.Expr→Option CE) (kd:Str→Option NameKind) (q:PySem.Expr→Option IE) (e:PySem.Expr):Option IE:=match e with
 | .UnaryOp op x _=>if isNot op then (q x).map .not else Option.none
 | .BoolOp op es _=>compIB q op es
 | .Compare a ops rs _=>(one? ops).bind fun op=>(one? rs).bind fun b=>if isEq op then (r a).bind fun c=>(q b).map (.eq c) else Option.none
 | .Tuple es _ _=>(two? es).bind fun p=>(r p.1).bind fun c=>(q p.2).map (.tup c)
 | .Call f args kws p=>if kws.isEmpty then compIC nt r kd f args p else Option.none
 | _=>Option.none
noncomputable def compI (nt:NT) (r:PySem.Expr→Option CE) (kd:Str→Option NameKind):Nat→PySem.Expr→Option IE
 | 0,_=>Option.none
 | n + 1,e=>((r e).map IE.pure).or (compI1 nt r kd (compI nt r kd n) e)
noncomputable def nameT (ts:List PySem.Expr):Option Str:=match ts with
 | [t]=>nameOf t
 | _=>Option.none
noncomputable def compAsI (nt:NT) (r:PySem.Expr→Option CE) (kd:Str→Option NameKind) (names:List Str) (ts:List PySem.Expr) (v:PySem.Expr):Option CS:=
 (nameT ts).bind fun x=>(slotOf kd names x).bind fun i=>(compI nt r kd 9 v).bind fun j=>if isComp v then Option.none else some (.asgI i j)
noncomputable def compS1 (nt:NT) (r:PySem.Expr→Option CE) (q:PySem.Stmt→Option CS) (kd:Str→Option NameKind) (names:List Str) (st:PySem.Stmt):Option CS:=match st with
 | .Return e _=>e.bind fun e=>((r e).map CS.ret).or ((compI nt r kd 9 e).map CS.retI)
 | .If t a b _=>(allSome (a.map q)).bind fun x=>(allSome (b.map q)).bind fun y=>((r t).map fun c=>CS.ite c x y).or ((compI nt r kd 9 t).map fun c=>CS.iteI c x y)
 | .While t body els _=>compWhile r q t body els
 | .For t it body els _=>if els.isEmpty then compFor r q kd names t it body else Option.none
 | .Assign ts v _=>(compAs r kd names ts v).or (compAsI nt r kd names ts v)
 | .Expr e _=>compEx r e
 | .Raise _ _ _=>some (.raise "")
 | .Try b hs e f _=>if e.isEmpty && f.isEmpty && !hs.isEmpty then (allSome (b.map q)).map fun x=>.try x "" 0 [] else Option.none
 | _=>Option.none
noncomputable def compS (nt:NT):Nat→(Str→Option NameKind)→List Str→PySem.Stmt→Option CS
 | 0,_,_,_=>Option.none
 | n + 1,kd,names,st=>compS1 nt (compE nt n kd names) (compS nt n kd names) kd names st
inductive SPn (K:FC) (ρ:List Addr) (s:Shared) (Qn:Loc→AH→Prop) (s':Shared):Prop
 | mk (ρ':List Addr) (loc':Loc) (H':AH):Mvd K.l.p K.env ρ s ρ' s'→Fr K ρ' loc' H' s'→Qn loc' H'→SPn K ρ s Qn s'
inductive SPr (K:FC) (ρ:List Addr) (s:Shared) (Qr:AV→AH→Prop) (rv:Value) (s':Shared):Prop
 | mk (ρ':List Addr) (loc':Loc) (H':AH) (v:AV):Mvd K.l.p K.env ρ s ρ' s'→Fr K ρ' loc' H' s'→VRel K.S ρ' s'.heap v rv→Qr v H'→SPr K ρ s Qr rv s'
noncomputable def SP (K:FC) (ρ:List Addr) (s:Shared) (Qn:Loc→AH→Prop) (Qr:AV→AH→Prop) (f:Flow) (s':Shared):Prop:=
 match f with
 | .next=>SPn K ρ s Qn s'
 | .ret rv=>SPr K ρ s Qr rv s'
 | _=>False
noncomputable def XOk (K:FC) (ρ:List Addr) (s:Shared) (Qx:Str→Loc→AH→Prop) (E:Value→Shared→Prop):Prop:=
 ∀ ρ' loc' H' s1 e s',Mvd K.l.p K.env ρ s ρ' s1→Fr K ρ' loc' H' s1→ExcC K.P K.A s1 (fun c=>Qx c loc' H') e s'→E e s'
noncomputable def StOk (P:PC) (l:Lv) (env:Env) (names:List Str) (m:Sem Flow) (wp:Loc→AH→(Loc→AH→Prop)→(AV→AH→Prop)→(Str→Loc→AH→Prop)→Prop):Prop:=
 ∀ (A:Around) (S₀:Sx) (s₀:Shared) (hid:List Value) (S:Sx) (ρ:List Addr) (loc:Loc) (H:AH) (s:Shared) (Qn:Loc→AH→Prop) (Qr:AV→AH→Prop) (Qx:Str→Loc→AH→Prop) (E:Value→Shared→Prop),
  Fr ⟨P,l,A,env,names,S₀,s₀,hid,S⟩ ρ loc H s→XOk ⟨P,l,A,env,names,S₀,s₀,hid,S⟩ ρ s Qx E→wp loc H Qn Qr Qx →
  wpAny (model P.prog P.w) A m (SP ⟨P,l,A,env,names,S₀,s₀,hid,S⟩ ρ s Qn Qr) E s
section
variable {K:FC} {ρ ρ₁:List Addr} {loc loc':Loc} {H H':AH} {s s₁:Shared} {h':Heap} {tk:Nat} {Qx:Str→Loc→AH→Prop} {Qn:Loc→AH→Prop} {Qr:AV→AH→Prop} {E:Value→Shared→Prop}
theorem XOk.after (x:XOk K ρ s Qx E) (m:Mvd K.l.p K.env ρ s ρ₁ s₁):XOk K ρ₁ s₁ Qx E:=fun ρ' loc' H' s2 e s' m2 F q=>x ρ' loc' H' s2 e s' (m.trans m2) F q
theorem xOk_any:XOk K ρ s Qx E:=fun _ _ _ _ _ _ _ _ q=>(excC_false q).elim
theorem XOk.ex (x:XOk K ρ s Qx E) (F:Fr K ρ loc H s):ExOk K.P K.A (fun c=>Qx c loc H) E s:=fun h tk e s' k q=>x ρ loc H _ e s' (Mvd.kp0 k) (F.kp0 k) q
theorem SP.after {f:Flow} {s₂:Shared} (m:Mvd K.l.p K.env ρ s ρ₁ s₁) (h:SP K ρ₁ s₁ Qn Qr f s₂):SP K ρ s Qn Qr f s₂:=by
 cases f with
 | next=>obtain ⟨ρ',loc',H',m',F,q⟩:=h;exact ⟨ρ',loc',H',m.trans m',F,q⟩
 | ret v=>obtain ⟨ρ',loc',H',v,m',F,V,q⟩:=h;exact ⟨ρ',loc',H',v,m.trans m',F,V,q⟩
 | _=>exact h.elim
theorem SP.mono {f:Flow} {s₂:Shared} {Qn':Loc→AH→Prop} (h:SP K ρ s Qn Qr f s₂) (hq:∀ loc H,Qn loc H→Qn' loc H):SP K ρ s Qn' Qr f s₂:=by
 cases f with
 | next=>obtain ⟨ρ',loc',H',m',F,q⟩:=h;exact ⟨ρ',loc',H',m',F,hq _ _ q⟩
 | ret v=>exact h
 | _=>exact h.elim
theorem RenLs.length {φ:List Nat} {a b:Loc} (r:RenLs φ H a b):a.length = b.length:=by
 induction r with
 | nil=>rfl
 | keep _ _ ih=>simp [ih]
 | drop _ ih=>simp [ih]
theorem RenLs.get {φ:List Nat} {a b:Loc} (r:RenLs φ H a b) (i:Nat) (v':AV) (e:b[i]?.join = some v'):∃ v,a[i]?.join = some v∧Ren φ H v v':=by
 induction r generalizing i with
 | nil=>simp at e
 | keep q _ ih=>
  cases i with
  | zero=>simp at e;subst e;exact ⟨_,rfl,q⟩
  | succ i=>simpa using ih i (by simpa using e)
 | drop _ ih=>
  cases i with
  | zero=>simp at e
  | succ i=>simpa using ih i (by simpa using e)
theorem Fr.ren (F:Fr K ρ loc H s) (r:RenL K.l.p loc H loc' H'):∃ ρ',((∀ a ∈ ρ',a ∈ ρ)∧∀ P,K.l.p = some P→∀ i a,i < P.n→ρ[i]? = some a→ρ'[i]? = some a)∧Fr K ρ' loc' H' s:=by
 rcases r with ⟨rfl,rfl⟩ | ⟨φ,hP,R,L⟩
 ·exact ⟨ρ,⟨fun _ h=>h,fun _ _ _ _ _ h=>h⟩,F⟩
 ·have hp:∀ a ∈ pick ρ φ,a ∈ ρ:=fun a ha=>by obtain ⟨j,_,e⟩:=pick_mem ha;exact List.mem_of_getElem? e
  refine ⟨pick ρ φ,⟨hp,fun P e i a hi ha=>by rw [pick_get (fun j hj=>by rw [F.sim.len];exact R.dom j hj) (hP P e i hi)];exact ha⟩,{ fo:=F.fo,aok:=F.aok,eok:=F.eok,nd:=F.nd,g0:=F.g0,pp:=F.pp,pw:=F.pw,sd:=F.sd,sim:=F.sim.ren R,fr:=fun a ha=>F.fr a (hp a ha),sub:=F.sub,hL:=F.hL,hC:=F.hC,len:=L.length ▸ F.len,ic:=?_,hh:=?_ }⟩
  ·obtain ⟨m,cm,I,q⟩:=F.ic
   refine ⟨m,cm,I,fun i x v e1 e2=>?_⟩
   obtain ⟨u,e3,r⟩:=L.get i v e2
   obtain ⟨rv,h1,h2⟩:=q i x u e1 e3
   exact ⟨rv,h1,VRel.ren' F.sim R.dom r h2⟩
  ·intro i rv v e1 e2
   obtain ⟨u,e3,r⟩:=L.get _ v e2
   exact VRel.ren' F.sim R.dom r (F.hh i rv u e1 e3)
theorem Mvd.sub' {p:Option Pin} {env:Env} {ρ':List Addr} (h:(∀ a ∈ ρ',a ∈ ρ)∧∀ P,p = some P→∀ i a,i < P.n→ρ[i]? = some a→ρ'[i]? = some a):Mvd p env ρ s ρ' s:=⟨⟨s.heap,s.toks,rfl⟩,fun _ _ _ _ _ _ e=>e,fun a ha=>.inl (h.1 a ha),fun _ o e=>⟨o,e⟩,h.2⟩
theorem SP.cut {f:Flow} {s₂:Shared} {R:Loc→AH→Prop} (h:SP K ρ s (Cut K.l.p R) Qr f s₂):SP K ρ s R Qr f s₂:=by
 cases f with
 | next=>
  obtain ⟨ρ',loc',H',m',F,loc₂,H₂,r,q⟩:=h
  obtain ⟨ρ₂,hs,F₂⟩:=F.ren r
  exact ⟨ρ₂,loc₂,H₂,m'.trans (Mvd.sub' hs),F₂,q⟩
 | ret v=>exact h
 | _=>exact h.elim
end
open PySem PyProof.Rows PySem.SeqAt
section
variable {P:PC} {l:Lv} {env:Env} {names:List Str} {nt:NT} {n:Nat}
theorem ret_ok {e:PySem.Expr} {p:Pos} {c:CE} (ie:EvOk P l env names e c):StOk P l env names (exec (.Return (some e) p) env) (wpS P l (.ret c)):=by
 intro A S₀ s₀ hid S ρ loc H s Qn Qr Qx E F hX h
 simp only [q_assign,q_assignT,q_setIdx,q_mut,q_expr,q_ite,q_for1,q_while,q_ret] at h
 refine wpAny_Return_some (EP.then (ie A S ρ loc H s _ _ E F.cx (hX.ex F) h) fun x h1 tk1 n1 v1 G1 k1 f1 X1 V1 q1=>?_)
 exact ⟨_,loc,_,v1,Mvd.kp k1 f1,F.kp k1 f1 X1,V1,q1⟩
theorem if_ok {t:PySem.Expr} {a b:List PySem.Stmt} {p:Pos} {c:CE} {x y:List CS} (it:TrOk P l env names t c) (ia:StOk P l env names (execs a env) (wpSs P l x)) (ib:StOk P l env names (execs b env) (wpSs P l y)) :
  StOk P l env names (exec (.If t a b p) env) (wpS P l (.ite c x y)):=by
 intro A S₀ s₀ hid S ρ loc H s Qn Qr Qx E F hX h
 simp only [q_assign,q_assignT,q_setIdx,q_mut,q_expr,q_ite,q_for1,q_while,q_ret] at h
 obtain ⟨R,hR,h⟩:=h
 refine wpAny_If (BP.then (it A S ρ loc H s (fun t H₁=>if t = true then wpSs P l x loc H₁ (Cut l.p R) Qr Qx else wpSs P l y loc H₁ (Cut l.p R) Qr Qx) _ E F.cx (hX.ex F) h) fun t h1 tk1 n1 G1 k1 f1 X1 q1=>?_)
 have m:Mvd l.p env ρ s (ρ++n1) { s with heap:=h1,toks:=tk1 }:=Mvd.kp k1 f1
 cases t with
 | true=>
  simp only [if_true] at q1 ⊢
  exact wpAny_mono (ia A S₀ s₀ hid S _ loc _ _ (Cut l.p R) Qr Qx E (F.kp k1 f1 X1) (hX.after m) q1) (fun f s₂ hf=>(SP.after m (SP.cut hf)).mono hR) fun _ _ y=>y
 | false=>
  simp only [Bool.false_eq_true,if_false] at q1 ⊢
  exact wpAny_mono (ib A S₀ s₀ hid S _ loc _ _ (Cut l.p R) Qr Qx E (F.kp k1 f1 X1) (hX.after m) q1) (fun f s₂ hf=>(SP.after m (SP.cut hf)).mono hR) fun _ _ y=>y
theorem seq_ok (ih:∀ (st:PySem.Stmt) (c:CS),compS nt n env.kindOf names st = some c→StOk P l env names (exec st env) (wpS P l c)):∀ (b:List PySem.Stmt) (cs:List CS),allSome (b.map (compS nt n env.kindOf names)) = some cs→StOk P l env names (execs b env) (wpSs P l cs)
 | [],cs,hc=>by
  cases hc
  intro A S₀ s₀ hid S ρ loc H s Qn Qr Qx E F hX h
  simp only [q_nil,q_cons] at h
  exact wpAny_execs_nil ⟨ρ,loc,H,Mvd.refl,F,h⟩
 | st::r,cs,hc=>by
  obtain ⟨c,t,e1,e2,rfl⟩:=allSome_cons hc
  intro A S₀ s₀ hid S ρ loc H s Qn Qr Qx E F hX h
  simp only [q_nil,q_cons] at h
  refine wpAny_execs_cons (wpAny_mono (ih st c e1 A S₀ s₀ hid S ρ loc H s _ Qr Qx E F hX h) (fun f s₁ hf=>?_) fun _ _ y=>y)
  cases f with
  | next=>
   obtain ⟨ρ₁,loc₁,H₁,m,F₁,q⟩:=hf
   exact wpAny_mono (seq_ok ih r t e2 A S₀ s₀ hid S ρ₁ loc₁ H₁ s₁ Qn Qr Qx E F₁ (hX.after m) q) (fun f s₂ hf=>SP.after m hf) fun _ _ y=>y
  | ret v=>exact hf
  | _=>exact hf.elim
theorem swaps_false {v:PySem.Expr} {t:Option PySem.Expr} {k:Nat} (h:isComp v = false):swapsWith v t k env = pure false:=by
 cases v<;>first | rfl | cases h
theorem assign_ok (ho:EnvOk env) {x:Str} {i:Nat} {v:PySem.Expr} {px p:Pos} {c:CE} (hx:slotOf env.kindOf names x = some i) (ie:EvOk P l env names v c) (hs:swapsWith v (some (.Name x px)) p.line env = pure false) :
  StOk P l env names (exec (.Assign [.Name x px] v p) env) (wpS P l (.assign i c)):=by
 intro A S₀ s₀ hid S ρ loc H s Qn Qr Qx E F hX h
 simp only [q_assign,q_assignT,q_setIdx,q_mut,q_expr,q_ite,q_for1,q_while,q_ret] at h
 refine wpAny_Assign_Name (EP.then (ie A S ρ loc H s _ _ E F.cx (hX.ex F) h) fun y h1 tk1 n1 v1 G1 k1 f1 X1 V1 q1=>?_) hs
 refine wpAny_mono (store_ok (K:=⟨P,l,A,env,names,S₀,s₀,hid,S⟩) (F.kp (tk:=tk1) k1 f1 X1) hx V1) (fun _ s₂ h2=>?_) fun _ _ y=>y
 exact ⟨_,_,_,(Mvd.kp k1 f1).trans h2.1,h2.2,q1⟩
theorem expr_st_ok (ho:EnvOk env) {e:PySem.Expr} {p:Pos} {c:CE} (ie:EvOk P l env names e c) (hs:isComp e = false):StOk P l env names (exec (.Expr e p) env) (wpS P l (.expr c)):=by
 intro A S₀ s₀ hid S ρ loc H s Qn Qr Qx E F hX h
 simp only [q_assign,q_assignT,q_setIdx,q_mut,q_expr,q_ite,q_for1,q_while,q_ret] at h
 refine wpAny_Expr_any (EP.then (ie A S ρ loc H s _ _ E F.cx (hX.ex F) h) fun y h1 tk1 n1 v1 G1 k1 f1 X1 V1 q1=>?_) (by unfold interactive;rw [ho.1];rfl) (swaps_false hs)
 exact ⟨_,_,_,Mvd.kp k1 f1,F.kp k1 f1 X1,q1⟩
theorem set_vrels {S:Sx} {ρ:List Addr} {h:Heap}:∀ {vs:List AV} {xs:List Value} {k:Nat} {v:AV} {x:Value},VRels S ρ h vs xs→VRel S ρ h v x→VRels S ρ h (vs.set k v) (xs.set k x)
 | _,_,_,_,_,.nil,_=>.nil
 | _,_,0,_,_,.cons _ r,V=>.cons V r
 | _,_,k + 1,_,_,.cons a r,V=>.cons a (set_vrels r V)
theorem PL.upd {h:Heap} {a:Addr} {items:Array Value} {m:Nat} (hp:h.get? a = some { cls:=.type "list",data:=.seq items m }) (f:Array Value→Array Value):(h.update a (Obj.mapSeq f)).PlainList a (f items):=⟨_,IsL.update hp f⟩
theorem setidx_ok {o i v:PySem.Expr} {sp p:Pos} {ca cb cc:CE} (iv:EvOk P l env names v ca) (io:EvOk P l env names o cb) (ii:EvOk P l env names i cc) :
  StOk P l env names (exec (.Assign [.Subscript o i sp] v p) env) (wpS P l (.setIdx cb cc ca)):=by
 intro A S₀ s₀ hid S ρ loc H s Qn Qr Qx E F hX h
 simp only [q_assign,q_assignT,q_setIdx,q_mut,q_expr,q_ite,q_for1,q_while,q_ret] at h
 have hs:swapsWith v (some (.Subscript o i sp)) p.line env = pure false:=by cases v<;>rfl
 refine wpAny_Assign_Subscript (EP.then (iv A S ρ loc H s _ _ E F.cx (hX.ex F) h) fun y h1 tk1 n1 v1 G1 k1 f1 X1 V1 q1=>?_) hs
 have C1:=F.cx.kp (tk:=tk1) k1 f1 X1
 refine EP.then (io A S _ loc _ _ _ _ E C1 ((hX.ex F).kp k1) q1) fun y h2 tk2 n2 v2 G2 k2 f2 X2 V2 q2=>?_
 have C2:=C1.kp (tk:=tk2) k2 f2 X2
 refine EP.then (ii A S _ loc _ _ _ _ E C2 (((hX.ex F).kp k1).kp k2) q2) fun y h3 tk3 n3 v3 G3 k3 f3 X3 V3 q3=>?_
 obtain ⟨r,k,vs,rfl,rfl,e1,e2,e3,e4,q⟩:=q3
 have V1':=(V1.kp k2 f2).kp k3 f3
 have V2':=V2.kp k3 f3
 have F3:=F.kp (tk:=tk3) (e:=n1++n2++n3) (G:=G1++G2++G3) ((k1.trans k2).trans k3) (fresh_trans (k1.trans k2) (fresh_trans k1 f1 f2) f3) (by simpa [List.append_assoc] using X3)
 have m3:Mvd l.p env ρ s (ρ++(n1++n2++n3)) { s with heap:=h3,toks:=tk3 }:=Mvd.kp ((k1.trans k2).trans k3) (fresh_trans (k1.trans k2) (fresh_trans k1 f1 f2) f3)
 obtain ⟨_,rfl⟩:=V3.ofInt
 cases V2'.iRef with
 | mk ha=>
 rename_i a
 obtain ⟨items,⟨mm,hp⟩,vv⟩:=X3.get e1 ha
 have hl:=vv.length
 simp only [Array.length_toList] at hl
 unfold smallN at e4
 refine PySem.W.ki_setAt (n:=mm) hp e2 (by (first | lia | omega)) (by (first | lia | omega)) ?_
 have ha':(ρ++(n1++n2++n3))[r]? = some a:=by simpa [List.append_assoc] using ha
 have pl:=PL.upd hp (·.setIfInBounds k.toNat y)
 have V':VRels S (ρ++(n1++n2++n3)) h3 (vs.set k.toNat v1) (items.setIfInBounds k.toNat y).toList:=by
  have:=set_vrels (k:=k.toNat) vv V1'
  rw [Array.toList_setIfInBounds]
  simpa [List.append_assoc] using this
 refine ⟨_,loc,_,m3.trans (Mvd.set (tk:=tk3) ha' (Heap.SameBut.update ..) pl),F3.set (tk:=tk3) ha' (Heap.SameBut.update ..) pl V',?_⟩
 simpa [List.append_assoc] using q
end
open PySem PyProof.Rows PySem.SeqAt
section
variable {K:FC} {ρ:List Addr} {loc:Loc} {H:AH} {s:Shared} {h':Heap} {tk:Nat} {E:Value→Shared→Prop}
theorem Fr.guardG {x' e:List Addr} {G:AH} (F:Fr K ρ loc H s) (hx:∀ b ∈ x',s.heap.get? b = none) (k:Kp s.heap h') (hd:∀ b ∈ x',∃ o,h'.get? b = some o) (f:Fresh s.heap e) (X:HSim ⟨K.S.ad++x',K.S.prog,K.S.w⟩ (ρ++e) (H++G) h') :
  Fr { K with S:=⟨K.S.ad++x',K.S.prog,K.S.w⟩ } (ρ++e) loc (H++G) { s with heap:=h',toks:=tk } where
 aok:=F.aok
 eok:=F.eok
 nd:=F.nd
 g0:=F.g0
 pp:=F.pp
 pw:=F.pw
 sd:=fun b hb=>(List.mem_append.mp hb).elim (F.sd.kp k b) (hd b)
 sim:=X
 fr:=fun a ha=>(List.mem_append.mp ha).elim (F.fr a) fun q=>by
  cases q0:K.s₀.heap.get? a with
  | none=>rfl
  | some o=>have:=f a q;rw [F.keep a o q0] at this;cases this
 sub:=fun b hb=>List.mem_append_left _ (F.sub b hb)
 hL:=List.mem_append_left _ F.hL
 hC:=fun n c hc=>List.mem_append_left _ (F.hC n c hc)
 len:=F.len
 ic:=by obtain ⟨m,cm,I,q⟩:=F.ic;exact ⟨m,cm,InCallC.kp I k,fun i x v e1 e2=>by obtain ⟨rv,h1,h2⟩:=q i x v e1 e2;exact ⟨rv,h1,(h2.avoid hx).kp k f⟩⟩
 hh:=fun i rv v e1 e2=>((F.hh i rv v e1 e2).avoid hx).kp k f
 fo:=fun P e=>⟨(F.fo P e).1,(F.fo P e).2.1,fun q hq=>by obtain ⟨a,b,c,sl,y⟩:=(F.fo P e).2.2 q hq;exact ⟨a,⟨List.mem_append_left _ b.1,b.2⟩,c,sl,k _ _ y⟩⟩
theorem Fr.guard {x':List Addr} (F:Fr K ρ loc H s) (hx:∀ b ∈ x',s.heap.get? b = none) (k:Kp s.heap h') (hd:∀ b ∈ x',∃ o,h'.get? b = some o):Fr { K with S:=⟨K.S.ad++x',K.S.prog,K.S.w⟩ } ρ loc H { s with heap:=h',toks:=tk }:=by
 have:=F.guardG (e:=[]) (G:=[]) (tk:=tk) hx k hd (Fresh.nil _) (by simpa using (F.sim.avoid hx).kp k)
 simpa using this
theorem Fr.unguard {x':List Addr} {S:Sx} (F:Fr K ρ loc H s) (hS:K.S = ⟨S.ad++x',S.prog,S.w⟩) (hk:∀ c o,c ∉ x'→s.heap.get? c = some o→h'.get? c = some o)
  (hf:∀ b ∈ x',b ∉ S.ad∧K.s₀.heap.get? b = none) (hs:∀ b ∈ K.S₀.ad,b ∈ S.ad) (hL:K.env.locals ∈ S.ad) (hC:∀ n c,(n,c) ∈ K.env.cells→c ∈ S.ad) (hF:∀ P,K.l.p = some P→∀ q ∈ P.fr,q.1.locals ∈ S.ad):Fr { K with S:=S } ρ loc H { s with heap:=h',toks:=tk }:=by
 have hx:∀ b ∈ x',b ∈ K.S.ad:=fun b hb=>by rw [hS];exact List.mem_append_right _ hb
 have hc:∀ c o,c ∉ K.S.ad→s.heap.get? c = some o→h'.get? c = some o:=fun c o hc e=>hk c o (fun q=>hc (hx c q)) e
 have hsub:∀ b ∈ S.ad,b ∈ K.S.ad:=fun b hb=>by rw [hS];exact List.mem_append_left _ hb
 have hp:K.S.prog = S.prog:=by rw [hS]
 have hw:K.S.w = S.w:=by rw [hS]
 have hn:∀ b ∈ S.ad,b ∉ x':=fun b hb q=>(hf b q).1 hb
 have ch:∀ {v:AV} {x:Value},VRel K.S ρ s.heap v x→VRel S ρ h' v x:=fun V=>VRel.sub hp hw hsub (V.chg hc)
 exact {
     aok:=F.aok,eok:=F.eok,nd:=F.nd,g0:=F.g0,pp:=hp.symm.trans F.pp,pw:=hw.symm.trans F.pw
     sd:=fun a ha=>by obtain ⟨o,ho⟩:=F.sd a (hsub a ha);exact ⟨o,hk a o (hn a ha) ho⟩
     sim:=HSim.sub hp hw hsub (F.sim.chg hc)
     fr:=F.fr,sub:=hs,hL:=hL,hC:=hC,len:=F.len
     ic:=by
      obtain ⟨m,cm,I,q⟩:=F.ic
      refine ⟨m,cm,⟨⟨by obtain ⟨_,_,e⟩:=I.toInCall.same;exact ⟨h',tk,by rw [e]⟩,I.toInCall.ns.at' fun o e=>hk _ o (hn _ hL) e,fun b o e=>hk b o (fun q=>by rw [(hf b q).2] at e;cases e) (I.toInCall.keep b o e),I.toInCall.fresh⟩,fun n c hc=>?_,I.apart,I.above⟩,fun i x v e1 e2=>by obtain ⟨rv,h1,h2⟩:=q i x v e1 e2;exact ⟨rv,h1,ch h2⟩⟩
      obtain ⟨o,ho,hd⟩:=I.cell n c hc
      exact ⟨o,hk c o (hn c (hC n c (mem_of_lookup hc))) ho,hd⟩
     hh:=fun i rv v e1 e2=>ch (F.hh i rv v e1 e2)
     fo:=fun P e=>⟨(F.fo P e).1,(F.fo P e).2.1,fun q hq=>by obtain ⟨a,b,c,sl,y⟩:=(F.fo P e).2.2 q hq;exact ⟨a,⟨hF P e q hq,b.2⟩,c,sl,hk _ _ (hn _ (hF P e q hq)) y⟩⟩ }
theorem Fr.memF {K:FC} {ρ:List Addr} {loc:Loc} {H:AH} {s:Shared} (F:Fr K ρ loc H s):∀ P,K.l.p = some P→∀ q ∈ P.fr,q.1.locals ∈ K.S.ad:=fun P e q hq=>((F.fo P e).2.2 q hq).2.1.1
theorem Mvd.junk {p:Option Pin} {env:Env} {x' ρ':List Addr} {s₂:Shared} (m:Mvd p env ρ s ρ' s₂) (hk:∀ c o,c ∉ x'→s₂.heap.get? c = some o→h'.get? c = some o) (hx:∀ b ∈ x',s.heap.get? b = none):Mvd p env ρ s ρ' { s₂ with heap:=h',toks:=tk } where
 same:=by obtain ⟨h,t,rfl⟩:=m.same;exact ⟨h',tk,rfl⟩
 mv:=fun b o h1 h2 h3 h4 e=>hk b o (fun q=>by rw [hx b q] at e;cases e) (m.mv b o h1 h2 h3 h4 e)
 sub:=m.sub
 alive:=fun b o e=>by
  obtain ⟨o',e'⟩:=m.alive b o e
  exact ⟨o',hk b o' (fun q=>by rw [hx b q] at e;cases e) e'⟩
 pre:=m.pre
end
section
variable {P:PC} {l:Lv} {env:Env} {names:List Str} {nt:NT} {n:Nat}
theorem assign_comp_ok (ho:EnvOk env) {x:Str} {i:Nat} {py p:Pos} {scope:Scope} {cap:List Nat} {tgt:PySem.Expr} {nv:Nat} {txs:List Str} {pos:Pos} {elt it:PySem.Expr} {ifs:List PySem.Expr} {ce ci:CE} {cs:List CE}
  (hx:slotOf env.kindOf names x = some i)
  (ih:∀ (env:Env) (names:List Str),EnvOk env→∀ (e:PySem.Expr) (c:CE),compE nt n env.kindOf names e = some c→EvOk P l env names e c∧TrOk P l env names e c)
  (hi:compE nt n env.kindOf names it = some ci) (hcap:allSome ((freeNames scope).map fun x=>idxOf x names) = some cap) (he:compE nt n (compKd scope env.kindOf) (freeNames scope++txs) elt = some ce)
  (hc:allSome (ifs.map (compE nt n (compKd scope env.kindOf) (freeNames scope++txs))) = some cs) (hok:compOk scope env.kindOf txs = true) (htg:tgtNames tgt = some (nv,txs)) (hnd:txs.Nodup) (hcs:cs.length ≤ 1)
  (hs:swapsWith (.ListComp elt [⟨tgt,it,ifs,0⟩] scope pos) (some (.Name x py)) p.line env = pure true) :
  StOk P l env names (exec (.Assign [.Name x py] (.ListComp elt [⟨tgt,it,ifs,0⟩] scope pos) p) env) (wpS P l (.assign i (.comp ce cs cap nv ci))):=by
 intro A S₀ s₀ hid S ρ loc H s Qn Qr Qx E F hX h
 simp only [q_assign,q_assignT,q_setIdx,q_mut,q_expr,q_ite,q_for1,q_while,q_ret] at h
 rw [exec_Assign_Name_used _ _ _ _ hs]
 refine wpAny_bind (wpAny_standAt (wpAny_bind ?_))
 show wpAny _ A (do let _ ← comprehension (.ListComp elt [⟨tgt,it,ifs,0⟩] scope pos) scope env (firstIterPos [⟨tgt,it,ifs,0⟩] pos) (newList []) false (eval it env) (some (assign (.Name x py) env))) _ _ s
 refine wpAny_bind (wpAny_mono (comp_run (QQ:=fun _ s'=>SP ⟨P,l,A,env,names,S₀,s₀,hid,S⟩ ρ s Qn Qr .next s') ho ih hi hcap he hc hok htg hnd hcs F.cx (hX.ex F) h ?_) (fun _ s' hq=>wpAny_pure (wpAny_pure hq)) fun _ _ e=>e)
 intro h₁ tk₁ e₁ G₁ e G D Cc h' tk m vs k1 f1 C1 fD hCc hCe hn X2 eD k' q
 show wpAny _ A (assign (.Name x py) env (.ref D)) _ _ _
 have F1:=F.kp (tk:=tk₁) k1 f1 C1.sim
 have hCo:∃ o,h'.get? Cc = some o:=by obtain ⟨o,_,_,ho,_⟩:=hn;exact ⟨o,ho⟩
 have F2:=F1.guardG (x':=[Cc]) (e:=e++[D]) (G:=G++[vs]) (tk:=tk) (fun b hb=>by simp at hb;subst hb;exact hCc) k' (fun b hb=>by simp at hb;subst hb;exact hCo) fD X2
 have VD:VRel ⟨S.ad++[Cc],S.prog,S.w⟩ (ρ++e₁++(e++[D])) h' (.ref ((H++G₁).length + G.length)) (.ref D):=.ref eD
 have hCL:Cc ≠ env.locals:=fun q=>by obtain ⟨o,ho⟩:=F1.sd _ F1.hL;rw [← q,hCc] at ho;cases ho
 have hCC:∀ n c,(n,c) ∈ env.cells→Cc ≠ c:=fun n c hm q=>by obtain ⟨o,ho⟩:=F1.sd _ (F1.hC n c hm);rw [← q,hCc] at ho;cases ho
 refine wpAny_assign_Name (wpAny_mono (store_ok F2 hx VD) (fun _ s₂ h2=>?_) fun _ _ y=>y)
 obtain ⟨M2,F3⟩:=h2
 have hCr:Cc ∉ ρ++e₁++(e++[D]):=fun hm=>by
  rcases List.mem_append.mp hm with q | q
  ·obtain ⟨o,ho⟩:=C1.sim.mem q;rw [hCc] at ho;cases ho
  ·exact hCe q
 have hn2:s₂.heap.Ns Cc m:=hn.at' fun o e=>M2.mv Cc o hCL hCC hCr (F1.offF hCc) e
 refine ⟨m,hn2,fun h3 hs3=>?_⟩
 have hk3:∀ c o,c ∉ [Cc]→s₂.heap.get? c = some o→h3.get? c = some o:=fun c o hc e=>hs3.extBut c o (fun q=>hc (by simp [q])) e
 have F4:=F3.unguard (x':=[Cc]) (S:=S) (h':=h3) (tk:=s₂.toks) rfl hk3
  (fun b hb=>by
   simp at hb;rw [hb]
   refine ⟨fun q=>?_,?_⟩
   ·obtain ⟨o,ho⟩:=F1.sd _ q;rw [hCc] at ho;cases ho
   ·cases q0:s₀.heap.get? Cc with
    | none=>rfl
    | some o=>have:=F1.keep _ _ q0;rw [hCc] at this;cases this) F.sub F.hL F.hC F.memF
 have m1:Mvd l.p env ρ s (ρ++e₁) { s with heap:=h₁,toks:=tk₁ }:=Mvd.kp k1 f1
 have m2:Mvd l.p env (ρ++e₁) { s with heap:=h₁,toks:=tk₁ } (ρ++e₁++(e++[D])) { s with heap:=h',toks:=tk }:=Mvd.kp k' fD
 exact ⟨_,_,_,m1.trans ((m2.trans M2).junk (x':=[Cc]) (tk:=s₂.toks) hk3 fun b hb=>by simp at hb;subst hb;exact hCc),F4,q⟩
end
open PySem PyProof.Rows PySem.SeqAt
section
variable {prog:Program} {w:World} {A:Around} {S:Sx} {ρ:List Addr} {H:AH} {s:Shared} {E:Value→Shared→Prop} {v:AV} {x:Value}
theorem VRel.mono2 {h h':Heap} (hk:∀ b o,b ∉ ρ→b ∉ S.ad→h.get? b = some o→h'.get? b = some o) {v:AV} {x:Value} (V:VRel S ρ h v x):VRel S ρ h' v x:=
 VRel.rec (motive_1:=fun v x _=>VRel S ρ h' v x) (motive_2:=fun v x _=>VRels S ρ h' v x)
  (.none)
  (fun b=>.bool b)
  (fun i t=>.int i t)
  (fun x t=>.str x t)
  (fun ha hs hi hv ih=>.tup ha hs (hi.at fun o e=>hk _ o ha hs e) ih)
  (fun ha hs hi hv ih=>.fl ha hs (PlainList.at' hi fun o e=>hk _ o ha hs e) ih)
  (fun hi=>.ref hi)
  (fun hr ha hs hi=>.rng hr ha hs (hk _ _ ha hs hi))
  (fun ha hs hm he hv ih=>.dict ha hs (DMap.at hm fun o e=>hk _ o ha hs e) he ih)
  (fun ha hs hi=>.exc ha hs (hi.at fun o e=>hk _ o ha hs e))
  (fun ha hs hd hs' hm he hv ih=>.obj ha hs hd hs' (hm.at (fun o e=>hk _ o ha hs e) fun o e=>hk _ o hd hs' e) he ih)
  .nil (fun _ _ i1 i2=>.cons i1 i2) V
theorem VRels.mono2 {h h':Heap} (hk:∀ b o,b ∉ ρ→b ∉ S.ad→h.get? b = some o→h'.get? b = some o) {v:List AV} {x:List Value} (V:VRels S ρ h v x):VRels S ρ h' v x:=
 VRels.ind (M:=fun v x=>VRels S ρ h' v x) .nil (fun _ _ _ _ a _ i2=>.cons (VRel.mono2 hk a) i2) V
end
section
variable {P:PC} {l:Lv} {env:Env} {names:List Str} {nt:NT} {n:Nat}
theorem stores_ok {K:FC} {E:Value→Shared→Prop}:∀ (es:List PySem.Expr) (xs:List Nat) (vs:List AV) (ys:List Value) {ρ:List Addr} {loc:Loc} {H:AH} {s:Shared},allSome (es.map fun e=>(nameOf e).bind (slotOf K.env.kindOf K.names)) = some xs→VRels K.S ρ s.heap vs ys→vs.length = xs.length→Fr K ρ loc H s →
  wpAny (model K.P.prog K.P.w) K.A (assignInOrder ((assignEach es K.env).map (·.2)) ys) (fun _ s'=>Mvd K.l.p K.env ρ s ρ s'∧Fr K ρ (setAll loc xs vs) H s') E s
 | [],xs,vs,ys,ρ,loc,H,s,hc,V,hl,F=>by
  cases hc
  have:vs = []:=List.length_eq_zero_iff.mp hl
  subst this
  exact wpAny_pure ⟨Mvd.refl,F⟩
 | e::r,xs,vs,ys,ρ,loc,H,s,hc,V,hl,F=>by
  obtain ⟨a,t,e1,e2,rfl⟩:=allSome_cons hc
  obtain ⟨x,ex,ea⟩:=Option.bind_eq_some_iff.mp e1
  cases V with
  | nil=>simp at hl
  | cons V Vr=>
  rename_i v vs y ys
  cases e<;>first | (cases ex;done) | skip
  cases ex
  rename_i p
  show wpAny _ _ (do holding ys (assign (.Name x p) K.env y);assignInOrder ((assignEach r K.env).map (·.2)) ys) _ _ s
  refine wpAny_bind (wpAny_holding (wpAny_assign_Name (wpAny_mono (store_ok F ea V) (fun _ s₁ h₁=>?_) fun _ _ y=>y)))
  obtain ⟨m1,F1⟩:=h₁
  have Vr':VRels K.S ρ s₁.heap vs ys:=by
   exact Vr.mono2 fun b o hb hs e=>m1.mv b o (fun q=>hs (q ▸ F.hL)) (fun n c hc q=>hs (q ▸ F.hC n c hc)) hb (fun P e q hq eq=>hs (eq ▸ F.memF P e q hq)) e
  refine wpAny_mono (stores_ok r t vs ys e2 Vr' (by simpa using hl) F1) (fun _ s₂ h₂=>?_) fun _ _ y=>y
  exact ⟨m1.trans h₂.1,h₂.2⟩
theorem each_map:∀ (es:List PySem.Expr) (xs:List Nat),allSome (es.map fun e=>(nameOf e).bind (slotOf env.kindOf names)) = some xs→(assignEach es env).length = xs.length∧(assignEach es env).findIdx? (·.1) = none
 | [],xs,hc=>by cases hc;exact ⟨rfl,rfl⟩
 | e::r,xs,hc=>by
  obtain ⟨a,t,e1,e2,rfl⟩:=allSome_cons hc
  obtain ⟨x,ex,ea⟩:=Option.bind_eq_some_iff.mp e1
  cases e<;>first | (cases ex;done) | skip
  cases ex
  rename_i p
  have q:=each_map r t e2
  have e0:assignEach (.Name x p::r) env = (false,assign (.Name x p) env)::assignEach r env:=rfl
  rw [e0]
  refine ⟨by simp [q.1],?_⟩
  rw [List.findIdx?_cons]
  simp [q.2]
theorem assignT_ok (ho:EnvOk env) {es:List PySem.Expr} {xs:List Nat} {v:PySem.Expr} {kk:Nat} {tp p:Pos} {c:CE} (hx:allSome (es.map fun e=>(nameOf e).bind (slotOf env.kindOf names)) = some xs) (ie:EvOk P l env names v c) (ht:isTup v = false) (hc:isComp v = false) :
  StOk P l env names (exec (.Assign [.Tuple es kk tp] v p) env) (wpS P l (.assignT xs c)):=by
 intro A S₀ s₀ hid S ρ loc H s Qn Qr Qx E F hX h
 simp only [q_assign,q_assignT,q_setIdx,q_mut,q_expr,q_ite,q_for1,q_while,q_ret] at h
 obtain ⟨hq,h⟩:=h
 have hm:=each_map (env:=env) (names:=names) es xs hx
 refine Assign_Tuple (EP.then (ie A S ρ loc H s _ _ E F.cx (hX.ex F) h) fun y h1 tk1 n1 v1 G1 k1 f1 X1 V1 qz=>?_) (by unfold swapsWithSole;exact swaps_false hc) (by cases v<;>first | rfl | cases ht)
 obtain ⟨vs,e1,qy⟩:=opt_of qz
 obtain ⟨loc',ez,q1⟩:=opt_of qy
 obtain ⟨e2,rfl⟩:=setAllO_of xs vs ez
 rw [show assign (.Tuple es kk tp) env y = (do standAt tp;unpack y (assignEach es env)) from rfl]
 refine wpAny_bind (wpAny_standAt ?_)
 unfold unpack
 rw [hm.1,hm.2,← e2]
 refine wpAny_bind (wpAny_holding (unpack_real (F.aok.1 hq) X1 V1 e1 fun ys h2 tk2 k2 V2=>?_))
 have F1:=F.kp (tk:=tk1) k1 f1 X1
 have F2:=F1.kp0 (tk:=tk2) k2
 refine wpAny_mono (stores_ok (K:=⟨P,l,A,env,names,S₀,s₀,hid,S⟩) es xs vs ys hx (V2.kp0 k2) e2 F2) (fun _ s₂ h₂=>?_) fun _ _ y=>y
 exact ⟨_,_,_,((Mvd.kp k1 f1).trans (Mvd.kp0 (s:={ s with heap:=h1,toks:=tk1 }) k2)).trans h₂.1,h₂.2,q1⟩
end
open PySem PyProof.Rows PySem.SeqAt
section
variable {K:FC} {ρ:List Addr} {loc:Loc} {H:AH} {s:Shared} {tk:Nat} {Qn:Loc→AH→Prop} {Qr:AV→AH→Prop}
theorem mut_fin {r m:Nat} {a:Addr} {items:Array Value} {ys:List AV} (F:Fr K ρ loc H s) (ha:ρ[r]? = some a) (hp:s.heap.get? a = some { cls:=.type "list",data:=.seq items m }) (f:Array Value→Array Value) (V:VRels K.S ρ s.heap ys (f items).toList) (q:Qn loc (H.set r ys)) :
  SP K ρ s Qn Qr .next { s with heap:=s.heap.update a (Obj.mapSeq f),toks:=tk }:=
 ⟨ρ,loc,_,Mvd.set ha (Heap.SameBut.update ..) (PL.upd hp f),F.set ha (Heap.SameBut.update ..) (PL.upd hp f) V,q⟩
end
section
variable {P:PC} {l:Lv} {env:Env} {names:List Str} {nt:NT} {n:Nat}
theorem opMut1 {vs:List AV} {k:AV→Option (List AV)} {ys:List AV} (h:mut1 vs k = some ys):∃ v,vs = [v]∧k v = some ys:=by
 rcases vs with _ | ⟨v,_ | ⟨u,r⟩⟩
 ·first | exact none_some h | cases h
 ·exact ⟨v,rfl,h⟩
 ·first | exact none_some h | cases h
theorem opMut0 {vs:List AV} {k:Option (List AV)} {ys:List AV} (h:mut0 vs k = some ys):vs = []∧k = some ys:=by
 rcases vs with _ | ⟨v,r⟩
 ·exact ⟨rfl,h⟩
 ·first | exact none_some h | cases h
theorem opMut2 {vs:List AV} {k:Int→AV→Option (List AV)} {ys:List AV} (h:mut2 vs k = some ys):∃ i v,vs = [.int i,v]∧k i v = some ys:=by
 rcases vs with _ | ⟨v,_ | ⟨u,_ | ⟨u2,r⟩⟩⟩
 ·first | exact none_some h | cases h
 ·first | exact none_some h | cases h
 ·cases v<;>first | (exact none_some h) | (cases h;done) | exact ⟨_,_,rfl,h⟩
 ·first | exact none_some h | cases h
theorem iteo {α:Type} {p:Prop} [Decidable p] {a b:α} (h:(if p then some a else Option.none) = some b):p∧a = b:=by
 split at h
 ·rename_i hp
  exact ⟨hp,Option.some.inj h⟩
 ·first | exact none_some h | cases h
theorem arg_app {H:AH} {xs ys vs:List AV} (h0:opMut H .append xs vs = some ys):∃ v,vs = [v]∧xs.length < smallN∧xs++[v] = ys:=by
 obtain ⟨v,rfl,h⟩:=opMut1 h0
 exact ⟨v,rfl,iteo h⟩
theorem arg_ins {H:AH} {xs ys vs:List AV} (h0:opMut H .insert xs vs = some ys):∃ k v,vs = [.int k,v]∧(xs.length < smallN∧-1000000 < k∧k < 1000000)∧insAt xs k v = ys:=by
 obtain ⟨k,v,rfl,h⟩:=opMut2 h0
 exact ⟨k,v,rfl,iteo h⟩
theorem arg_clr {H:AH} {xs ys vs:List AV} (h0:opMut H .clear xs vs = some ys):vs = []∧xs.length ≤ smallN∧[] = ys:=by
 obtain ⟨rfl,h⟩:=opMut0 h0
 exact ⟨rfl,iteo h⟩
theorem arg_rev {H:AH} {xs ys vs:List AV} (h0:opMut H .reverse xs vs = some ys):vs = []∧xs.length ≤ smallN∧xs.reverse = ys:=by
 obtain ⟨rfl,h⟩:=opMut0 h0
 exact ⟨rfl,iteo h⟩
theorem arg_pop {H:AH} {xs ys vs:List AV} (h0:opMut H .pop xs vs = some ys):vs = []∧(xs.length ≤ smallN∧0 < xs.length)∧xs.eraseIdx (xs.length - 1) = ys:=by
 obtain ⟨rfl,h⟩:=opMut0 h0
 exact ⟨rfl,iteo h⟩
theorem fits_ins {j:Int} (h1:-1000000 < j) (h2:j < 1000000):¬(!Builtin.List.listFitsIndex j) = true:=by
 simp only [Builtin.List.listFitsIndex]
 simp
 (first | lia | omega)
theorem small_lt {n m:Nat} (e:n = m) (h:n < smallN):m < sizeLine:=by
 have:sizeLine = 2 ^ 24:=rfl
 unfold smallN at h
 (first | lia | omega)
theorem mut_ok (ho:EnvOk env) {o:PySem.Expr} {name:Str} {ap p pos:Pos} {es:List PySem.Expr} {c:CE} {cs:List CE} {m:Mu}
  (ih:∀ (e:PySem.Expr) (c:CE),compE nt n env.kindOf names e = some c→EvOk P l env names e c) (e1:compE nt n env.kindOf names o = some c) (e2:allSome (es.map (compE nt n env.kindOf names)) = some cs) (hl:(ap.endLine == p.line) = true) (hlen:cs.length ≤ 2) (hm:muNames.lookup name = some m) :
  StOk P l env names (exec (.Expr (.Call (.Attribute o name ap) es [] p) pos) env) (wpS P l (.mut m c cs)):=by
 intro A S₀ s₀ hid S ρ loc H s Qn Qr Qx E Fm hX h
 rw [q_mut] at h
 refine hidQ fun QQ EE hQQ _=>?_
 refine wpAny_Expr_any ?_ (by unfold interactive;rw [ho.1];rfl) rfl
 have hmem:=lookup_mem hm
 simp only [muNames,List.mem_cons,Prod.mk.injEq,List.not_mem_nil,or_false] at hmem
 have go:∀ {h':Heap} {tk:Nat} {e:List Addr} {G:AH} {u:AV} {vs:List AV} {x:Value} {Goal:Value→Prop},Kp s.heap h'→Fresh s.heap e→Cx P l A env names S (ρ++e) loc (H++G) { s with heap:=h',toks:=tk }→VRel S (ρ++e) h' u x →
   (∃ r xs ys,u = .ref r∧(H++G)[r]? = some xs∧opMut (H++G) m xs vs = some ys∧Qn loc ((H++G).set r ys)) →
   (∀ (xs ys:List AV) (a:Addr) (items:Array Value) (mm:Nat),h'.get? a = some { cls:=.type "list",data:=.seq items mm }→VRels S (ρ++e) h' xs items.toList→xs.length = items.size→opMut (H++G) m xs vs = some ys →
    (∀ (f:Array Value→Array Value) (tk':Nat),VRels S (ρ++e) h' ys (f items).toList→QQ .next { s with heap:=h'.update a (Obj.mapSeq f),toks:=tk' })→Goal (.ref a))→Goal x:=by
  intro h' tk e G u vs x Goal k fr C V hq hG
  obtain ⟨r,xs,ys,rfl,er,eo,q⟩:=hq
  cases V.iRef with
  | mk ha=>
  obtain ⟨items,⟨mm,hp⟩,vv⟩:=C.sim.get er ha
  exact hG xs ys _ items mm hp vv (vv.length.trans Array.length_toList) eo fun f tk' V=>hQQ _ _ (SP.after (Mvd.kp (tk:=tk) k fr) (mut_fin (tk:=tk') (Fm.kp (tk:=tk) k fr C.sim) ha hp f V q))
 rcases hmem with ⟨rfl,rfl⟩ | ⟨rfl,rfl⟩ | ⟨rfl,rfl⟩ | ⟨rfl,rfl⟩ | ⟨rfl,rfl⟩
 ·refine meth_run ih e1 e2 hl (Nat.le_trans hlen (by decide)) F.slot_list_append F.type_list_append Fm.cx exOk_any h ?_
  intro h' tk e G v vs x xs k fr C' V Vs hL q
  refine go (Goal:=fun x=>wpAny (model P.prog P.w) A (call (.builtin "list.append") (x::xs)) _ EE _) k fr C' V q fun as ys a items mm hp vv hz eo fin=>?_
  obtain ⟨u,rfl,hs,rfl⟩:=arg_app eo
  obtain ⟨y,ey,Vu⟩:=Vs.of1
  subst ey
  ·skip
   refine call_meets F.slot_list_append ⟨_,hp,rfl⟩ F.entry_list_append (F.args_list_append_2 _ _) (list_append a items mm y (Nat.le_of_lt (small_lt hz hs))) ⟨hp,?_⟩
   exact fin (·.push y) tk (by simpa using vv.app (.cons Vu .nil))
 ·refine meth_run ih e1 e2 hl (Nat.le_trans hlen (by decide)) F.slot_list_insert F.type_list_insert Fm.cx exOk_any h ?_
  intro h' tk e G v vs x xs k fr C' V Vs hL q
  refine go (Goal:=fun x=>wpAny (model P.prog P.w) A (call (.builtin "list.insert") (x::xs)) _ EE _) k fr C' V q fun as ys a items mm hp vv hz eo fin=>?_
  obtain ⟨j,u,rfl,⟨hs,h1,h2⟩,rfl⟩:=arg_ins eo
  obtain ⟨y0,y,ey,Vi,Vu⟩:=Vs.of2
  subst ey
  obtain ⟨t,ei⟩:=Vi.ofInt
  subst ei
  ·skip
   refine call_meets F.slot_list_insert ⟨_,hp,rfl⟩ F.entry_list_insert (F.args_list_insert_3 _ _ _) (AutoSeq1.list_insert_list_int_val_1 a items mm j t y (fits_ins h1 h2) (Nat.le_of_lt (small_lt hz hs))) ⟨hp,?_⟩
   refine fin _ tk ?_
   have:=(vv.take (if j < 0 then (j + (items.size:Int)).toNat else min j.toNat items.size)).app (.cons Vu (vv.drop (if j < 0 then (j + (items.size:Int)).toNat else min j.toNat items.size)))
   unfold insAt
   rw [hz]
   generalize (if j < 0 then (j + (items.size:Int)).toNat else min j.toNat items.size) = q at this ⊢
   simpa [List.take_of_length_le] using this
 ·refine meth_run ih e1 e2 hl (Nat.le_trans hlen (by decide)) F.slot_list_clear F.type_list_clear Fm.cx exOk_any h ?_
  intro h' tk e G v vs x xs k fr C' V Vs hL q
  refine go (Goal:=fun x=>wpAny (model P.prog P.w) A (call (.builtin "list.clear") (x::xs)) _ EE _) k fr C' V q fun as ys a items mm hp vv hz eo fin=>?_
  obtain ⟨rfl,hs,rfl⟩:=arg_clr eo
  have ey:=Vs.of0
  subst ey
  ·skip
   refine call_meets F.slot_list_clear ⟨_,hp,rfl⟩ F.entry_list_clear (F.args_list_clear_1 _) (AutoSeq1.list_clear_list_0 a items mm (small_le hz hs)) ⟨hp,?_⟩
   exact fin (fun _=>#[]) tk .nil
 ·refine meth_run ih e1 e2 hl (Nat.le_trans hlen (by decide)) F.slot_list_reverse F.type_list_reverse Fm.cx exOk_any h ?_
  intro h' tk e G v vs x xs k fr C' V Vs hL q
  refine go (Goal:=fun x=>wpAny (model P.prog P.w) A (call (.builtin "list.reverse") (x::xs)) _ EE _) k fr C' V q fun as ys a items mm hp vv hz eo fin=>?_
  obtain ⟨rfl,hs,rfl⟩:=arg_rev eo
  have ey:=Vs.of0
  subst ey
  ·skip
   refine call_meets F.slot_list_reverse ⟨_,hp,rfl⟩ F.entry_list_reverse (F.args_list_reverse_1 _) (AutoSeq1.list_reverse_list_0 a items mm (small_le hz hs)) ⟨hp,?_⟩
   exact fin (·.reverse) tk (by simpa using vv.rev)
 ·refine meth_run ih e1 e2 hl (Nat.le_trans hlen (by decide)) F.slot_list_pop F.type_list_pop Fm.cx exOk_any h ?_
  intro h' tk e G v vs x xs k fr C' V Vs hL q
  refine go (Goal:=fun x=>wpAny (model P.prog P.w) A (call (.builtin "list.pop") (x::xs)) _ EE _) k fr C' V q fun as ys a items mm hp vv hz eo fin=>?_
  obtain ⟨rfl,⟨hs,hs2⟩,rfl⟩:=arg_pop eo
  have ey:=Vs.of0
  subst ey
  ·skip
   have hlt:items.size - 1 < items.size:=Nat.sub_lt (hz ▸ hs2) (by decide)
   refine call_meets F.slot_list_pop ⟨_,hp,rfl⟩ F.entry_list_pop (F.args_list_pop_1 _) (MeetsSeq.list_pop_last a items mm items[items.size - 1] (by simp [hlt]) (small_le hz hs)) ⟨hp,?_⟩
   refine fin _ tk ?_
   have:=VRels.erase (as.length - 1) vv
   rw [hz] at this ⊢
   simpa using this
end
open PySem PyProof.Rows PySem.SeqAt
noncomputable def ItAt (h:Heap) (I:Addr) (x:Value) (n k:Nat):AV→Prop
 | .rng i _ st=>IsRangeIter h I (i + (k:Nat) * st) ((n:Int) - (k:Nat)) st
 | .fl _=>∃ l,x = .ref l∧h.IsListIter I l k∧l ≠ I
 | _=>False
theorem ItAt.at {h h':Heap} {I:Addr} {x:Value} {n k:Nat} {κ:AV} (t:ItAt h I x n k κ) (hk:∀ o,h.get? I = some o→h'.get? I = some o):ItAt h' I x n k κ:=by
 cases κ with
 | rng i j st=>exact hk _ t
 | fl _=>obtain ⟨l,e,t,hne⟩:=t;exact ⟨l,e,t.at fun o q=>hk o q,hne⟩
 | _=>exact t.elim
theorem ItAt.alive {h:Heap} {I:Addr} {x:Value} {n k:Nat} {κ:AV} (t:ItAt h I x n k κ):∃ o,h.get? I = some o:=by
 cases κ with
 | rng i j st=>exact ⟨_,t⟩
 | fl _=>obtain ⟨l,e,⟨o,t,_⟩,hne⟩:=t;exact ⟨o,t⟩
 | _=>exact t.elim
section
variable {prog:Program} {w:World} {A:Around} {S:Sx} {ρ:List Addr} {H:AH} {s:Shared} {E:Value→Shared→Prop} {v:AV} {x:Value} {its:List AV}
theorem iter_start {QQ:Value→Shared→Prop} (X:HSim S ρ H s.heap) (V:VRel S ρ s.heap v x) (e:iterOf H v = some its)
  (h:∀ (I:Addr) (h₂:Heap),ItAt h₂ I x its.length 0 v.ik→Kp s.heap h₂→s.heap.get? I = none→QQ (.ref I) { s with heap:=h₂ }):wpAny (model prog w) A (pyIter x) QQ E s:=by
 cases v with
 | rng i j k=>
  obtain ⟨hr,ha,hs0,hi⟩:=V.iRng
  replace e:(rngList i j k).map AV.int = its:=Option.some.inj e
  have hs:=rng_size hr
  refine wpAny_pyIter_range hi (rng_small hr) (h _ _ ?_ (push_kp _ _) (size_none _))
  have el:its.length = (Builtin.Range.rangeSize i j k).toNat:=by rw [← e];simp [rngList]
  have e0:i + ((0:Nat):Int) * k = i:=by simp
  have e1:((its.length:Nat):Int) - ((0:Nat):Int) = Builtin.Range.rangeSize i j k:=by rw [el];(first | lia | omega)
  show IsRangeIter _ _ (i + ((0:Nat):Int) * k) (((its.length:Nat):Int) - ((0:Nat):Int)) k
  rw [e0,e1]
  exact Heap.get?_push_size _ rfl
 | fl _=>
  obtain ⟨ha,hs,hi,hv⟩:=V.iFl
  refine wpAny_pyIter_list (PL.isList hi) (h _ _ ⟨_,rfl,⟨_,Heap.get?_push_size _ rfl,rfl,rfl⟩,?_⟩ (push_kp _ _) (size_none _))
  obtain ⟨n,hl⟩:=hi;exact Nat.ne_of_lt (Heap.lt_size hl)
 | ref _=>
  obtain ⟨hr⟩:=V.iRef
  obtain ⟨items,hi,_⟩:=X.mem' hr
  refine wpAny_pyIter_list (PL.isList hi) (h _ _ ⟨_,rfl,⟨_,Heap.get?_push_size _ rfl,rfl,rfl⟩,?_⟩ (push_kp _ _) (size_none _))
  obtain ⟨n,hl⟩:=hi;exact Nat.ne_of_lt (Heap.lt_size hl)
 | _=>exact none_some e
theorem items_ik (e:v.items? H = some its):v.ik = .fl []:=by
 cases v<;>first | rfl | cases e
theorem iter_item {I:Addr} {k:Nat} {u:AV} {QQ:Option Value→Shared→Prop} (hh:A.handled = none) (X:HSim S ρ H s.heap) (V:VRel S ρ s.heap v x) (e:iterOf H v = some its) (ei:its[k]? = some u) (t:ItAt s.heap I x its.length k v.ik)
  (h:∀ y h' tk,VRel S ρ s.heap u y→ItAt h' I x its.length (k + 1) v.ik→(∀ b o,b ≠ I→s.heap.get? b = some o→h'.get? b = some o)→QQ (some y) { s with heap:=h',toks:=tk }):wpAny (model prog w) A (pyNext (.ref I)) QQ E s:=by
 have hk:k < its.length:=(List.getElem?_eq_some_iff.mp ei).1
 have seqc:v.items? H = some its→wpAny (model prog w) A (pyNext (.ref I)) QQ E s:=fun es=>by
  obtain ⟨l,items,rfl,hp,vv⟩:=items_real X V es
  have hz:=vv.length
  simp only [Array.length_toList] at hz
  rw [items_ik es] at t h
  obtain ⟨l',e',t,hne⟩:=t
  cases e'
  refine (Walks.list (prog:=prog) (w:=w) hh I l hne items).item k s _ E (by (first | lia | omega)) ⟨t,PL.isList hp⟩ fun y h' tk hy st hkeep=>?_
  obtain ⟨u',eu,Vu⟩:=vv.getR (by simpa using hy)
  rw [ei] at eu;cases eu
  exact h y h' tk Vu ⟨l,rfl,st.1,hne⟩ fun b o hb eb=>hkeep b o (by simpa using hb) eb
 cases v with
 | rng i j st=>
  replace e:(rngList i j st).map AV.int = its:=Option.some.inj e
  refine (Walks.range (prog:=prog) (w:=w) hh I i st its.length).item k s _ E hk t fun y h' tk hy st' hkeep=>?_
  obtain ⟨t',rfl⟩:=hy
  have hu:u = .int (i + (k:Int) * st):=by
   rw [← e] at ei
   simp [rngList] at ei
   obtain ⟨a,ha,ea⟩:=ei
   rw [List.getElem?_eq_some_iff] at ha
   obtain ⟨h1,h2⟩:=ha
   simp at h2
   rw [← ea,← h2]
  subst hu
  exact h _ h' tk (.int _ _) st' fun b o hb eb=>hkeep b o (by simpa using hb) eb
 | _=>exact seqc e
theorem iter_done {I:Addr} {QQ:Option Value→Shared→Prop} (hh:A.handled = none) (X:HSim S ρ H s.heap) (V:VRel S ρ s.heap v x) (e:iterOf H v = some its) (t:ItAt s.heap I x its.length its.length v.ik)
  (h:∀ h' tk,(∀ b o,b ≠ I→s.heap.get? b = some o→h'.get? b = some o)→QQ none { s with heap:=h',toks:=tk }):wpAny (model prog w) A (pyNext (.ref I)) QQ E s:=by
 have seqc:v.items? H = some its→wpAny (model prog w) A (pyNext (.ref I)) QQ E s:=fun es=>by
  obtain ⟨l,items,rfl,hp,vv⟩:=items_real X V es
  have hz:=vv.length
  simp only [Array.length_toList] at hz
  rw [items_ik es] at t
  obtain ⟨l',e',t,hne⟩:=t
  cases e'
  exact (Walks.list (prog:=prog) (w:=w) hh I l hne items).done s _ E ⟨hz ▸ t,PL.isList hp⟩ fun h' tk hkeep=>h h' tk fun b o hb eb=>hkeep b o (by simpa using hb) eb
 cases v with
 | rng i j st=>exact (Walks.range (prog:=prog) (w:=w) hh I i st its.length).done s _ E t fun h' tk hkeep=>h h' tk fun b o hb eb=>hkeep b o (by simpa using hb) eb
 | _=>exact seqc e
end
open PySem PyProof.Rows PySem.SeqAt
section
variable {K:FC} {ρ:List Addr} {loc:Loc} {H:AH} {s:Shared} {h':Heap} {tk:Nat} {E:Value→Shared→Prop}
theorem Fr.junk {x':List Addr} (F:Fr K ρ loc H s) (hb:∀ b ∈ x',b ∈ K.S.ad) (hk:∀ c o,c ∉ x'→s.heap.get? c = some o→h'.get? c = some o) (hl:∀ b ∈ x',∃ o,h'.get? b = some o)
  (hf:∀ b ∈ x',b ≠ K.env.locals∧(∀ n c,(n,c) ∈ K.env.cells→b ≠ c)∧K.s₀.heap.get? b = none) (hF:∀ b ∈ x',∀ P,K.l.p = some P→∀ q ∈ P.fr,b ≠ q.1.locals):Fr K ρ loc H { s with heap:=h',toks:=tk }:=by
 have hc:∀ c o,c ∉ K.S.ad→s.heap.get? c = some o→h'.get? c = some o:=fun c o hc e=>hk c o (fun q=>hc (hb c q)) e
 exact {
     aok:=F.aok,eok:=F.eok,nd:=F.nd,g0:=F.g0,pp:=F.pp,pw:=F.pw
     sd:=fun a ha=>by
      by_cases hx:a ∈ x'
      ·exact hl a hx
      ·obtain ⟨o,ho⟩:=F.sd a ha;exact ⟨o,hk a o hx ho⟩
     sim:=F.sim.chg hc
     fr:=F.fr,sub:=F.sub,hL:=F.hL,hC:=F.hC,len:=F.len
     ic:=by
      obtain ⟨m,cm,I,q⟩:=F.ic
      refine ⟨m,cm,⟨⟨by obtain ⟨_,_,e⟩:=I.toInCall.same;exact ⟨h',tk,by rw [e]⟩,I.toInCall.ns.at' fun o e=>hk _ o (fun q=>(hf _ q).1 rfl) e,fun b o e=>hk b o (fun q=>by rw [(hf b q).2.2] at e;cases e) (I.toInCall.keep b o e),I.toInCall.fresh⟩,fun n c hc=>?_,I.apart,I.above⟩,fun i x v e1 e2=>by obtain ⟨rv,h1,h2⟩:=q i x v e1 e2;exact ⟨rv,h1,h2.chg hc⟩⟩
      obtain ⟨o,ho,hd⟩:=I.cell n c hc
      exact ⟨o,hk c o (fun q=>(hf c q).2.1 n c (mem_of_lookup hc) rfl) ho,hd⟩
     hh:=fun i rv v e1 e2=>(F.hh i rv v e1 e2).chg hc
     fo:=fun P e=>⟨(F.fo P e).1,(F.fo P e).2.1,fun q hq=>by obtain ⟨a,b,c,sl,y⟩:=(F.fo P e).2.2 q hq;exact ⟨a,b,c,sl,hk _ _ (fun m=>hF _ m P e q hq rfl) y⟩⟩ }
theorem Fr.hide {vs:List AV} {xs:List Value} (F:Fr K ρ loc H s) (V:VRels K.S ρ s.heap vs xs):Fr { K with hid:=K.hid++xs } ρ (loc++vs.map some) H s where
 aok:=F.aok
 eok:=F.eok
 nd:=F.nd
 g0:=F.g0
 pp:=F.pp
 pw:=F.pw
 sd:=F.sd
 sim:=F.sim
 fr:=F.fr
 sub:=F.sub
 hL:=F.hL
 hC:=F.hC
 len:=by rw [List.length_append,List.length_map,F.len,V.length,Nat.add_assoc];exact congrArg _ List.length_append.symm
 ic:=by obtain ⟨m,cm,I,q⟩:=F.ic;exact ⟨m,cm,I,fun i x v e1 e2=>q i x v e1 (by
  have hi:i < K.names.length:=(List.getElem?_eq_some_iff.mp e1).1
  rw [List.getElem?_append_left (Nat.lt_of_lt_of_le hi (F.len ▸ Nat.le_add_right _ _))] at e2
  exact e2)⟩
 hh:=fun i rv v e1 e2=>by
  have hl:=F.len
  by_cases hi:i < K.hid.length
  ·refine F.hh i rv v (by rw [← e1];exact (List.getElem?_append_left hi).symm) ?_
   rw [List.getElem?_append_left (by rw [hl];exact Nat.add_lt_add_left hi _)] at e2
   exact e2
  ·rw [List.getElem?_append_right (Nat.le_of_not_lt hi)] at e1
   rw [List.getElem?_append_right (by rw [hl];exact Nat.add_le_add_left (Nat.le_of_not_lt hi) _)] at e2
   have e3:K.names.length + i - loc.length = i - K.hid.length:=by rw [hl,Nat.add_sub_add_left]
   have e2':(vs.map some)[i - K.hid.length]?.join = some v:=by rw [← e3];exact e2
   obtain ⟨u,eu,V'⟩:=V.getR e1
   simp [eu] at e2'
   rw [← e2'];exact V'
 fo:=F.fo
theorem Fr.unhide {xs:List Value} {loc':Loc} (F:Fr { K with hid:=K.hid++xs } ρ loc H s) (hl:loc'.length + xs.length = loc.length) (hg:∀ i,i < loc'.length→loc'[i]? = loc[i]?):Fr K ρ loc' H s where
 aok:=F.aok
 eok:=F.eok
 nd:=F.nd
 g0:=F.g0
 pp:=F.pp
 pw:=F.pw
 sd:=F.sd
 sim:=F.sim
 fr:=F.fr
 sub:=F.sub
 hL:=F.hL
 hC:=F.hC
 len:=Nat.add_right_cancel (hl.trans (F.len.trans (by rw [Nat.add_assoc];exact congrArg _ List.length_append)))
 ic:=by obtain ⟨m,cm,I,q⟩:=F.ic;exact ⟨m,cm,I,fun i x v e1 e2=>q i x v e1 (by
  have hi:i < loc'.length:=by
   cases hh:loc'[i]? with
   | none=>rw [hh] at e2;cases e2
   | some o=>exact (List.getElem?_eq_some_iff.mp hh).1
  rw [← hg i hi];exact e2)⟩
 hh:=fun i rv v e1 e2=>by
  have hi:K.names.length + i < loc'.length:=by
   cases hh:loc'[K.names.length + i]? with
   | none=>rw [hh] at e2;cases e2
   | some o=>exact (List.getElem?_eq_some_iff.mp hh).1
  have hi2:i < K.hid.length:=(List.getElem?_eq_some_iff.mp e1).1
  exact F.hh i rv v (by show (K.hid++xs)[i]? = _;rw [List.getElem?_append_left hi2];exact e1) (by show loc[K.names.length + i]?.join = _;rw [← hg _ hi];exact e2)
 fo:=F.fo
theorem Fr.hidden {xs:List Value} {vs:List AV} {loc':Loc} (F:Fr { K with hid:=K.hid++xs } ρ (loc'++vs.map some) H s) (hl:loc'.length = K.names.length + K.hid.length) (hl2:vs.length = xs.length):VRels K.S ρ s.heap vs xs:=by
 refine vrels_of_get hl2 fun j y e=>?_
 have hj:j < vs.length:=by rw [hl2];exact (List.getElem?_eq_some_iff.mp e).1
 refine ⟨vs[j],by simp [hj],F.hh (K.hid.length + j) y vs[j] ?_ ?_⟩
 ·show (K.hid++xs)[K.hid.length + j]? = _
  rw [List.getElem?_append_right (Nat.le_add_right _ _)];simpa using e
 ·show (loc'++vs.map some)[K.names.length + (K.hid.length + j)]?.join = _
  rw [List.getElem?_append_right (by rw [hl,← Nat.add_assoc];exact Nat.le_add_right _ _)]
  have:K.names.length + (K.hid.length + j) - loc'.length = j:=by rw [hl,← Nat.add_assoc,Nat.add_sub_cancel_left]
  rw [this]
  simp [hj]
end
section
variable {P:PC} {l:Lv} {env:Env} {names:List Str} {nt:NT} {n:Nat}
theorem set_app {α:Type} {a b:List α} {i:Nat} {x:α} (h:i < a.length):(a++b).set i x = a.set i x++b:=by rw [List.set_append_left _ _ h]
theorem next_turn {k m N:Nat} (hkm:k + m = N) (hkn:k < N):∃ m',m = m' + 1:=
 Nat.exists_eq_add_one_of_ne_zero fun q=>Nat.lt_irrefl k (by rw [q] at hkm;exact Nat.lt_of_lt_of_le hkn (Nat.le_of_eq hkm.symm))
theorem last_turn {k m N:Nat} (hkm:k + m = N) (hkn:¬ k < N):k = N:=
 Nat.le_antisymm (Nat.le_trans (Nat.le_add_right k m) (Nat.le_of_eq hkm)) (Nat.le_of_not_lt hkn)
theorem take_last {α:Type} {l:List α} {c:Nat} (h:c ≤ l.length):(l.take (l.length - c)).length + c = l.length:=by
 rw [List.length_take,Nat.min_eq_left (Nat.sub_le _ _),Nat.sub_add_cancel h]
theorem take_get {α:Type} {l:List α} {k i:Nat} (hi:i < (l.take k).length):(l.take k)[i]? = l[i]?:=
 List.getElem?_take_of_lt (Nat.lt_of_lt_of_le hi (by rw [List.length_take];exact Nat.min_le_left _ _))
inductive ForI (K:FC) (N L:Nat) (ρ2:List Addr) (s1:Shared) (Inv:Nat→AV→Loc→AH→Prop) (I:Addr) (y:Value) (κ:AV) (m:Nat) (s':Shared):Prop
 | mk (k:Nat) (ρk:List Addr) (v:AV) (lock:Loc) (Hk:AH):k + m = N→Mvd K.l.p K.env ρ2 s1 ρk s'→Fr K ρk (lock++[some v]) Hk s'→lock.length = L→Inv k v lock Hk→ItAt s'.heap I y N k κ→ForI K N L ρ2 s1 Inv I y κ m s'
noncomputable abbrev FC.lp (K:FC) (y:Value) (I:Addr):FC:={ K with hid:=K.hid++[y],S:=⟨K.S.ad++[I],K.S.prog,K.S.w⟩ }
theorem for1_core {K:FC} {x:Str} {i:Nat} {px:Pos} {body:List PySem.Stmt} (hx:slotOf K.env.kindOf K.names x = some i) {ρ ρ1:List Addr} {loc:Loc} {H1:AH} {s s1:Shared} {Qn:Loc→AH→Prop} {Qr:AV→AH→Prop} {E:Value→Shared→Prop}
  (hh:K.A.handled = none) (F1:Fr K ρ1 loc H1 s1) (m01:Mvd K.l.p K.env ρ s ρ1 s1) {v1:AV} {y:Value} (V1:VRel K.S ρ1 s1.heap v1 y) {N:Nat} {κ:AV} {Inv:Nat→AV→Loc→AH→Prop}
  (h0:FNx K.l.p loc.length (Inv 0) (loc++[some v1]) H1) (hI:∀ k v loc H,k ≤ N→Inv k v loc H→v.ik = κ∧∃ its,iterOf H v = some its∧its.length = N)
  (hB:∀ k v loc' H its u (I:Addr) ρk s4,k < N→loc'.length = loc.length→Inv k v loc' H→iterOf H v = some its→its[k]? = some u→Fr (K.lp y I) ρk (loc'.set i (some u)++[some v]) H s4 →
   wpAny (model K.P.prog K.P.w) K.A (execs body K.env) (SP (K.lp y I) ρk s4 (FNx K.l.p loc.length (Inv (k + 1))) Qr) (notedBy (model K.P.prog K.P.w) K.A K.env (cameBackBy (model K.P.prog K.P.w) K.A K.env E)) s4)
  (hE:∀ v loc H,Inv N v loc H→Qn loc H) :
  wpAny (model K.P.prog K.P.w) K.A (pyIter y) (fun it s₂=>codeAny (model K.P.prog K.P.w) K.A (.forLoop (.Name x px) it body [] K.env) (fun r s'=>match r with | .ok f=>SP K ρ s Qn Qr f s' | .error e=>cameBackBy (model K.P.prog K.P.w) K.A K.env E e s') s₂) E s1:=by
 refine hidQ fun Q' _ hQ' _=>?_
 obtain ⟨v0,loc0,H0,R0,hl0,I0⟩:=h0
 have F1':=F1.hide (vs:=[v1]) (xs:=[y]) (.cons V1 .nil)
 obtain ⟨ρ2,hs2,F2⟩:=F1'.ren R0
 have hlen:loc.length = K.names.length + K.hid.length:=F1.len
 have il:i < K.names.length:=by
  unfold slotOf at hx
  split at hx
  ·exact (List.getElem?_eq_some_iff.mp (idxOf_get hx)).1
  ·cases hx
 have gv:∀ {ρ':List Addr} {v':AV} {loc':Loc} {H':AH} {s':Shared} {S':Sx},Fr { K with hid:=K.hid++[y],S:=S' } ρ' (loc'++[some v']) H' s'→loc'.length = loc.length→VRel S' ρ' s'.heap v' y:=by
  intro ρ' v' loc' H' s' S' F hl
  have:=Fr.hidden (K:={ K with S:=S' }) (vs:=[v']) (xs:=[y]) F (by rw [hl];exact hlen) rfl
  cases this with
  | cons V _=>exact V
 obtain ⟨eκ,its,ei,el⟩:=hI 0 v0 loc0 H0 (Nat.zero_le _) I0
 refine iter_start (s:=s1) F2.sim (gv F2 hl0) ei fun I h₂ t0 k₂ hIn=>?_
 refine hQ' _ _ ?_
 clear hQ'
 rw [el,eκ] at t0
 have F3:=F2.guard (x':=[I]) (tk:=s1.toks) (fun b hb=>by simp at hb;subst hb;exact hIn) k₂ (fun b hb=>by simp at hb;subst hb;exact t0.alive)
 have hIL:I ≠ K.env.locals:=fun q=>by obtain ⟨o,ho⟩:=F2.sd _ F2.hL;rw [← q,hIn] at ho;cases ho
 have hIC:∀ n c,(n,c) ∈ K.env.cells→I ≠ c:=fun n c hm q=>by obtain ⟨o,ho⟩:=F2.sd _ (F2.hC n c hm);rw [← q,hIn] at ho;cases ho
 have hIF:=F2.offF hIn
 have hIS:I ∉ K.S.ad:=fun q=>by obtain ⟨o,ho⟩:=F2.sd _ q;rw [hIn] at ho;cases ho
 have hI0:K.s₀.heap.get? I = none:=by
  cases q0:K.s₀.heap.get? I with
  | none=>rfl
  | some o=>have:=F2.keep _ _ q0;rw [hIn] at this;cases this
 have m1:Mvd K.l.p K.env ρ s ρ2 s1:=m01.trans (Mvd.sub' hs2)
 have m2:Mvd K.l.p K.env ρ2 s1 ρ2 { s1 with heap:=h₂,toks:=s1.toks }:=Mvd.kp0 k₂
 have back:∀ {ρ':List Addr} {loc' loc'':Loc} {H':AH} {s':Shared} {h':Heap} {tk':Nat},Fr (K.lp y I) ρ' loc' H' s'→loc''.length + 1 = loc'.length→(∀ i,i < loc''.length→loc''[i]? = loc'[i]?)→(∀ b o,b ≠ I→s'.heap.get? b = some o→h'.get? b = some o) →
   Fr K ρ' loc'' H' { s' with heap:=h',toks:=tk' }:=by
  intro ρ' loc' loc'' H' s' h' tk' F hl hg hk
  exact Fr.unhide (K:=K) (xs:=[y]) (F.unguard (x':=[I]) (S:=K.S) rfl (fun c o hc e=>hk c o (by simpa using hc) e) (fun b hb=>by simp at hb;subst hb;exact ⟨hIS,hI0⟩) F1.sub F1.hL F1.hC F1.memF) hl hg
 let J:Nat→Shared→Prop:=ForI (K.lp y I) N loc.length ρ2 s1 Inv I y κ
 refine codeAny_forLoop J (fun m s' hJ=>?_) N ⟨0,ρ2,v0,loc0,H0,Nat.zero_add N,m2,F3,hl0,I0,t0⟩
 refine hidQ fun Q2 _ hQ2 _=>?_
 obtain ⟨k,ρk,v,lock,Hk,hkm,mk,Fk,hlk,Ik,tk⟩:=hJ
 obtain ⟨eκ',its',ei',el'⟩:=hI k v lock Hk (Nat.le_trans (Nat.le_add_right k m) (Nat.le_of_eq hkm)) Ik
 have Vk:=gv Fk hlk
 have hIr:I ∉ ρk:=fun q=>Fk.sim.off I q (List.mem_append_right _ (List.mem_singleton.mpr rfl))
 obtain ⟨hs',tks',es'⟩:=mk.same
 by_cases hkn:k < N
 ·obtain ⟨u,eu⟩:∃ u,its'[k]? = some u:=⟨its'[k]'(Nat.lt_of_lt_of_le hkn (Nat.le_of_eq el'.symm)),List.getElem?_eq_getElem _⟩
  refine iter_item hh Fk.sim Vk ei' eu (by rw [el',eκ'];exact tk) fun z h3 tk3 Vu t3 hk3=>?_
  refine hQ2 _ _ ?_
  clear hQ2
  rw [el',eκ'] at t3
  have Fk3:=Fk.junk (x':=[I]) (h':=h3) (tk:=tk3) (fun b hb=>List.mem_append_right _ hb) (fun c o hc e=>hk3 c o (by simpa using hc) e) (fun b hb=>by simp at hb;subst hb;exact t3.alive) (fun b hb=>by simp at hb;subst hb;exact ⟨hIL,hIC,hI0⟩) (fun b hb=>by simp at hb;subst hb;exact hIF)
  have mk3:Mvd K.l.p K.env ρ2 s1 ρk { s' with heap:=h3,toks:=tk3 }:=mk.junk (x':=[I]) (fun c o hc e=>hk3 c o (by simpa using hc) e) fun b hb=>by simp at hb;subst hb;exact hIn
  have Vu3:VRel ⟨K.S.ad++[I],K.S.prog,K.S.w⟩ ρk h3 u z:=Vu.mono2 fun b o _ hb e=>hk3 b o (fun q=>hb (List.mem_append_right _ (by simp [q]))) e
  refine wpAny_assign_Name (wpAny_mono (store_ok (K:=K.lp y I) Fk3 hx Vu3) (fun _ s4 h4=>?_) fun _ _ y=>y)
  obtain ⟨m4,F4⟩:=h4
  rw [set_app (Nat.lt_of_lt_of_le il (Nat.le_trans (Nat.le_add_right _ _) (Nat.le_of_eq (hlk.trans hlen).symm)))] at F4
  refine wpAny_mono (hB k v lock Hk its' u I ρk s4 hkn hlk Ik ei' eu F4) (fun f s5 hf=>?_) fun _ _ y=>y
  cases f with
  | next=>
   obtain ⟨ρ5,loc5,H5,m5,F5,v6,loc6,H6,R6,hl6,I6⟩:=hf
   obtain ⟨ρ6,hs6,F6⟩:=F5.ren R6
   obtain ⟨m',rfl⟩:=next_turn hkm hkn
   refine ⟨m',Nat.lt_succ_self _,k + 1,ρ6,v6,loc6,H6,(Nat.succ_add_eq_add_succ k m').trans hkm,((mk3.trans m4).trans m5).trans (Mvd.sub' hs6),F6,hl6,I6,?_⟩
   exact t3.at fun o e=>m5.mv I o hIL hIC hIr hIF (m4.mv I o hIL hIC hIr hIF e)
  | ret rv=>
   obtain ⟨ρ5,loc5,H5,v5,m5,F5,V5,q5⟩:=hf
   have hl5:loc5.length = K.names.length + (K.hid++[y]).length:=F5.len
   rw [List.length_append,← Nat.add_assoc] at hl5
   have F7:=back (loc'':=loc5.take (loc5.length - 1)) (h':=s5.heap) (tk':=s5.toks) F5 (take_last (hl5 ▸ Nat.le_add_left _ _)) (fun i hi=>take_get hi) (fun b o _ e=>e)
   refine ⟨ρ5,_,H5,v5,m1.trans ((mk3.trans m4).trans m5),F7,?_,q5⟩
   exact VRel.sub (S:=K.S) (S':=⟨K.S.ad++[I],K.S.prog,K.S.w⟩) rfl rfl (fun b hb=>List.mem_append_left _ hb) V5
  | _=>exact hf.elim
 ·have hkN:k = N:=last_turn hkm hkn
  subst hkN
  refine iter_done hh Fk.sim Vk ei' (by rw [el',eκ'];exact tk) fun h3 tk3 hk3=>hQ2 _ _ ?_
  refine wpAny_execs_nil ?_
  have F7:=back (loc'':=lock) (h':=h3) (tk':=tk3) Fk (by rw [List.length_append];rfl) (fun i hi=>(List.getElem?_append_left hi).symm) hk3
  exact ⟨ρk,lock,Hk,m1.trans (mk.junk (x':=[I]) (fun c o hc e=>hk3 c o (by simpa using hc) e) fun b hb=>by simp at hb;subst hb;exact hIn),F7,hE v lock Hk Ik⟩
theorem for1_ok {x:Str} {i:Nat} {px p:Pos} {it:PySem.Expr} {body:List PySem.Stmt} {c:CE} {b:List CS} (hx:slotOf env.kindOf names x = some i) (hit:compE nt n env.kindOf names it = some c) (ie:EvOk P l env names it c) (ib:StOk P l env names (execs body env) (wpSs P l b)) :
  StOk P l env names (exec (.For (.Name x px) it body [] p) env) (wpS P l (.for1 i c b)):=by
 intro A S₀ s₀ hid S ρ loc H s Qn Qr Qx E Fm hX h
 simp only [q_assign,q_assignT,q_setIdx,q_mut,q_expr,q_ite,q_for1,q_while,q_ret] at h
 obtain ⟨hq,h⟩:=h
 refine wpAny_For (EP.then (ie A S ρ loc H s _ _ E Fm.cx (hX.ex Fm) h) fun y h1 tk1 n1 v1 G1 k1 f1 X1 V1 qq=>?_) (fun y=>folded_id hit y)
 obtain ⟨N,κ,Inv,h0,hI,hN,hB,hE⟩:=qq
 exact for1_core (K:=⟨P,l,A,env,names,S₀,s₀,hid,S⟩) hx (Fm.aok.1 hq) (Fm.kp (tk:=tk1) k1 f1 X1) (Mvd.kp k1 f1) V1 h0 hI (fun k v lock Hk its u I ρk s4 a1 a2 a3 a4 a5 F4=>ib A S₀ s₀ _ _ ρk _ Hk s4 _ Qr _ _ F4 xOk_any (hB k v lock Hk its u a1 a2 a3 a4 a5)) hE
theorem while_ok {t:PySem.Expr} {body:List PySem.Stmt} {p:Pos} {c:CE} {b:List CS} (it:TrOk P l env names t c) (ib:StOk P l env names (execs body env) (wpSs P l b)) :
  StOk P l env names (exec (.While t body [] p) env) (wpS P l (.while c b)):=by
 intro A S₀ s₀ hid S ρ loc H s Qn Qr Qx E Fm hX h
 simp only [q_assign,q_assignT,q_setIdx,q_mut,q_expr,q_ite,q_for1,q_while,q_ret] at h
 obtain ⟨Inv,μ,⟨loc0,H0,R0,I0⟩,h⟩:=h
 obtain ⟨ρ0,hs0,F0⟩:=Fm.ren R0
 refine wpAny_While (codeAny_whileLoop (fun m s'=>∃ ρk lock Hk,μ lock Hk = m∧Mvd l.p env ρ s ρk s'∧Fr ⟨P,l,A,env,names,S₀,s₀,hid,S⟩ ρk lock Hk s'∧Inv lock Hk) (fun m s' hJ=>?_) (μ loc0 H0) ⟨ρ0,loc0,H0,rfl,Mvd.sub' hs0,F0,I0⟩)
 refine hidQ fun QQ _ hQQ _=>?_
 obtain ⟨ρk,lock,Hk,rfl,mk,Fk,Ik⟩:=hJ
 refine BP.then (it A S ρk lock Hk s' _ _ _ Fk.cx exOk_any (h lock Hk Ik)) fun t h1 tk1 n1 G1 k1 f1 X1 q1=>?_
 refine hQQ _ _ ?_
 clear hQQ
 have m1:Mvd l.p env ρk s' (ρk++n1) { s' with heap:=h1,toks:=tk1 }:=Mvd.kp k1 f1
 cases t with
 | true=>
  simp only [if_true] at q1 ⊢
  refine wpAny_mono (ib A S₀ s₀ hid S _ lock _ _ _ Qr Qx _ (Fk.kp k1 f1 X1) xOk_any q1) (fun f s₂ hf=>?_) fun _ _ y=>y
  have hf:=SP.after m1 (SP.cut hf)
  cases f with
  | next=>obtain ⟨ρ',loc',H',m',F',i',q'⟩:=hf;exact ⟨_,q',ρ',loc',H',rfl,mk.trans m',F',i'⟩
  | ret v=>exact SP.after mk hf
  | _=>exact hf.elim
 | false=>
  simp only [Bool.false_eq_true,if_false] at q1 ⊢
  refine wpAny_execs_nil ?_
  obtain ⟨loc₂,H₂,r,q⟩:=q1
  obtain ⟨ρ₂,hs,F₂⟩:=(Fk.kp (tk:=tk1) k1 f1 X1).ren r
  exact ⟨ρ₂,loc₂,H₂,(mk.trans m1).trans (Mvd.sub' hs),F₂,q⟩
end
open PySem PyProof.Rows PySem.SeqAt
section
variable {K:FC} {ρ:List Addr} {loc:Loc} {H:AH} {s:Shared} {h':Heap} {tk:Nat} {E:Value→Shared→Prop}
inductive IP (K:FC) (ρ:List Addr) (loc:Loc) (s:Shared) (Q:AV→AH→Prop) (x:Value) (s':Shared):Prop
 | mk (e:_) (H':_) (v:_):Mvd K.l.p K.env ρ s (ρ++e) s'→Fresh s.heap e→Fr K (ρ++e) loc H' s'→VRel K.S (ρ++e) s'.heap v x→Q v H'→IP K ρ loc s Q x s'
noncomputable def Bas (base h:Heap) (ρ:List Addr) (fr:List (Env × Obj)):Prop:=Kp base h∧base.objs.size ≤ h.objs.size∧(∀ b ∈ ρ,base.get? b = none)∧(∀ q ∈ fr,base.get? q.1.locals = none)∧∀ b o,h.get? b = some o→b ∉ ρ→(∀ q ∈ fr,b ≠ q.1.locals)→base.get? b = some o
theorem ns_slots {h h':Heap} {a:Addr} {m:Str→Option Value} {o:Obj} (n:h.Ns a m) (e:h.get? a = some o) {sl:Array (Option Value)} (e':h'.get? a = some { o with slots:=sl }):h'.Ns a m:=by
 obtain ⟨o',es,ep,e1,e2,r⟩:=n
 rw [e] at e1
 cases e1
 exact ⟨_,es,ep,e',e2,r⟩
theorem VRel.grow {S:Sx} {ρ e:List Addr} {h h':Heap} {v:AV} {x:Value} (hk:∀ b o,b ∉ ρ→b ∉ S.ad→h.get? b = some o→h'.get? b = some o) (fe:Fresh h e) (V:VRel S ρ h v x):VRel S (ρ++e) h' v x:=by
 have:=V.mono (e:=e) (h':=h) (fun _ _ _ q=>q) fe
 exact this.mono2 fun b o hb hs q=>hk b o (fun m=>hb (List.mem_append_left _ m)) hs q
theorem Fr.back {P:Pin} {base:Heap} {e:List Addr} {H':AH} {oL:Obj} (F:Fr K ρ loc H s) (hP:K.l.p = some P) (hB:Bas base s.heap ρ ((K.env,oL)::P.fr)) (hL:s.heap.get? K.env.locals = some oL) (k:Kp base h')
  (hf:∀ q ∈ (K.env,oL)::P.fr,∃ o sl,s.heap.get? q.1.locals = some o∧h'.get? q.1.locals = some { o with slots:=sl }) (fe:Fresh s.heap e) (X:HSim K.S (ρ++e) H' h') :
  Mvd K.l.p K.env ρ s (ρ++e) { s with heap:=h',toks:=tk }∧Fr K (ρ++e) loc H' { s with heap:=h',toks:=tk }:=by
 obtain ⟨b1,b2,b3,b4,b5⟩:=hB
 obtain ⟨fo1,fo2,fo3⟩:=F.fo P hP
 have kk:∀ b o,b ∉ ρ→b ≠ K.env.locals→(∀ q ∈ P.fr,b ≠ q.1.locals)→s.heap.get? b = some o→h'.get? b = some o:=fun b o h1 h2 h3 q=>k b o (b5 b o q h1 fun q hq=>by
  rcases List.mem_cons.mp hq with rfl | hq
  ·exact h2
  ·exact h3 q hq)
 have fin:∀ {b:Addr},b ∉ K.S.ad→b ≠ K.env.locals∧∀ q ∈ P.fr,b ≠ q.1.locals:=fun {b} hb=>⟨fun e=>hb (e ▸ F.hL),fun q hq e=>hb (e ▸ (fo3 q hq).2.1.1)⟩
 have kv:∀ b o,b ∉ ρ→b ∉ K.S.ad→s.heap.get? b = some o→h'.get? b = some o:=fun b o h1 h2 q=>kk b o h1 (fin h2).1 (fin h2).2 q
 have al:∀ b o,s.heap.get? b = some o→∃ o',h'.get? b = some o':=fun b o q=>by
  by_cases h1:b ∈ ρ
  ·exact X.mem (List.mem_append_left _ h1)
  ·by_cases h2:∃ q ∈ (K.env,oL)::P.fr,b = q.1.locals
   ·obtain ⟨z,hz,rfl⟩:=h2
    obtain ⟨o2,sl,_,e2⟩:=hf z hz
    exact ⟨_,e2⟩
   ·exact ⟨o,k b o (b5 b o q h1 fun q hq e=>h2 ⟨q,hq,e⟩)⟩
 have ch:∀ {v:AV} {x:Value},VRel K.S ρ s.heap v x→VRel K.S (ρ++e) h' v x:=fun V=>V.grow kv fe
 obtain ⟨m,cm,I,q⟩:=F.ic
 refine ⟨⟨⟨h',tk,rfl⟩,fun b o h1 h2 h3 h4 q=>kk b o h3 h1 (h4 P hP) q,fun a ha=>(List.mem_append.mp ha).elim .inl fun q=>.inr (fe a q),al,fun _ _ _ _ _ q=>get_app q⟩,?_⟩
 obtain ⟨oL',slL,eL,eL'⟩:=hf _ (.head _)
 have hns:=ns_slots I.toInCall.ns eL eL'
 have s0:∀ b o,K.s₀.heap.get? b = some o→b ∉ ρ∧b ≠ K.env.locals∧∀ q ∈ P.fr,b ≠ q.1.locals:=fun b o q=>⟨(fun hm=>by rw [F.fr b hm] at q;cases q),Nat.ne_of_lt (Nat.lt_of_lt_of_le (Heap.lt_size q) I.toInCall.fresh),(fun p hp e=>by rw [e,(fo3 p hp).2.1.2.2] at q;cases q)⟩
 exact {
     aok:=F.aok,eok:=F.eok,nd:=F.nd,g0:=F.g0,pp:=F.pp,pw:=F.pw
     sd:=fun a ha=>by obtain ⟨o,ho⟩:=F.sd a ha;exact al a o ho
     sim:=X
     fr:=fun a ha=>(List.mem_append.mp ha).elim (F.fr a) fun q=>by
      cases q0:K.s₀.heap.get? a with
      | none=>rfl
      | some o=>have:=fe a q;rw [F.keep a o q0] at this;cases this
     sub:=F.sub,hL:=F.hL,hC:=F.hC,len:=F.len
     ic:=⟨m,cm,⟨⟨by obtain ⟨_,_,e⟩:=I.toInCall.same;exact ⟨h',tk,by rw [e]⟩,hns,fun b o q=>by obtain ⟨a1,a2,a3⟩:=s0 b o q;exact kk b o a1 a2 a3 (I.toInCall.keep b o q),I.toInCall.fresh⟩,
      fun n c hc=>by obtain ⟨o,ho,r⟩:=I.cell n c hc;exact ⟨o,kk c o (fun hm=>F.sim.off c hm (F.hC n c (mem_of_lookup hc))) (Nat.ne_of_gt (I.above n c (mem_of_lookup hc))) (fun p hp e=>Nat.lt_asymm (I.above n c (mem_of_lookup hc)) (e ▸ (fo3 p hp).2.1.2.1)) ho,r⟩,I.apart,I.above⟩,fun i x v e1 e2=>by obtain ⟨rv,h1,h2⟩:=q i x v e1 e2;exact ⟨rv,h1,ch h2⟩⟩
     hh:=fun i rv v e1 e2=>ch (F.hh i rv v e1 e2)
     fo:=fun P' e=>by
      rw [hP] at e
      cases e
      refine ⟨fo1,fo2,fun q hq=>?_⟩
      obtain ⟨a,b,c,sl,y⟩:=fo3 q hq
      obtain ⟨o2,sl2,y1,y2⟩:=hf q (.tail _ hq)
      rw [y] at y1
      cases y1
      exact ⟨a,b,c,sl2,y2⟩ }
end
open PySem PyProof.Rows PySem.SeqAt PySem.W
section
variable {K:FC} {ρ:List Addr} {loc:Loc} {H:AH} {s:Shared} {E:Value→Shared→Prop}
noncomputable def frNow (h:Heap) (P:Pin):List (Env × Obj):=P.fr.map fun q=>(q.1,(h.get? q.1.locals).getD q.2)
theorem frNow_env (h:Heap) (P:Pin):(frNow h P).map (·.1) = P.fr.map (·.1):=by unfold frNow;rw [List.map_map];rfl
theorem frNow_mem {h:Heap} {P:Pin} {q:Env × Obj} (hq:q ∈ P.fr):(q.1,(h.get? q.1.locals).getD q.2) ∈ frNow h P:=List.mem_map.mpr ⟨q,hq,rfl⟩
theorem call_ref {P:Pin} {f:Nat} {x:Str} {a:Addr} {vs:List AV} {xs:List Value} {Q:AV→AH→Prop} (F:Fr K ρ loc H s) (hP:K.l.p = some P) (hx:K.P.nt.nm f = some x) (ha:K.P.ma x = some (.ref a)) (V:VRels K.S ρ s.heap vs xs) (h:CallR K.P K.l f vs H Q) :
  wpAny (model K.P.prog K.P.w) K.A (call (.ref a) xs) (IP K ρ loc s Q) E s:=by
 obtain ⟨fo1,fo2,fo3⟩:=F.fo P hP
 obtain ⟨m,cm,I,_⟩:=F.ic
 obtain ⟨oL,es,ep,eL,eD,eK,_⟩:=I.toInCall.ns
 let X:=ρ++(K.env.locals::P.fr.map (·.1.locals))
 have hX:∀ {b:Addr},b ∉ ρ→b ≠ K.env.locals→(∀ q ∈ P.fr,b ≠ q.1.locals)→b ∉ X:=fun {b} h1 h2 h3 hm=>by
  rcases List.mem_append.mp hm with q | q
  ·exact h1 q
  ·rcases List.mem_cons.mp q with q | q
   ·exact h2 q
   ·obtain ⟨z,hz,e⟩:=List.mem_map.mp q
    exact h3 z hz e.symm
 have hB:Bas (hideAll s.heap X) s.heap ρ ((K.env,oL)::P.fr):=by
  refine ⟨fun b o q=>of_hideAll _ q,Nat.le_of_eq (hideAll_size _ _),fun b hb=>hideAll_none _ (List.mem_append_left _ hb),fun q hq=>?_,fun b o q h1 h2=>hideAll_get _ q (hX h1 (h2 _ (.head _)) fun z hz=>h2 z (.tail _ hz))⟩
  rcases List.mem_cons.mp hq with rfl | hq
  ·exact hideAll_none _ (List.mem_append_right _ (.head _))
  ·exact hideAll_none _ (List.mem_append_right _ (.tail _ (List.mem_map.mpr ⟨q,hq,rfl⟩)))
 have hg:GOk K.P (hideAll s.heap X):=F.g0.kp fun b o q=>hideAll_get _ (F.keep b o q) (hX (fun hm=>by rw [F.fr b hm] at q;cases q) (Nat.ne_of_lt (Nat.lt_of_lt_of_le (Heap.lt_size q) I.toInCall.fresh)) fun p hp e=>by rw [e,(fo3 p hp).2.1.2.2] at q;cases q)
 have now:∀ q ∈ P.fr,∃ sl,s.heap.get? q.1.locals = some { q.2 with slots:=sl }∧(s.heap.get? q.1.locals).getD q.2 = { q.2 with slots:=sl }:=fun q hq=>by
  obtain ⟨_,_,_,sl,e⟩:=fo3 q hq
  exact ⟨sl,e,by rw [e];rfl⟩
 refine wpAny_call (codeAny_mono (h K.A s K.S ρ xs x a (hideAll s.heap X) ((K.env,oL)::frNow s.heap P) F.aok hg hx ha F.pp F.pw F.sd F.sim V ?_ hB.1 hB.2.1 hB.2.2.1 ?_ ?_) fun r s' hr=>?_)
 ·rw [List.map_cons,frNow_env];exact fo1
 ·intro q hq
  rcases List.mem_cons.mp hq with rfl | hq
  ·exact ⟨⟨by rw [F.eok.1];decide,fo2⟩,⟨F.hL,hB.2.2.2.1 _ (.head _)⟩,⟨es,ep,eD,eK⟩,eL⟩
  ·obtain ⟨z,hz,rfl⟩:=List.mem_map.mp hq
   obtain ⟨a1,a2,⟨es',ep',a3,a4⟩,_⟩:=fo3 z hz
   obtain ⟨sl,e1,e2⟩:=now z hz
   refine ⟨a1,⟨a2.1,hB.2.2.2.1 z (.tail _ hz)⟩,⟨es',ep',?_,a4⟩,?_⟩
   ·rw [e2];exact a3
   ·rw [e2];exact e1
 ·intro b o q h1 h2
  refine hB.2.2.2.2 b o q h1 fun z hz=>?_
  rcases List.mem_cons.mp hz with rfl | hz
  ·exact h2 _ (.head _)
  ·exact h2 (z.1,(s.heap.get? z.1.locals).getD z.2) (.tail _ (frNow_mem hz))
 ·obtain ⟨rv,h',tk,e,v,H',rfl,rfl,k,hf,fe,X',V',q⟩:=hr
  obtain ⟨mv,F'⟩:=F.back (tk:=tk) hP hB eL k (fun q hq=>by
   rcases List.mem_cons.mp hq with rfl | hq
   ·obtain ⟨sl,e2⟩:=hf _ (.head _)
    exact ⟨oL,sl,eL,e2⟩
   ·obtain ⟨sl,e2⟩:=hf (q.1,(s.heap.get? q.1.locals).getD q.2) (.tail _ (frNow_mem hq))
    obtain ⟨sl0,e0,e1⟩:=now q hq
    rw [e1] at e2
    exact ⟨_,sl,e0,e2⟩) fe X'
  exact ⟨e,H',v,mv,fe,F',V',q⟩
end
open PySem PyProof.Rows PySem.SeqAt PySem.W
section
variable {K:FC} {ρ ρ₁:List Addr} {loc:Loc} {H:AH} {s s₁ s₂:Shared} {Q:AV→AH→Prop} {x:Value} {E:Value→Shared→Prop}
noncomputable def IvK (K:FC) (m:Sem Value) (i:IE):Prop:=∀ (ρ:List Addr) (loc:Loc) (H:AH) (s:Shared) (Q:AV→AH→Prop) (E:Value→Shared→Prop),Fr K ρ loc H s→wpI K.P K.l i loc H Q→wpAny (model K.P.prog K.P.w) K.A m (IP K ρ loc s Q) E s
inductive IB (K:FC) (ρ:List Addr) (loc:Loc) (s:Shared) (R:Bool→AH→Prop) (b:Bool) (s':Shared):Prop
 | mk (ρ':_) (H':_):Mvd K.l.p K.env ρ s ρ' s'→Fr K ρ' loc H' s'→R b H'→IB K ρ loc s R b s'
noncomputable def ItK (K:FC) (m:Sem Bool) (i:IE):Prop:=∀ (ρ:List Addr) (loc:Loc) (H:AH) (s:Shared) (R:Bool→AH→Prop) (E:Value→Shared→Prop),Fr K ρ loc H s→wpI K.P K.l i loc H (isB R)→wpAny (model K.P.prog K.P.w) K.A m (IB K ρ loc s R) E s
theorem IP.after {e₁:List Addr} (m:Mvd K.l.p K.env ρ s (ρ++e₁) s₁) (f:Fresh s.heap e₁) (h:IP K (ρ++e₁) loc s₁ Q x s₂):IP K ρ loc s Q x s₂:=by
 obtain ⟨e,H',v,m',f',F,V,q⟩:=h
 rw [List.append_assoc] at m' F V
 refine ⟨e₁++e,H',v,m.trans m',fun a ha=>?_,F,V,q⟩
 rcases List.mem_append.mp ha with q | q
 ·exact f a q
 ·cases q0:s.heap.get? a with
  | none=>rfl
  | some o=>obtain ⟨o',e'⟩:=m.alive a o q0;rw [f' a q] at e';cases e'
theorem IB.after {R:Bool→AH→Prop} {b:Bool} (m:Mvd K.l.p K.env ρ s ρ₁ s₁) (h:IB K ρ₁ loc s₁ R b s₂):IB K ρ loc s R b s₂:=by obtain ⟨ρ',H',m',F,q⟩:=h;exact ⟨ρ',H',m.trans m',F,q⟩
theorem ev_in {e:PySem.Expr} {c:CE} {Q':Value→Shared→Prop} (he:EvOk K.P K.l K.env K.names e c) (F:Fr K ρ loc H s) (h:wpE K.P K.l (fun _=>False) c loc H Q)
  (k:∀ y h' tk n v G,Kp s.heap h'→Fresh s.heap n→HSim K.S (ρ++n) (H++G) h'→VRel K.S (ρ++n) h' v y→Q v (H++G)→Fr K (ρ++n) loc (H++G) { s with heap:=h',toks:=tk }→Q' y { s with heap:=h',toks:=tk }):wpAny (model K.P.prog K.P.w) K.A (eval e K.env) Q' E s:=
 wpAny_mono (he K.A K.S ρ loc H s Q (fun _=>False) E F.cx exOk_any h) (fun y s' hy=>by
  obtain ⟨h1,tk1,n1,v1,G1,rfl,k1,f1,X1,V1,q1⟩:=hy
  exact k y h1 tk1 n1 v1 G1 k1 f1 X1 V1 q1 (F.kp k1 f1 X1)) fun _ _ y=>y
theorem iv_pure {e:PySem.Expr} {c:CE} (he:EvOk K.P K.l K.env K.names e c):IvK K (eval e K.env) (.pure c):=fun ρ loc H s Q E F h=>
 ev_in he F h fun _ _ _ _ v _ k1 f1 _ V1 q1 F1=>⟨_,_,v,Mvd.kp k1 f1,f1,F1,V1,q1⟩
theorem it_pure {e:PySem.Expr} {c:CE} (he:TrOk K.P K.l K.env K.names e c):ItK K (isTrue e K.env (eval e K.env)) (.pure c):=fun ρ loc H s R E F h=>
 wpAny_mono (he K.A K.S ρ loc H s R (fun _=>False) E F.cx exOk_any h) (fun b s' hy=>by
  obtain ⟨h1,tk1,n1,G1,rfl,k1,f1,X1,q1⟩:=hy
  exact ⟨_,_,Mvd.kp k1 f1,F.kp k1 f1 X1,q1⟩) fun _ _ y=>y
variable {nt:NT} {n:Nat}
theorem args_in {es:List PySem.Expr} {cs:List CE} {pos:Pos} {Qs:List AV→AH→Prop} {Q':List Value→Shared→Prop} (ih:∀ (e:PySem.Expr) (c:CE),compE nt n K.env.kindOf K.names e = some c→EvOk K.P K.l K.env K.names e c) (he:allSome (es.map (compE nt n K.env.kindOf K.names)) = some cs) (F:Fr K ρ loc H s)
  (h:wpEs K.P K.l (fun _=>False) cs loc H Qs)
  (k:∀ ys h' tk m vs G,Kp s.heap h'→Fresh s.heap m→VRels K.S (ρ++m) h' vs ys→Qs vs (H++G)→Fr K (ρ++m) loc (H++G) { s with heap:=h',toks:=tk }→Q' ys { s with heap:=h',toks:=tk }):wpAny (model K.P.prog K.P.w) K.A (spliced (backTo pos (starEach es K.env))) Q' E s:=
 wpAny_mono (args_ok ih es cs he F.cx exOk_any h) (fun y s' hy=>by
  obtain ⟨h1,tk1,n1,v1,G1,rfl,k1,f1,X1,V1,q1⟩:=hy
  exact k y h1 tk1 n1 v1 G1 k1 f1 V1 q1 (F.kp k1 f1 X1)) fun _ _ y=>y
theorem iv_call {g:Str} {f:Nat} {p p':Pos} {es:List PySem.Expr} {cs:List CE} (ho:EnvOk K.env) (ih:∀ (e:PySem.Expr) (c:CE),compE nt n K.env.kindOf K.names e = some c→EvOk K.P K.l K.env K.names e c) (hg:isGlob K.env.kindOf g = true) (hf:K.P.nt.fns[f]? = some g)
  (he:allSome (es.map (compE nt n K.env.kindOf K.names)) = some cs) (hne:cs.isEmpty = false):IvK K (eval (.Call (.Name g p) es [] p') K.env) (.call f cs):=by
 intro ρ loc H s Q E F h
 obtain ⟨_,_,⟨P,hP⟩,h⟩:=h
 obtain ⟨a,o,⟨ea,ea'⟩,eo,fd,efd⟩:=F.cx.gok.fn f g hf
 unfold isGlob at hg
 simp at hg
 have hd:(g == ("__debug__" : Str)) = false:=by simpa using hg.2
 cases es with
 | nil=>cases he;simp at hne
 | cons e r=>
 obtain ⟨c0,t0,e1,e2,rfl⟩:=allSome_cons he
 refine Call_ (Calls.Name_function_global ho.1 hg.1 (Calls.loadGlobal_global (by rw [ho.2.1];exact F.cx.gok.g) ea ?_) hd)
 refine callWith_def efd (args_in ih he F h fun ys h1 tk1 m vs G k1 f1 V1 q1 F1=>⟨k1 _ _ eo,?_⟩) (not_starred e1 r)
 exact wpAny_mono (call_ref F1 hP (NT.nm_of hf) ea' V1 q1) (fun z s₂ hz=>IP.after (Mvd.kp k1 f1) f1 hz) fun _ _ y=>y
theorem iv_mth {o:PySem.Expr} {m:Str} {f:Nat} {ap p:Pos} {es:List PySem.Expr} {c:CE} {cs:List CE} (ih:∀ (e:PySem.Expr) (c:CE),compE nt n K.env.kindOf K.names e = some c→EvOk K.P K.l K.env K.names e c)
  (e1:compE nt n K.env.kindOf K.names o = some c) (e2:allSome (es.map (compE nt n K.env.kindOf K.names)) = some cs) (hl:(ap.endLine == p.line) = true) (hlen:cs.length ≤ 20) (hnm:K.P.nt.nm f = some (qualOf K.P m)) (hf:K.P.nt.fns.length ≤ f) :
  IvK K (eval (.Call (.Attribute o m ap) es [] p) K.env) (.mth f m c cs):=by
 intro ρ loc H s Q E F h
 obtain ⟨_,_,⟨P,hP⟩,h⟩:=h
 have hln:=allSome_len e2
 refine call_mth (base_id e1 m) ?_ hl ?_
 ·rw [star_all es cs e2]
  show (true && true && decide (es.length + 0 + 0 < 30)) = true
  simp;(first | lia | omega)
 refine ev_in (ih o c e1) F h fun x h1 tk1 n1 v1 G1 k1 f1 X1 V1 qz F1=>?_
 obtain ⟨c,ks,vs,rfl,hc,hm,q⟩:=onObj_of qz
 cases V1.iObj with
 | mk ha hs hd hs' hmap he hv=>
 intro pl
 obtain ⟨N,nm,qq,bs,sn,sub,col,dd,k0,k1',k2,k3,k5,hN,hC,_,hng,hnh,_,_,_⟩:=(F1.cx.gok.oc c hc).all
 obtain ⟨a,ob,fd,em,ea,eo,ec,efd⟩:=F1.cx.gok.mat hnm hf
 refine method_of hC hN hng hnh em eo ec (typeLookup_type _ _) hmap.inst ((he m).trans (lookup_off hm)) ?_
 show wpAny _ _ (callWith p (.ref a) [_] _ []) _ _ _
 cases es with
 | nil=>
  cases e2
  exact callWith_meth0 efd eo (wpAny_mono (call_ref F1 hP hnm ea (.cons V1 .nil) q) (fun z s₂ hz=>IP.after (Mvd.kp k1 f1) f1 hz) fun _ _ y=>y)
 | cons e r=>
  obtain ⟨c0,t0,e3,e4,rfl⟩:=allSome_cons e2
  refine callWith_meth efd eo (args_in ih e2 F1 q fun ys h2 tk2 n2 us G2 k2' f2 V2 q2 F2=>⟨k2',?_⟩) (not_starred e3 r)
  exact wpAny_mono (call_ref F2 hP hnm ea (.cons (V1.kp k2' f2) V2) q2) (fun z s₃ hz=>IP.after (Mvd.kp k1 f1) f1 (IP.after (Mvd.kp k2' f2) f2 hz)) fun _ _ y=>y
theorem iv_pop {o:PySem.Expr} {ap p:Pos} {c:CE} (ih:∀ (e:PySem.Expr) (c:CE),compE nt n K.env.kindOf K.names e = some c→EvOk K.P K.l K.env K.names e c) (e1:compE nt n K.env.kindOf K.names o = some c) (hl:(ap.endLine == p.line) = true) :
  IvK K (eval (.Call (.Attribute o "pop" ap) [] [] p) K.env) (.pop c):=by
 intro ρ loc H s Q E F h
 refine meth_run (cs:=[]) (R:=fun u vs H₁=>∃ r xs y,(u = .ref r∧vs = [])∧H₁[r]? = some (xs++[y])∧xs.length < smallN∧Q y (H₁.set r xs)) (X:=fun _=>False) ih e1 rfl hl (by decide) PySem.F.slot_list_pop PySem.F.type_list_pop F.cx exOk_any h ?_
 intro h' tk e G v vs y xs k fr C' V Vs hL q
 obtain ⟨r,as,u,⟨rfl,rfl⟩,er,hs,q⟩:=q
 cases Vs.of0
 cases V.iRef with
 | mk ha=>
 rename_i a
 obtain ⟨items,⟨mm,hp⟩,vv⟩:=C'.sim.get er ha
 have hz:as.length + 1 = items.size:=by have:=vv.length;rw [List.length_append] at this;simpa using this
 obtain ⟨z,ez,Vz⟩:=vv.get (i:=as.length) (v:=u) List.getElem?_concat_length
 have sl:sizeLine = 2 ^ 24:=rfl
 unfold smallN at hs
 have hsz:as.length = items.size - 1:=by rw [← hz];rfl
 have ei:items[items.size - 1]? = some z:=by rw [← hsz,← Array.getElem?_toList];exact ez
 refine call_meets PySem.F.slot_list_pop ⟨_,hp,rfl⟩ PySem.F.entry_list_pop (PySem.F.args_list_pop_1 _) (MeetsSeq.list_pop_last a items mm z ei (by (first | lia | omega))) ⟨hp,?_⟩
 have F':=F.kp (tk:=tk) k fr C'.sim
 have pl:=PL.upd hp (fun xs=>xs.eraseIdxIfInBounds (items.size - 1))
 have hsb:Heap.SameBut a h' (h'.update a (Obj.mapSeq fun xs=>xs.eraseIdxIfInBounds (items.size - 1))):=Heap.SameBut.update ..
 have F2:=F'.set (tk:=tk) (vs:=as) ha hsb pl (by
  have:=VRels.erase (items.size - 1) vv
  rw [← hsz,List.eraseIdx_append_of_length_le (Nat.le_refl _)] at this
  simpa [← hsz] using this)
 exact ⟨e,_,u,(Mvd.kp (tk:=tk) k fr).trans (Mvd.set (s:={ s with heap:=h',toks:=tk }) (tk:=tk) ha hsb pl),fr,F2,Vz.mono2 fun b o hb _ eb=>(hsb.2 b fun q=>hb (q ▸ List.mem_of_getElem? ha)).trans eb,q⟩
theorem iv_not {e:PySem.Expr} {p:Pos} {i:IE} (hi:IvK K (eval e K.env) i):IvK K (eval (.UnaryOp .Not e p) K.env) (.not i):=by
 intro ρ loc H s Q E F h
 show wpAny _ K.A (do let v ← eval e K.env;standAt p;holding [v] (unaryOp .Not v)) _ _ s
 refine wpAny_bind (wpAny_mono (hi ρ loc H s _ E F h) (fun x s₁ hx=>?_) fun _ _ y=>y)
 obtain ⟨ρ1,H1,v1,m1,f1,F1,V1,qz⟩:=hx
 obtain ⟨b,rfl,q⟩:=onBool_of qz
 obtain rfl:=V1.ofBool
 exact wpAny_bind (wpAny_standAt (wpAny_holding (unaryNot ⟨ρ1,H1,_,m1,f1,F1,.bool _,q⟩)))
end
open PySem PyProof.Rows PySem.SeqAt PySem.W
section
variable {K:FC} {ρ:List Addr} {loc:Loc} {H:AH} {s s₁:Shared} {Q:AV→AH→Prop} {x:Value} {E:Value→Shared→Prop}
theorem VRel.moved {e:List Addr} {v:AV} (m:Mvd K.l.p K.env ρ s (ρ++e) s₁) (f:Fresh s.heap e) (F:Fr K ρ loc H s) (V:VRel K.S ρ s.heap v x):VRel K.S (ρ++e) s₁.heap v x:=
 V.grow (fun b o h1 h2 q=>m.mv b o (fun e=>h2 (e ▸ F.hL)) (fun n c hc e=>h2 (e ▸ F.hC n c hc)) h1 (fun P hP z hz e=>h2 (e ▸ F.memF P hP z hz)) q) f
theorem IP.ofEP (F:Fr K ρ loc H s) (h:EP K.S ρ H s Q x s₁):IP K ρ loc s Q x s₁:=by
 obtain ⟨h1,tk1,n1,v1,G1,rfl,k1,f1,X1,V1,q1⟩:=h
 exact ⟨n1,_,v1,Mvd.kp k1 f1,f1,F.kp k1 f1 X1,V1,q1⟩
theorem iv_tup {a b:PySem.Expr} {k:Nat} {p:Pos} {c:CE} {i:IE} (ha:EvOk K.P K.l K.env K.names a c) (hsa:∀ r,starEach (a::r) K.env = (false,eval a K.env)::starEach r K.env) (hsb:∀ r,starEach (b::r) K.env = (false,eval b K.env)::starEach r K.env) (hb:IvK K (eval b K.env) i):IvK K (eval (.Tuple [a,b] k p) K.env) (.tup c i):=by
 intro ρ loc H s Q E F h
 refine Tuple_ (args_cons (ev_in ha F h fun x h1 tk1 n1 v1 G1 k1 f1 X1 V1 q1 F1=>args_cons (wpAny_mono (hb _ _ _ _ _ E F1 q1) (fun y s₂ hy=>args_nil ?_) fun _ _ y=>y) (hsb _)) (hsa _))
 obtain ⟨e2,H2,v2,m2,f2,F2,V2,q2⟩:=hy
 exact wpAny_newObj_type (IP.after (Mvd.kp (tk:=tk1) k1 f1) f1 (IP.after m2 f2 (IP.ofEP F2 (EP.pushT (items:=#[x,y]) F2.sim F2.sd (.cons (VRel.moved m2 f2 F1 V1) (.cons V2 .nil)) q2 s₂.toks)))) (by show 2 ≤ sizeLine;decide)
theorem iv_eq {a b:PySem.Expr} {p:Pos} {c:CE} {i:IE} (ha:EvOk K.P K.l K.env K.names a c) (hm:behindInMarks .Eq b = false) (hb:IvK K (eval b K.env) i):IvK K (eval (.Compare a [.Eq] [b] p) K.env) (.eq c i):=by
 intro ρ loc H s Q E F h
 refine wpAny_Compare1 (ev_in ha F h fun x h1 tk1 n1 v1 G1 k1 f1 X1 V1 q1 F1=>wpAny_mono (hb _ _ _ _ _ E F1 q1) (fun y s₂ hy=>?_) fun _ _ y=>y) hm
 obtain ⟨e2,H2,v2,m2,f2,F2,V2,q2⟩:=hy
 exact wpAny_mono (opCmp_ok .Eq (units_ok F2.aok) F2.sim (VRel.moved m2 f2 F1 V1) V2 q2) (fun z s₃ hz=>IP.after (Mvd.kp (tk:=tk1) k1 f1) f1 (IP.after m2 f2 (IP.ofEP F2 hz))) fun _ _ y=>y
theorem iv_and {e:PySem.Expr} {r:List PySem.Expr} {e':PySem.Expr} {pos:Pos} {i j:IE} (hi:IvK K (eval e K.env) i) (hj:IvK K (boolOp pos .And (evalEach (e'::r) K.env)) j):IvK K (boolOp pos .And (evalEach (e::e'::r) K.env)) (.and i j):=by
 intro ρ loc H s Q E F h
 show wpAny _ K.A (do let v ← eval e K.env;standAt pos;let t ← holding [v] (truthy v);match BoolOp.And,t with | .And,false | .Or,true=>pure v | _,_=>boolOp pos .And (evalEach (e'::r) K.env)) _ _ s
 refine wpAny_bind (wpAny_mono (hi ρ loc H s _ E F h) (fun x s₁ hx=>?_) fun _ _ y=>y)
 obtain ⟨e1,H1,v1,m1,f1,F1,V1,qz⟩:=hx
 obtain ⟨b,rfl,q1⟩:=onBool_of qz
 obtain rfl:=V1.ofBool
 refine wpAny_bind (wpAny_standAt (wpAny_bind (wpAny_holding (wpAny_truthy_bool ?_))))
 cases b with
 | false=>exact wpAny_pure ⟨e1,H1,_,m1,f1,F1,.bool _,by simpa using q1⟩
 | true=>exact wpAny_mono (hj _ _ _ _ _ E F1 (by simpa using q1)) (fun z s₂ hz=>IP.after m1 f1 hz) fun _ _ y=>y
theorem iv_or {e:PySem.Expr} {r:List PySem.Expr} {e':PySem.Expr} {pos:Pos} {i j:IE} (hi:IvK K (eval e K.env) i) (hj:IvK K (boolOp pos .Or (evalEach (e'::r) K.env)) j):IvK K (boolOp pos .Or (evalEach (e::e'::r) K.env)) (.or i j):=by
 intro ρ loc H s Q E F h
 show wpAny _ K.A (do let v ← eval e K.env;standAt pos;let t ← holding [v] (truthy v);match BoolOp.Or,t with | .And,false | .Or,true=>pure v | _,_=>boolOp pos .Or (evalEach (e'::r) K.env)) _ _ s
 refine wpAny_bind (wpAny_mono (hi ρ loc H s _ E F h) (fun x s₁ hx=>?_) fun _ _ y=>y)
 obtain ⟨e1,H1,v1,m1,f1,F1,V1,qz⟩:=hx
 obtain ⟨b,rfl,q1⟩:=onBool_of qz
 obtain rfl:=V1.ofBool
 refine wpAny_bind (wpAny_standAt (wpAny_bind (wpAny_holding (wpAny_truthy_bool ?_))))
 cases b with
 | true=>exact wpAny_pure ⟨e1,H1,_,m1,f1,F1,.bool _,by simpa using q1⟩
 | false=>exact wpAny_mono (hj _ _ _ _ _ E F1 (by simpa using q1)) (fun z s₂ hz=>IP.after m1 f1 hz) fun _ _ y=>y
theorem it_plain {e:PySem.Expr} {i:IE} (he:IvK K (eval e K.env) i) (hi:isTrue e K.env (eval e K.env) = (do let v ← eval e K.env;standAt e.pos;holding [v] (truthy v))):ItK K (isTrue e K.env (eval e K.env)) i:=by
 intro ρ loc H s R E F h
 rw [hi]
 refine wpAny_bind (wpAny_mono (he ρ loc H s _ E F h) (fun x s₁ hx=>?_) fun _ _ y=>y)
 obtain ⟨e1,H1,v1,m1,f1,F1,V1,qz⟩:=hx
 obtain ⟨b,rfl,q1⟩:=onBool_of qz
 obtain rfl:=V1.ofBool
 exact wpAny_bind (wpAny_standAt (wpAny_holding (wpAny_truthy_bool ⟨_,H1,m1,F1,q1⟩)))
theorem it_not {a:PySem.Expr} {p:Pos} {i:IE} (hi:ItK K (isTrue a K.env (eval a K.env)) i):ItK K (isTrue (.UnaryOp .Not a p) K.env (eval (.UnaryOp .Not a p) K.env)) (.not i):=by
 intro ρ loc H s R E F h
 show wpAny _ K.A (do return !(← isTrue a K.env (eval a K.env))) _ _ s
 exact wpAny_bind (wpAny_mono (hi ρ loc H s (fun b H'=>R (!b) H') E F h) (fun b s₁ hb=>wpAny_pure (by obtain ⟨a1,a2,a3,a4,a5⟩:=hb;exact ⟨a1,a2,a3,a4,a5⟩)) fun _ _ y=>y)
theorem it_one {op:BoolOp} {e:PySem.Expr} {i:IE} (hi:ItK K (isTrue e K.env (eval e K.env)) i):ItK K (allTrue op [e] K.env) i:=by
 intro ρ loc H s R E F h
 show wpAny _ K.A (do match op,← isTrue e K.env (eval e K.env) with | .And,false=>pure false | .Or,true=>pure true | _,_=>allTrue op [] K.env) _ _ s
 refine wpAny_bind (wpAny_mono (hi ρ loc H s R E F h) (fun b s₁ hb=>?_) fun _ _ y=>y)
 cases op<;>cases b<;>exact wpAny_pure hb
theorem it_and {e e':PySem.Expr} {r:List PySem.Expr} {i j:IE} (hi:ItK K (isTrue e K.env (eval e K.env)) i) (hj:ItK K (allTrue .And (e'::r) K.env) j):ItK K (allTrue .And (e::e'::r) K.env) (.and i j):=by
 intro ρ loc H s R E F h
 show wpAny _ K.A (do match BoolOp.And,← isTrue e K.env (eval e K.env) with | .And,false=>pure false | .Or,true=>pure true | _,_=>allTrue .And (e'::r) K.env) _ _ s
 refine wpAny_bind (wpAny_mono (hi ρ loc H s (fun b H₁=>if b = true then wpI K.P K.l j loc H₁ (isB R) else isB R (.bool false) H₁) E F h) (fun b s₁ hb=>?_) fun _ _ y=>y)
 obtain ⟨ρ1,H1,m1,F1,q1⟩:=hb
 cases b with
 | false=>
  have q0:isB R (.bool false) H1:=by simpa using q1
  exact wpAny_pure ⟨ρ1,H1,m1,F1,q0⟩
 | true=>exact wpAny_mono (hj _ _ _ _ _ E F1 (by simpa using q1)) (fun z s₂ hz=>hz.after m1) fun _ _ y=>y
theorem it_or {e e':PySem.Expr} {r:List PySem.Expr} {i j:IE} (hi:ItK K (isTrue e K.env (eval e K.env)) i) (hj:ItK K (allTrue .Or (e'::r) K.env) j):ItK K (allTrue .Or (e::e'::r) K.env) (.or i j):=by
 intro ρ loc H s R E F h
 show wpAny _ K.A (do match BoolOp.Or,← isTrue e K.env (eval e K.env) with | .And,false=>pure false | .Or,true=>pure true | _,_=>allTrue .Or (e'::r) K.env) _ _ s
 refine wpAny_bind (wpAny_mono (hi ρ loc H s (fun b H₁=>if b = true then isB R (.bool true) H₁ else wpI K.P K.l j loc H₁ (isB R)) E F h) (fun b s₁ hb=>?_) fun _ _ y=>y)
 obtain ⟨ρ1,H1,m1,F1,q1⟩:=hb
 cases b with
 | true=>
  have q0:isB R (.bool true) H1:=by simpa using q1
  exact wpAny_pure ⟨ρ1,H1,m1,F1,q0⟩
 | false=>exact wpAny_mono (hj _ _ _ _ _ E F1 (by simpa using q1)) (fun z s₂ hz=>hz.after m1) fun _ _ y=>y
theorem it_eq {a b:PySem.Expr} {p:Pos} {c:CE} {i:IE} (ha:EvOk K.P K.l K.env K.names a c) (hm:behindInMarks .Eq b = false) (hb:IvK K (eval b K.env) i):ItK K (isTrue (.Compare a [.Eq] [b] p) K.env (eval (.Compare a [.Eq] [b] p) K.env)) (.eq c i):=by
 intro ρ loc H s R E F h
 refine wpAny_isTrue_Compare1 (ev_in ha F h fun x h1 tk1 n1 v1 G1 k1 f1 X1 V1 q1 F1=>wpAny_mono (hb _ _ _ _ _ E F1 q1) (fun y s₂ hy=>?_) fun _ _ y=>y) hm
 obtain ⟨e2,H2,v2,m2,f2,F2,V2,q2⟩:=hy
 refine wpAny_mono (opCmp_ok .Eq (units_ok F2.aok) F2.sim (VRel.moved m2 f2 F1 V1) V2 q2) (fun z s₃ hz=>?_) fun _ _ y=>y
 obtain ⟨e3,H3,v3,m3,f3,F3,V3,qz⟩:=IP.ofEP F2 hz
 obtain ⟨t,rfl,q⟩:=onBool_of qz
 obtain rfl:=V3.ofBool
 exact wpAny_truthy_bool ⟨_,H3,((Mvd.kp (tk:=tk1) k1 f1).trans m2).trans m3,F3,q⟩
theorem asgI_ok {v:PySem.Expr} {y:Str} {py p:Pos} {k:Nat} {i:IE} (hx:slotOf K.env.kindOf K.names y = some k) (hv:IvK K (eval v K.env) i) (hs:swapsWith v (some (.Name y py)) p.line K.env = pure false) {Qn:Loc→AH→Prop} {Qr:AV→AH→Prop} (F:Fr K ρ loc H s)
  (h:wpI K.P K.l i loc H fun v H₁=>Qn (loc.set k (some v)) H₁):wpAny (model K.P.prog K.P.w) K.A (exec (.Assign [.Name y py] v p) K.env) (SP K ρ s Qn Qr) E s:=by
 refine wpAny_Assign_Name (wpAny_mono (hv ρ loc H s _ E F h) (fun x s₁ hx1=>?_) fun _ _ y=>y) hs
 obtain ⟨e1,H1,v1,m1,f1,F1,V1,q1⟩:=hx1
 refine wpAny_mono (store_ok F1 hx V1) (fun _ s₂ h2=>?_) fun _ _ y=>y
 exact ⟨_,_,_,m1.trans h2.1,h2.2,q1⟩
theorem retI_ok {v:PySem.Expr} {p:Pos} {i:IE} (hv:IvK K (eval v K.env) i) {Qn:Loc→AH→Prop} {Qr:AV→AH→Prop} (F:Fr K ρ loc H s) (h:wpI K.P K.l i loc H Qr):wpAny (model K.P.prog K.P.w) K.A (exec (.Return (some v) p) K.env) (SP K ρ s Qn Qr) E s:=by
 refine wpAny_Return_some (wpAny_mono (hv ρ loc H s _ E F h) (fun x s₁ hx1=>?_) fun _ _ y=>y)
 obtain ⟨e1,H1,v1,m1,f1,F1,V1,q1⟩:=hx1
 exact ⟨_,loc,H1,v1,m1,F1,V1,q1⟩
end
open PySem PyProof.Rows PySem.SeqAt PySem.W
section
variable {P:PC} {l:Lv} {env:Env} {names:List Str} {nt:NT} {n:Nat}
theorem iteI_ok {t:PySem.Expr} {a b:List PySem.Stmt} {p:Pos} {c:IE} {x y:List CS} (it:∀ (A:Around) (S₀:Sx) (s₀:Shared) (hid:List Value) (S:Sx),ItK ⟨P,l,A,env,names,S₀,s₀,hid,S⟩ (isTrue t env (eval t env)) c) (ia:StOk P l env names (execs a env) (wpSs P l x)) (ib:StOk P l env names (execs b env) (wpSs P l y)) :
  StOk P l env names (exec (.If t a b p) env) (wpS P l (.iteI c x y)):=by
 intro A S₀ s₀ hid S ρ loc H s Qn Qr Qx E F hX h
 obtain ⟨R,hR,h⟩:=h
 refine wpAny_If (wpAny_mono (it A S₀ s₀ hid S ρ loc H s (fun t H₁=>if t = true then wpSs P l x loc H₁ (Cut l.p R) Qr Qx else wpSs P l y loc H₁ (Cut l.p R) Qr Qx) E F h) (fun t s₁ hx=>?_) fun _ _ y=>y)
 obtain ⟨ρ1,H1,m,F1,q1⟩:=hx
 cases t with
 | true=>
  simp only [if_true] at q1 ⊢
  exact wpAny_mono (ia A S₀ s₀ hid S _ loc _ _ (Cut l.p R) Qr Qx E F1 (hX.after m) q1) (fun f s₂ hf=>(SP.after m (SP.cut hf)).mono hR) fun _ _ y=>y
 | false=>
  simp only [Bool.false_eq_true,if_false] at q1 ⊢
  exact wpAny_mono (ib A S₀ s₀ hid S _ loc _ _ (Cut l.p R) Qr Qx E F1 (hX.after m) q1) (fun f s₂ hf=>(SP.after m (SP.cut hf)).mono hR) fun _ _ y=>y
end
open PySem PyProof.Rows PySem.SeqAt PySem.W
section
variable {P:PC} {l:Lv} {env:Env} {names:List Str} {nt:NT} {n:Nat}
theorem marks_eq (b:PySem.Expr):behindInMarks .Eq b = false:=by
 cases b<;>first | rfl | skip
 rename_i es k p
 show (k == 0 && (CmpOp.Eq == .In || CmpOp.Eq == .NotIn) && es.all (constantsAlone 8)) = false
 rw [show (CmpOp.Eq == .In || CmpOp.Eq == .NotIn) = false from rfl,Bool.and_false,Bool.false_and]
theorem star_I {e:PySem.Expr} {kd:Str→Option NameKind} {m:Nat} {i:IE} (h:compI nt (compE nt n kd names) kd m e = some i) (rest:List PySem.Expr):starEach (e::rest) env = (false,eval e env)::starEach rest env:=by
 cases m with
 | zero=>first | exact none_some h | cases h
 | succ m=>
  rcases or_some h with h | h
  ·obtain ⟨c,e1,_⟩:=Option.map_eq_some_iff.mp h
   exact not_starred e1 rest
  ·exact star_ne (fun a p q=>by subst q;cases h) rest
noncomputable def IEB (K:FC) (e:PySem.Expr) (i:IE):Prop:=IvK K (eval e K.env) i∧ItK K (isTrue e K.env (eval e K.env)) i
theorem it_b {K:FC} {e:PySem.Expr} {i:IE} (q:IvK K (eval e K.env) i) (hi:isTrue e K.env (eval e K.env) = (do let v ← eval e K.env;standAt e.pos;holding [v] (truthy v))):IEB K e i:=⟨q,it_plain (K:=K) q hi⟩
theorem iexpr_ok {K:FC} (hnt:K.P.nt = nt) (ho:EnvOk K.env):∀ (m:Nat) (e:PySem.Expr) (i:IE),compI nt (compE nt n K.env.kindOf K.names) K.env.kindOf m e = some i→IEB K e i
 | 0,_,_,h=>by cases h
 | m + 1,e,i,h=>by
  have ihI:=iexpr_ok hnt ho m
  have ie:∀ (e:PySem.Expr) (c:CE),compE nt n K.env.kindOf K.names e = some c→EvOk K.P K.l K.env K.names e c:=fun e c h=>(expr_ok hnt n K.env K.names ho e c h).1
  refine oor h (fun h=>om i h fun c e1=>⟨iv_pure (K:=K) (ie e c e1),it_pure (K:=K) (expr_ok hnt n K.env K.names ho e c e1).2⟩) fun h=>?_
  cases e with
  | UnaryOp op x p=>
   refine oip h fun hc h=>om i h fun j e1=>?_
   obtain rfl:=isNot_of hc
   exact ⟨iv_not (K:=K) (ihI x j e1).1,it_not (K:=K) (ihI x j e1).2⟩
  | BoolOp op es p=>
   refine oor h (fun h=>ob h fun q e0 h=>ob h fun j1 e1 h=>om i h fun j2 e2=>?_) fun h=>ob h fun q e0 h=>oip h fun hc h=>ob h fun j1 e1 h=>ob h fun j2 e2 h=>om i h fun j3 e3=>?_
   ·obtain rfl:=two_of e0
    cases op with
    | And=>exact ⟨iv_and (K:=K) (pos:=p) (r:=[]) (ihI _ j1 e1).1 (ihI _ j2 e2).1,it_and (K:=K) (ihI _ j1 e1).2 (it_one (K:=K) (ihI _ j2 e2).2)⟩
    | Or=>exact ⟨iv_or (K:=K) (pos:=p) (r:=[]) (ihI _ j1 e1).1 (ihI _ j2 e2).1,it_or (K:=K) (ihI _ j1 e1).2 (it_one (K:=K) (ihI _ j2 e2).2)⟩
   ·obtain rfl:=thr_of e0
    obtain rfl:=isAnd_of hc
    exact ⟨iv_and (K:=K) (pos:=p) (ihI _ j1 e1).1 (iv_and (K:=K) (pos:=p) (r:=[]) (ihI _ j2 e2).1 (ihI _ j3 e3).1),it_and (K:=K) (ihI _ j1 e1).2 (it_and (K:=K) (ihI _ j2 e2).2 (it_one (K:=K) (ihI _ j3 e3).2))⟩
  | Compare a ops rs p=>
   refine ob h fun op e0 h=>ob h fun b e1 h=>oip h fun hc h=>ob h fun c e2 h=>om i h fun j e3=>?_
   obtain rfl:=one_of e0
   obtain rfl:=one_of e1
   obtain rfl:=isEq_of hc
   exact ⟨iv_eq (K:=K) (ie a c e2) (marks_eq b) (ihI b j e3).1,it_eq (K:=K) (ie a c e2) (marks_eq b) (ihI b j e3).1⟩
  | Tuple es k p=>
   refine ob h fun q e0 h=>ob h fun c e1 h=>om i h fun j e2=>?_
   obtain rfl:=two_of e0
   exact it_b (iv_tup (K:=K) (k:=k) (p:=p) (ie _ c e1) (fun r=>not_starred e1 r) (fun r=>star_I e2 r) (ihI _ j e2).1) rfl
  | Call f args kws p=>
   rcases kws with _ | ⟨kw,kws⟩
   ·refine oel h (fun x hf h=>?_) fun _ h=>ob h fun z ez h=>ob h fun c e1 h=>ob h fun cs e2 h=>?_
    ·obtain ⟨px,rfl⟩:=nameOf_some hf
     exact ob h fun cs e1 h=>ob h fun g e2 h=>oi i h fun hc=>it_b (iv_call (K:=K) (p:=px) (p':=p) ho ie hc.1 (by rw [hnt];exact idxOf_get e2) e1 hc.2) rfl
    ·rw [attrOf_some ez]
     refine oif h (fun hc h=>os i h ?_) fun _ h=>ob h fun g e3 h=>oi i h fun hc=>it_b (iv_mth (K:=K) (f:=nt.fns.length + g) ie e1 e2 hc.1 hc.2 (by rw [hnt];unfold qualOf;rw [hnt];exact NT.nm_at (idxOf_get e3)) (by rw [hnt];exact Nat.le_add_right _ _)) rfl
     have e3:args = []:=by
      cases args with
      | nil=>rfl
      | cons a r=>obtain ⟨_,_,_,_,rfl⟩:=allSome_cons e2;cases hc.2.1
     subst e3
     rw [hc.1]
     exact it_b (iv_pop (K:=K) (ap:=z.2.2) (p:=p) ie e1 hc.2.2) rfl
   ·first | exact none_some h | cases h
  | _=>first | exact none_some h | cases h
end
open PySem PyProof.Rows PySem.SeqAt
section
variable {P:PC} {l:Lv} {env:Env} {names:List Str} {nt:NT} {n:Nat}
theorem comp_is {kd:Str→Option NameKind} {v:PySem.Expr} {c:CE} (hc:isComp v = true) (hv:compE nt (n + 1) kd names v = some c):∃ elt gens scope pos,v = .ListComp elt gens scope pos:=by
 cases v<;>first | exact ⟨_,_,_,_,rfl⟩ | exact absurd hc Bool.false_ne_true | exact none_some hv
theorem assign_any_ok (ho:EnvOk env) {x:Str} {i:Nat} {v:PySem.Expr} {px p:Pos} {c:CE} (hx:slotOf env.kindOf names x = some i)
  (ih:∀ (n:Nat) (env:Env) (names:List Str),EnvOk env→∀ (e:PySem.Expr) (c:CE),compE nt n env.kindOf names e = some c→EvOk P l env names e c∧TrOk P l env names e c) (hv:compE nt n env.kindOf names v = some c) :
  StOk P l env names (exec (.Assign [.Name x px] v p) env) (wpS P l (.assign i c)):=by
 have ie:=(ih n env names ho v c hv).1
 by_cases hc:isComp v = true
 ·cases n with
  | zero=>cases hv
  | succ n=>
   obtain ⟨elt,gens,scope,pos,rfl⟩:=comp_is hc hv
   have hs:∃ b,swapsWith (.ListComp elt gens scope pos) (some (.Name x px)) p.line env = pure b:=⟨_,rfl⟩
   obtain ⟨b,hs⟩:=hs
   cases b with
   | false=>exact assign_ok ho hx ie hs
   | true=>
    refine ob hv fun g e0 h1=>ob h1 fun c1 e1 h1=>ob h1 fun cap e2 h1=>ob h1 fun c2 e3 h1=>ob h1 fun l1 e4 h1=>?_
    clear hv ie
    obtain ⟨rfl,htg,hnd⟩:=genOf_some e0
    split at h1
    ·rename_i hc
     cases h1
     simp only [Bool.and_eq_true,decide_eq_true_eq] at hc
     exact assign_comp_ok ho hx (ih n) e1 e2 e3 e4 hc.1 htg hnd hc.2 hs
    ·first | exact none_some h1 | cases h1
 ·exact assign_ok ho hx ie (swaps_false (by simpa using hc))
theorem try_body_ok {b:List PySem.Stmt} {h0:ExceptHandler} {hs:List ExceptHandler} {p:Pos} {x:List CS} (ib:StOk P l env names (execs b env) (wpSs P l x)):StOk P l env names (exec (.Try b (h0::hs) [] [] p) env) (wpS P l (.try x "" 0 [])):=by
 intro A S₀ s₀ hid S ρ loc H s Qn Qr Qx E F hX h
 refine wpAny_Try_except (wpAny_mono (ib A S₀ s₀ hid S ρ loc H s Qn Qr Qx _ F xOk_any h) (fun f s' h'=>?_) fun _ _ y=>y)
 cases f with
 | next=>exact wpAny_execs_nil h'
 | _=>exact h'
noncomputable def StK (P:PC) (l:Lv) (env:Env) (names:List Str) (st:PySem.Stmt) (c:CS):Prop:=StOk P l env names (exec st env) (wpS P l c)
theorem asg_any (hnt:P.nt = nt) (ho:EnvOk env) (ie0:∀ (n:Nat) (env:Env) (names:List Str),EnvOk env→∀ (e:PySem.Expr) (c:CE),compE nt n env.kindOf names e = some c→EvOk P l env names e c∧TrOk P l env names e c) {ts:List PySem.Expr} {v:PySem.Expr} {p:Pos} {c:CS}
  (h:(compAs (compE nt n env.kindOf names) env.kindOf names ts v).or (compAsI nt (compE nt n env.kindOf names) env.kindOf names ts v) = some c):StK P l env names (.Assign ts v p) c:=by
 have ie:∀ (e:PySem.Expr) (c:CE),compE nt n env.kindOf names e = some c→EvOk P l env names e c:=fun e c h=>(ie0 n env names ho e c h).1
 refine oor h (fun h=>?_) fun h=>ob h fun x e0 h=>ob h fun k e1 h=>ob h fun j e2 h=>oin h fun hc h=>os c h ?_
 ·rcases ts with _ | ⟨t,_ | ⟨t',r⟩⟩
  ·first | exact none_some h | cases h
  ·cases t with
   | Name x px=>exact ob h fun i e1 h=>om c h fun c1 e2=>assign_any_ok ho e1 ie0 e2
   | Tuple es kk tp=>
    refine ob h fun xs e1 h=>ob h fun c1 e2 h=>oin h fun hc h=>os c h ?_
    simp only [Bool.or_eq_true,not_or,Bool.not_eq_true] at hc
    exact assignT_ok ho e1 (ie v c1 e2) hc.1 hc.2
   | Subscript o i sp=>exact ob3 c h fun c1 c2 c3 e1 e2 e3=>setidx_ok (ie v c1 e1) (ie o c2 e2) (ie i c3 e3)
   | _=>first | exact none_some h | cases h
  ·first | exact none_some h | cases h
 ·rcases ts with _ | ⟨t,_ | ⟨t',r⟩⟩
  ·cases e0
  ·obtain ⟨px,rfl⟩:=nameOf_some (show nameOf t = some x from e0)
   exact fun A S₀ s₀ hid S ρ loc H s Qn Qr Qx E F hX h=>asgI_ok e1 (iexpr_ok (K:=⟨P,l,A,env,names,S₀,s₀,hid,S⟩) hnt ho 9 v j e2).1 (swaps_false (by simpa using hc)) F h
  ·cases e0
theorem stmt_ok (hnt:P.nt = nt) (ho:EnvOk env):∀ (n:Nat) (st:PySem.Stmt) (c:CS),compS nt n env.kindOf names st = some c→StK P l env names st c
 | 0,_,_,h=>by cases h
 | n + 1,st,c,h=>by
  have ih:=stmt_ok hnt ho n
  have ie0:=fun n env names ho=>expr_ok (P:=P) (l:=l) hnt n env names ho
  have ie:∀ (e:PySem.Expr) (c:CE),compE nt n env.kindOf names e = some c→EvOk P l env names e c:=fun e c h=>(ie0 n env names ho e c h).1
  have it:∀ (e:PySem.Expr) (c:CE),compE nt n env.kindOf names e = some c→TrOk P l env names e c:=fun e c h=>(ie0 n env names ho e c h).2
  have ib:=fun b cs h=>seq_ok (P:=P) (l:=l) ih b cs h
  cases st with
  | Return e p=>
   refine ob h fun e' ee h=>?_
   subst ee
   exact oor h (fun h=>om c h fun c1 e1=>ret_ok (ie e' c1 e1)) fun h=>om c h fun c1 e1=>fun A S₀ s₀ hid S ρ loc H s Qn Qr Qx E F hX h=>retI_ok (iexpr_ok (K:=⟨P,l,A,env,names,S₀,s₀,hid,S⟩) hnt ho 9 e' c1 e1).1 F h
  | If t a b p=>
   exact ob h fun x e2 h=>ob h fun y e3 h=>oor h (fun h=>om c h fun c1 e1=>if_ok (it t c1 e1) (ib a x e2) (ib b y e3)) fun h=>om c h fun c1 e1=>iteI_ok (fun A S₀ s₀ hid S=>(iexpr_ok (K:=⟨P,l,A,env,names,S₀,s₀,hid,S⟩) hnt ho 9 t c1 e1).2) (ib a x e2) (ib b y e3)
  | While t body els p=>
   refine ob h fun c1 e1 h=>ob h fun x e2 h=>oi c h fun hc=>?_
   cases els with
   | nil=>exact while_ok (it t c1 e1) (ib body x e2)
   | cons a r=>cases hc
  | For t itr body els p=>
   refine oip h fun hc h=>ob h fun x hn h=>?_
   cases els with
   | nil=>
    obtain ⟨px,rfl⟩:=nameOf_some hn
    exact ob3 c h fun i c1 b e1 e2 e3=>for1_ok e1 e2 (ie itr c1 e2) (ib body b e3)
   | cons a r=>cases hc
  | Assign ts v p=>exact asg_any hnt ho ie0 h
  | Expr e p=>
   refine oel h (fun q hm h=>ob h fun c1 e2 h=>ob h fun l1 e3 h=>oi c h fun hc=>?_) fun _ h=>oin h fun hc h=>om c h fun c1 e2=>expr_st_ok ho (ie e c1 e2) (by simpa using hc)
   obtain ⟨z,g1,g2⟩:=Option.bind_eq_some_iff.mp hm
   obtain ⟨mu',e4,e5⟩:=Option.map_eq_some_iff.mp g2
   have ee:=methOf_some g1
   subst ee
   subst e5
   exact mut_ok ho ie e2 e3 hc.1 hc.2 e4
  | Try b hs e f p=>
   rcases e with _ | ⟨a,r⟩
   ·rcases f with _ | ⟨a,r⟩
    ·rcases hs with _ | ⟨h0,hs⟩
     ·first | exact none_some h | cases h
     ·exact om c h fun x e2=>try_body_ok (ib b x e2)
    ·first | exact none_some h | cases h
   ·first | exact none_some h | cases h
  | Raise a b p=>exact os c h fun A S₀ s₀ hid S ρ loc H s Qn Qr Qx E F hx hw=>False.elim hw
  | _=>first | exact none_some h | cases h
theorem body_ok (hnt:P.nt = nt) (ho:EnvOk env) {n:Nat} {b:List PySem.Stmt} {cs:List CS} (h:allSome (b.map (compS nt n env.kindOf names)) = some cs):StOk P l env names (execs b env) (wpSs P l cs):=
 seq_ok (stmt_ok hnt ho n) b cs h
end
open PySem PyProof.Rows PySem.SeqAt
theorem cells_names:∀ (names:List (Str × NameKind)) (n:Nat) (acc:List (Str × Addr)),(cellsFrom n names acc).map (·.1) = ((names.filter fun p=>p.2 == .cell).map (·.1)).reverse++acc.map (·.1)
 | [],_,_=>rfl
 | (x,k)::r,n,acc=>by
  unfold cellsFrom
  by_cases hk:(k == .cell) = true
  ·rw [if_pos hk,cells_names r]
   simp [hk]
  ·rw [if_neg hk,cells_names r]
   simp [hk]
theorem mem_lookup {α:Type}:∀ {l:List (Str × α)} {x:Str} {c:α},(l.map (·.1)).Nodup→(x,c) ∈ l→l.lookup x = some c
 | (y,d)::r,x,c,h,hm=>by
  rw [List.lookup_cons]
  rw [List.map_cons,List.nodup_cons] at h
  rcases List.mem_cons.mp hm with e | hm
  ·cases e;simp
  ·have:x ≠ y:=fun e=>h.1 (e ▸ List.mem_map.mpr ⟨_,hm,rfl⟩)
   have hb:(x == y) = false:=by simpa using this
   rw [hb]
   exact mem_lookup h.2 hm
theorem bindL_not {kd:Str→Option NameKind} {x:Str}:∀ {binds:List (Str × Value)} {m:Str→Option Value},x ∉ binds.map (·.1)→bindL kd binds m x = m x
 | [],_,_=>rfl
 | (n,v)::r,m,h=>by
  simp only [List.map_cons,List.mem_cons,not_or] at h
  unfold bindL
  rw [bindL_not h.2]
  split
  ·simp [h.1]
  ·rfl
theorem bindC_not {kd:Str→Option NameKind} {x:Str}:∀ {binds:List (Str × Value)} {m:Str→Option Value},x ∉ binds.map (·.1)→bindC kd binds m x = m x
 | [],_,_=>rfl
 | (n,v)::r,m,h=>by
  simp only [List.map_cons,List.mem_cons,not_or] at h
  unfold bindC
  rw [bindC_not h.2]
  split
  ·rfl
  ·simp [h.1]
theorem bindL_mem {kd:Str→Option NameKind} {x:Str} {v:Value} (hk:kd x = some .local):∀ {binds:List (Str × Value)} {m:Str→Option Value},(binds.map (·.1)).Nodup→(x,v) ∈ binds→bindL kd binds m x = some v
 | (n,u)::r,m,h,hm=>by
  rw [List.map_cons,List.nodup_cons] at h
  unfold bindL
  rcases List.mem_cons.mp hm with e | hm
  ·cases e
   rw [bindL_not h.1,if_pos hk]
   simp
  ·exact bindL_mem hk h.2 hm
theorem bindC_mem {kd:Str→Option NameKind} {x:Str} {v:Value} (hk:kd x ≠ some .local):∀ {binds:List (Str × Value)} {m:Str→Option Value},(binds.map (·.1)).Nodup→(x,v) ∈ binds→bindC kd binds m x = some v
 | (n,u)::r,m,h,hm=>by
  rw [List.map_cons,List.nodup_cons] at h
  unfold bindC
  rcases List.mem_cons.mp hm with e | hm
  ·cases e
   rw [bindC_not h.1,if_neg hk]
   simp
  ·exact bindC_mem hk h.2 hm
theorem rep_join {n k:Nat}:((List.replicate n (Option.none:Option AV))[k]?).join = Option.none:=by
 rw [List.getElem?_replicate];split<;>rfl
noncomputable def defOk (scope:Scope) (ps rest:List Str):Bool:=
 scope.kind == .function && !scope.isCoroutine && !scope.isGenerator && decide (ps++rest).Nodup && decide (scope.names.map (·.1)).Nodup && ps.all fun x=>scope.names.lookup x == some .local || scope.names.lookup x == some .cell
theorem dep_1 {d k R:Nat} (h:d + k < R) (hk:0 < k):d + 1 + (k - 1) < R:=by
 rw [Nat.add_assoc,Nat.add_sub_cancel' hk]
 exact h
theorem uni_1 {u k R:Nat} (h:u + 10 * k + 200 < R) (hk:0 < k):u + 3 + 10 * (k - 1) + 200 < R:=by
 cases k with
 | zero=>cases hk
 | succ m=>exact Nat.lt_of_le_of_lt (Nat.add_le_add_right (by rw [Nat.mul_succ,← Nat.add_assoc,Nat.add_right_comm];exact Nat.add_le_add_left (by decide) _) 200) h
theorem enterG {P:PC} {l:Lv} {f:Nat} {x:Str} {d:DefRec} {ps rest:List Str} {vs:List (Option AV)} {H:AH} {p:Option Pin}
  (hf:P.nt.nm f = some x) (hd:P.defs[f]? = some d) (hk:0 < l.k)
  (hb:∀ xs pm code doc,xs.length = ps.length→bindArgs (methDef d.name x d.params d.body d.scope pm code doc) ⟨xs,[]⟩ = pure (ps.zip xs))
  (hs:defOk d.scope ps rest = true) (hl:vs.length = ps.length)
  {A:Around} {s:Shared} {S:Sx} {ρ:List Addr} {xs:List Value} {x':Str} {a:Addr} {base:Heap} {R:Result→Shared→Prop} (hA:Aok l A) (hG:GOk P base) (hx:P.nt.nm f = some x') (ha:P.ma x' = some (.ref a)) (hpp:S.prog = P.prog) (hpw:S.w = P.w) (hsd:SD S s.heap)
  (X:HSim S ρ H s.heap) (hxl:xs.length = ps.length) (V:∀ (i:Nat) (v:AV),vs[i]?.join = some v→∃ rv,xs[i]? = some rv∧VRel S ρ s.heap v rv) (hbs:Kp base s.heap) (hbz:base.objs.size ≤ s.heap.objs.size) (hbr:∀ b ∈ ρ,base.get? b = none)
  (hfo:∀ (env:Env) (s₁:Shared) (S':Sx) (P':Pin),p = some P'→env.frame = some env.locals→env.locals = s.heap.objs.size→Kp s.heap s₁.heap→(∀ b ∈ S.ad,b ∈ S'.ad)→FoOk ⟨P,⟨l.k - 1,l.q,p⟩,A.deeper env,env,ps++rest,S,{ s with heap:=base },[],S'⟩ s₁ P')
  (h:∀ (env:Env) (s₁:Shared) (S':Sx),env.frame = some env.locals→env.kindOf = (fun x=>d.scope.names.lookup x)→EnvOk env→(∀ b ∈ S.ad,b ∈ S'.ad)→S'.prog = S.prog→S'.w = S.w→(Kp s.heap s₁.heap∧∀ b ∈ env.locals::env.cells.map (·.2),s.heap.get? b = none) →
   Fr ⟨P,⟨l.k - 1,l.q,p⟩,A.deeper env,env,ps++rest,S,{ s with heap:=base },[],S'⟩ ρ (vs++List.replicate rest.length none) H s₁ →
   wpAny (model P.prog P.w) (A.deeper env) (execs d.body env) (fun f s'=>R (.ok (.ret (match f with | .ret v=>v | _=>.none))) s')
    (fun e s'=>wpAny (model P.prog P.w) (A.deeper env) (leaving env e) (fun _ s''=>R (.error e) s'') (fun e' s''=>R (.error e') s'') s') s₁) :
  codeAny (model P.prog P.w) A (.call (.ref a) ⟨xs,[]⟩) R s:=by
 rw [hf] at hx;cases hx
 obtain ⟨a',o,pm,code,doc,ea,eo,ed,ecd⟩:=(hG.kp hbs).at hf hd
 rw [ha] at ea;cases ea
 simp only [defOk,Bool.and_eq_true,Bool.not_eq_true',decide_eq_true_eq,beq_iff_eq] at hs
 obtain ⟨⟨⟨⟨⟨hs1,hs2⟩,hs3⟩,hs4⟩,hs5⟩,hs6⟩:=hs
 have hfst:(ps.zip xs).map (·.1) = ps:=by rw [List.map_fst_zip];(first | lia | omega)
 have hdeep:=hA.2.1
 have hkinds:((ps.zip xs).all fun y=>d.scope.names.lookup y.1 == some .local || d.scope.names.lookup y.1 == some .cell) = true:=by
  rw [List.all_eq_true]
  intro y hy
  exact List.all_eq_true.mp hs6 y.1 (by rw [← hfst];exact List.mem_map.mpr ⟨y,hy,rfl⟩)
 refine codeAny_call_cells (body:=d.body) (by (first | lia | omega)) eo ed (hG.kp hbs).nolimit ecd rfl (hb xs pm code doc hxl) rfl (PySem.W.kindsX hkinds _) (fun s₁ I=>?_) hs2 hs3 hs1
 generalize hfd:methDef d.name x d.params d.body d.scope pm code doc = fd at I ⊢
 have esc:fd.scope = d.scope:=by rw [← hfd];rfl
 have egl:fd.globals = mainGlobals:=by rw [← hfd];rfl
 have ebl:fd.builtins = builtinsNs:=by rw [← hfd];rfl
 generalize henv:callEnvC fd s.heap.objs.size a = env at I ⊢
 have e1:env.scope = d.scope:=by rw [← henv,← esc];rfl
 have e2:env.globals = mainGlobals:=by rw [← henv,← egl];rfl
 have e3:env.builtins = builtinsNs:=by rw [← henv,← ebl];rfl
 have e4:env.cells = cellsFrom (s.heap.objs.size + 1) d.scope.names []:=by rw [← henv,← esc];rfl
 have e5:env.locals = s.heap.objs.size:=by rw [← henv];rfl
 have e6:env.frame = some env.locals:=by rw [← henv];rfl
 have ekd:env.kindOf = fun x=>d.scope.names.lookup x:=by funext y;show env.scope.names.lookup y = _;rw [e1]
 have hEok:EnvOk env:=⟨by rw [e1];exact hs1,e2,e3,fun y hy=>by
  rw [ekd] at hy
  rw [e4]
  exact Option.isSome_iff_exists.mp (PySem.W.cellsFrom_some _ _ _ (.inl hy))⟩
 have hcn:(env.cells.map (·.1)).Nodup:=by
  rw [e4,cells_names]
  simp only [List.map_nil,List.append_nil]
  have:=List.Nodup.sublist (List.Sublist.map (fun q:Str × NameKind=>q.1) (List.filter_sublist (p:=fun q:Str × NameKind=>q.2 == NameKind.cell))) hs5
  unfold List.Nodup at this ⊢
  rw [List.pairwise_reverse]
  exact this.imp fun h=>h.symm
 have hfresh:∀ b ∈ env.locals::env.cells.map (·.2),s.heap.get? b = none:=fun b hb=>by
  rcases List.mem_cons.mp hb with rfl | hb
  ·rw [e5];exact size_none _
  ·obtain ⟨⟨y,c⟩,hm,rfl⟩:=List.mem_map.mp hb
   have:=I.above y c hm
   rw [e5] at this
   exact Heap.get?_none_of_le (Nat.le_of_lt this)
 have halive:∀ b ∈ env.locals::env.cells.map (·.2),∃ o,s₁.heap.get? b = some o:=fun b hb=>by
  rcases List.mem_cons.mp hb with rfl | hb
  ·obtain ⟨o,_,_,ho,_⟩:=I.toInCall.ns;exact ⟨o,ho⟩
  ·obtain ⟨⟨y,c⟩,hm,rfl⟩:=List.mem_map.mp hb
   obtain ⟨o,ho,_⟩:=I.cell y c (mem_lookup hcn hm)
   exact ⟨o,ho⟩
 have kp:Kp s.heap s₁.heap:=I.toInCall.keep
 let S':Sx:=⟨S.ad++(env.locals::env.cells.map (·.2)),S.prog,S.w⟩
 obtain ⟨hi1,hi2,hi3,hi4⟩:=I
 have F:Fr ⟨P,⟨l.k - 1,l.q,p⟩,A.deeper env,env,ps++rest,S,{ s with heap:=base },[],S'⟩ ρ (vs++List.replicate rest.length none) H s₁:={
  aok:=⟨hA.1,dep_1 hA.2.1 hk,uni_1 hA.2.2 hk⟩
  eok:=hEok,nd:=hs4,g0:=hG,pp:=hpp,pw:=hpw
  sd:=fun b hb=>(List.mem_append.mp hb).elim (fun q=>by obtain ⟨o,ho⟩:=hsd b q;exact ⟨o,kp b o ho⟩) (halive b)
  sim:=(X.avoid hfresh).kp kp
  fr:=hbr
  sub:=fun b hb=>List.mem_append_left _ hb
  hL:=List.mem_append_right _ (.head _)
  hC:=fun y c hc=>List.mem_append_right _ (.tail _ (List.mem_map.mpr ⟨(y,c),hc,rfl⟩))
  len:=by simp [hl]
  ic:=⟨_,_,⟨⟨by obtain ⟨h1,t1,e⟩:=hi1.same;exact ⟨h1,t1,by rw [e]⟩,hi1.ns,fun b o q=>kp b o (hbs b o q),Nat.le_trans hbz hi1.fresh⟩,hi2,hi3,hi4⟩,fun i y v ey ev=>by
   have hi:i < vs.length:=by
    apply Classical.byContradiction
    intro hi
    rw [List.getElem?_append_right (Nat.le_of_not_lt hi)] at ev
    rw [rep_join] at ev;cases ev
   rw [List.getElem?_append_left hi] at ev
   obtain ⟨rv,er,Vr'⟩:=V i v ev
   have Vr:VRel S' ρ s₁.heap v rv:=(Vr'.avoid hfresh).kp0 kp
   have ey':ps[i]? = some y:=by
    have:i < ps.length:=by (first | lia | omega)
    have ey2:(ps++rest)[i]? = some y:=ey
    rw [List.getElem?_append_left this] at ey2
    exact ey2
   have hm:(y,rv) ∈ ps.zip xs:=List.mem_of_getElem? (List.getElem?_zip_eq_some.mpr ⟨ey',er⟩)
   have hnd:((ps.zip xs).map (·.1)).Nodup:=by rw [hfst];exact (List.nodup_append.mp hs4).1
   have hky:=List.all_eq_true.mp hkinds _ hm
   refine ⟨rv,?_,Vr⟩
   rcases Bool.or_eq_true_iff.mp hky with q | q
   ·have q':env.kindOf y = some .local:=by rw [ekd];simpa using q
    exact .inl ⟨q',bindL_mem q' hnd hm⟩
   ·have q':env.kindOf y = some .cell:=by rw [ekd];simpa using q
    exact .inr ⟨q',bindC_mem (by rw [q'];simp) hnd hm⟩⟩
  hh:=fun i rv v e=>by simp at e
  fo:=fun P' e=>hfo env s₁ S' P' e e6 e5 kp fun b hb=>List.mem_append_left _ hb }
 exact h env s₁ S' e6 ekd hEok (fun b hb=>List.mem_append_left _ hb) rfl rfl ⟨kp,hfresh⟩ F
theorem map_join {vs:List AV} {xs:List Value} {S:Sx} {ρ:List Addr} {h:Heap} (V:VRels S ρ h vs xs):∀ (i:Nat) (v:AV),(vs.map some)[i]?.join = some v→∃ rv,xs[i]? = some rv∧VRel S ρ h v rv:=fun i v e=>by
 rw [List.getElem?_map] at e
 cases q:vs[i]? with
 | none=>rw [q] at e;cases e
 | some u=>rw [q] at e;cases e;exact V.get q
theorem enter_ok {P:PC} {l:Lv} {f:Nat} {x:Str} {d:DefRec} {ps rest:List Str} {vs:List AV}
  (hf:P.nt.nm f = some x) (hd:P.defs[f]? = some d) (hk:0 < l.k)
  (hb:∀ xs pm code doc,xs.length = ps.length→bindArgs (methDef d.name x d.params d.body d.scope pm code doc) ⟨xs,[]⟩ = pure (ps.zip xs))
  (hs:defOk d.scope ps rest = true) (hl:vs.length = ps.length)
  {A:Around} {s:Shared} {S:Sx} {xs:List Value} {x':Str} {a:Addr} {R:Result→Shared→Prop} (hA:Aok l A) (hG:GOk P s.heap) (hx:P.nt.nm f = some x') (ha:P.ma x' = some (.ref a)) (hpp:S.prog = P.prog) (hpw:S.w = P.w) (hsd:SD S s.heap) (V:VRels S [] s.heap vs xs)
  (h:∀ (env:Env) (s₁:Shared) (S':Sx),env.frame = some env.locals→env.kindOf = (fun x=>d.scope.names.lookup x)→EnvOk env→(∀ b ∈ S.ad,b ∈ S'.ad)→S'.prog = S.prog→S'.w = S.w →
   Fr ⟨P,⟨l.k - 1,l.q,none⟩,A.deeper env,env,ps++rest,S,s,[],S'⟩ [] (vs.map some++List.replicate rest.length none) [] s₁ →
   wpAny (model P.prog P.w) (A.deeper env) (execs d.body env) (fun f s'=>R (.ok (.ret (match f with | .ret v=>v | _=>.none))) s')
    (fun e s'=>wpAny (model P.prog P.w) (A.deeper env) (leaving env e) (fun _ s''=>R (.error e) s'') (fun e' s''=>R (.error e') s'') s') s₁) :
  codeAny (model P.prog P.w) A (.call (.ref a) ⟨xs,[]⟩) R s:=
 enterG (p:=none) (ρ:=[]) (H:=[]) (base:=s.heap) hf hd hk hb hs (by rw [List.length_map];exact hl) hA hG hx ha hpp hpw hsd ⟨rfl,List.nodup_nil,(fun _ hm=>nomatch hm),fun i vs e=>by simp at e⟩ (V.length ▸ hl) (map_join V) (Kp.refl _) (Nat.le_refl _) (fun _ hm=>nomatch hm) (fun _ _ _ _ q=>nomatch q) fun env s₁ S' a1 a2 a3 a4 a5 a6 _ F=>h env s₁ S' a1 a2 a3 a4 a5 a6 F
theorem CallJ.of_body {P:PC} {l:Lv} {f:Nat} {x:Str} {d:DefRec} {ps rest:List Str} {n:Nat} {cs:List CS} {vs:List AV} {Q:AV→AH→Prop} {X:Str→Prop}
  (hf:P.nt.nm f = some x) (hd:P.defs[f]? = some d) (hk:0 < l.k)
  (hb:∀ xs pm code doc,xs.length = ps.length→bindArgs (methDef d.name x d.params d.body d.scope pm code doc) ⟨xs,[]⟩ = pure (ps.zip xs))
  (hs:defOk d.scope ps rest = true) (hc:allSome (d.body.map (compS P.nt n (fun x=>d.scope.names.lookup x) (ps++rest))) = some cs) (hl:vs.length = ps.length)
  (hw:wpSs P ⟨l.k - 1,l.q,none⟩ cs (vs.map some++List.replicate rest.length none) [] (fun _ H=>Q .none H) Q (fun c _ _=>X c)):CallJ P l f vs Q X:=by
 intro A s S xs x' a hA hG hx ha hpp hpw hsd V
 refine enter_ok hf hd hk hb hs hl hA hG hx ha hpp hpw hsd V fun env s₁ S' _ ekd hEok hsub hp' hw' F=>?_
 have hc':allSome (d.body.map (compS P.nt n env.kindOf (ps++rest))) = some cs:=by rw [ekd];exact hc
 refine wpAny_mono (body_ok (P:=P) (l:=⟨l.k - 1,l.q,none⟩) rfl hEok hc' (A.deeper env) S s [] S' [] _ [] s₁ _ Q _ _ F xOk_any hw) (fun fl s' hfl=>?_) fun _ _ y=>y
 have fin:∀ {ρ':List Addr} {loc':Loc} {H':AH} {v:AV} {rv:Value},Fr ⟨P,⟨l.k - 1,l.q,none⟩,A.deeper env,env,ps++rest,S,s,[],S'⟩ ρ' loc' H' s'→VRel S' ρ' s'.heap v rv→Q v H'→JOut S s Q (.ret rv) s':=by
  intro ρ' loc' H' v rv F' V' q
  obtain ⟨m,cm,I',_⟩:=F'.ic
  obtain ⟨h',tk,es⟩:=I'.toInCall.same
  subst es
  exact ⟨rv,h',tk,ρ',v,H',rfl,rfl,I'.toInCall.keep,F'.fr,HSim.sub (S:=S) (S':=S') hp' hw' hsub F'.sim,VRel.sub (S:=S) (S':=S') hp' hw' hsub V',q⟩
 cases fl with
 | next=>obtain ⟨ρ',loc',H',m,F',q⟩:=hfl;exact fin F' .none q
 | ret rv=>obtain ⟨ρ',loc',H',v,m,F',V',q⟩:=hfl;exact fin F' V' q
 | _=>exact hfl.elim
open PySem PyProof.Rows PySem.SeqAt
theorem enterR {P:PC} {l:Lv} {f:Nat} {x:Str} {d:DefRec} {ps rest:List Str} {vs:List AV} {H:AH}
  (hf:P.nt.nm f = some x) (hd:P.defs[f]? = some d) (hk:0 < l.k)
  (hb:∀ xs pm code doc,xs.length = ps.length→bindArgs (methDef d.name x d.params d.body d.scope pm code doc) ⟨xs,[]⟩ = pure (ps.zip xs))
  (hs:defOk d.scope ps rest = true) (hl:vs.length = ps.length)
  {A:Around} {s:Shared} {S:Sx} {ρ:List Addr} {xs:List Value} {x':Str} {a:Addr} {base:Heap} {fr:List (Env × Obj)} {R:Result→Shared→Prop} (hA:Aok l A) (hG:GOk P base) (hx:P.nt.nm f = some x') (ha:P.ma x' = some (.ref a)) (hpp:S.prog = P.prog) (hpw:S.w = P.w) (hsd:SD S s.heap)
  (X:HSim S ρ H s.heap) (V:VRels S ρ s.heap vs xs) (hfr:A.frames = some (fr.map (·.1))) (hbs:Kp base s.heap) (hbz:base.objs.size ≤ s.heap.objs.size) (hbr:∀ b ∈ ρ,base.get? b = none)
  (hq:∀ q ∈ fr,(q.1.scope.kind ≠ .module∧q.1.frame = some q.1.locals)∧(q.1.locals ∈ S.ad∧base.get? q.1.locals = none)∧(∃ es ep,q.2.data = .dict es ep∧StrKeys es)∧s.heap.get? q.1.locals = some q.2)
  (h:∀ (env:Env) (s₁:Shared) (S':Sx),env.frame = some env.locals→env.kindOf = (fun x=>d.scope.names.lookup x)→EnvOk env→(∀ b ∈ S.ad,b ∈ S'.ad)→S'.prog = S.prog→S'.w = S.w→(Kp s.heap s₁.heap∧∀ b ∈ env.locals::env.cells.map (·.2),s.heap.get? b = none) →
   Fr ⟨P,⟨l.k - 1,l.q,some ⟨ρ.length,fr⟩⟩,A.deeper env,env,ps++rest,S,{ s with heap:=base },[],S'⟩ ρ (vs.map some++List.replicate rest.length none) H s₁ →
   wpAny (model P.prog P.w) (A.deeper env) (execs d.body env) (fun f s'=>R (.ok (.ret (match f with | .ret v=>v | _=>.none))) s')
    (fun e s'=>wpAny (model P.prog P.w) (A.deeper env) (leaving env e) (fun _ s''=>R (.error e) s'') (fun e' s''=>R (.error e') s'') s') s₁) :
  codeAny (model P.prog P.w) A (.call (.ref a) ⟨xs,[]⟩) R s:=
 enterG hf hd hk hb hs (by rw [List.length_map];exact hl) hA hG hx ha hpp hpw hsd X (V.length ▸ hl) (map_join V) hbs hbz hbr (fun env s₁ S' P' e e6 e5 kp hsub=>by
  cases e
  refine ⟨Around.frames_deeper hfr,e6,fun q hm=>?_⟩
  obtain ⟨a1,a2,a3,a4⟩:=hq q hm
  exact ⟨a1,⟨hsub _ a2.1,by show q.1.locals < env.locals;rw [e5];exact Heap.lt_size a4,a2.2⟩,a3,q.2.slots,kp _ _ a4⟩) h
theorem pre_app {ρ ρ':List Addr} (h:∀ i a,i < ρ.length→ρ[i]? = some a→ρ'[i]? = some a):ρ' = ρ++ρ'.drop ρ.length:=by
 have e:ρ'.take ρ.length = ρ:=by
  apply List.ext_getElem?
  intro i
  by_cases hi:i < ρ.length
  ·rw [List.getElem?_take_of_lt hi,h i ρ[i] hi (List.getElem?_eq_getElem hi),List.getElem?_eq_getElem hi]
  ·rw [List.getElem?_eq_none (by rw [List.length_take];(first | lia | omega)),List.getElem?_eq_none (by (first | lia | omega))]
 rw [← List.take_append_drop ρ.length ρ',e,List.drop_append_of_le_length (Nat.le_refl _),List.drop_length,List.nil_append]
theorem CallR.of_body {P:PC} {l:Lv} {f:Nat} {x:Str} {d:DefRec} {ps rest:List Str} {n:Nat} {cs:List CS} {vs:List AV} {H:AH} {Q:AV→AH→Prop}
  (hf:P.nt.nm f = some x) (hd:P.defs[f]? = some d) (hk:0 < l.k)
  (hb:∀ xs pm code doc,xs.length = ps.length→bindArgs (methDef d.name x d.params d.body d.scope pm code doc) ⟨xs,[]⟩ = pure (ps.zip xs))
  (hs:defOk d.scope ps rest = true) (hc:allSome (d.body.map (compS P.nt n (fun y=>d.scope.names.lookup y) (ps++rest))) = some cs) (hl:vs.length = ps.length)
  (hw:∀ fr,wpSs P ⟨l.k - 1,l.q,some ⟨H.length,fr⟩⟩ cs (vs.map some++List.replicate rest.length none) H (fun _ H=>Q .none H) Q (fun _ _ _=>False)):CallR P l f vs H Q:=by
 intro A s S ρ xs x' a base fr hA hG hx ha hpp hpw hsd X V hfr hbs hbz hbr hq hall
 refine enterR hf hd hk hb hs hl hA hG hx ha hpp hpw hsd X V hfr hbs hbz hbr hq fun env s₁ S' _ ekd hEok hsub hp' hw' _ F=>?_
 have hc':allSome (d.body.map (compS P.nt n env.kindOf (ps++rest))) = some cs:=by rw [ekd];exact hc
 refine wpAny_mono (body_ok (P:=P) (l:=⟨l.k - 1,l.q,some ⟨ρ.length,fr⟩⟩) rfl hEok hc' (A.deeper env) S { s with heap:=base } [] S' ρ _ H s₁ _ Q _ _ F xOk_any (by rw [X.len];exact hw fr)) (fun fl s' hfl=>?_) fun _ _ y=>y
 have fin:∀ {ρ':List Addr} {loc':Loc} {H':AH} {v:AV} {rv:Value},Mvd (some ⟨ρ.length,fr⟩) env ρ s₁ ρ' s'→Fr ⟨P,⟨l.k - 1,l.q,some ⟨ρ.length,fr⟩⟩,A.deeper env,env,ps++rest,S,{ s with heap:=base },[],S'⟩ ρ' loc' H' s'→VRel S' ρ' s'.heap v rv→Q v H' →
   ROut S ρ base fr s Q (.ok (.ret rv)) s':=by
  intro ρ' loc' H' v rv m F' V' q
  have ep:=pre_app (fun i a h1 h2=>m.pre _ rfl i a h1 h2)
  obtain ⟨m',cm,I',_⟩:=F'.ic
  obtain ⟨h',tk,es⟩:=I'.toInCall.same
  subst es
  have X':=HSim.sub (S:=S) (S':=S') hp' hw' hsub F'.sim
  have V'':=VRel.sub (S:=S) (S':=S') hp' hw' hsub V'
  have nd:=F'.sim.nodup
  have off:=F'.sim.off
  have frr:=F'.fr
  rw [ep] at X' V'' nd off frr
  refine ⟨rv,h',tk,ρ'.drop ρ.length,v,H',rfl,rfl,F'.keep,fun q hm=>?_,fun b hb=>?_,X',V'',q⟩
  ·obtain ⟨_,_,_,r⟩:=(F'.fo _ rfl).2.2 q hm
   exact r
  ·cases q0:s.heap.get? b with
   | none=>rfl
   | some o=>
    have h1:b ∉ ρ:=fun hm=>(List.nodup_append.mp nd).2.2 b hm b hb rfl
    have h2:∀ q ∈ fr,b ≠ q.1.locals:=fun q hm e=>off b (List.mem_append_right _ hb) (e ▸ hsub _ (hq q hm).2.1.1)
    have h3:=frr b (List.mem_append_right _ hb)
    have h4:base.get? b = none:=h3
    rw [hall b o q0 h1 h2] at h4
    cases h4
 cases fl with
 | next=>obtain ⟨ρ',loc',H',m,F',q⟩:=hfl;exact fin m F' .none q
 | ret rv=>obtain ⟨ρ',loc',H',v,m,F',V',q⟩:=hfl;exact fin m F' V' q
 | _=>exact hfl.elim
open PySem PyProof.Rows PySem.SeqAt
noncomputable def avData:PyData→Option AV
 | .none=>some .none
 | .bool b=>some (.bool b)
 | .int i=>some (.int i)
 | .str x=>some (.str x)
 | _=>Option.none
theorem avData_rel {d:PyData} {v:AV} {rv:Value} (e:avData d = some v) (h:∀ h':Heap,Reads h' rv d []):∀ S ρ h,VRel S ρ h v rv:=by
 intro S ρ h0
 have q:=h h0
 cases q<;>first | (cases e;constructor) | cases e
noncomputable def biFree (p:Program) (loose:List Str):Bool:=
 ((["isinstance","bool","str","tuple"]:List Str)++prNames.map (·.1)).all fun x=>!startupNames.contains x && !loose.contains x && !((recsOf p).map (·.name)).contains x && !((litsOf p).map (·.1)).contains x && !((clssOf p loose).map (·.name)).contains x
theorem bi_boot:((["isinstance","bool","str","tuple"]:List Str)++prNames.map (·.1)).all (fun x=>x != ("__name__" : Str) && bootBuiltins x == biOf x) = true:=by decide +kernel
theorem bi_mem {x:Str} {v:Value} (h:biOf x = some v):x ∈ (["isinstance","bool","str","tuple"]:List Str)++prNames.map (·.1):=by
 unfold biOf at h
 have:=lookup_mem h
 simp only [List.mem_append] at this ⊢
 rcases this with q | q
 ·left
  simp only [List.mem_cons,Prod.mk.injEq,List.not_mem_nil,or_false] at q ⊢
  rcases q with ⟨rfl,_⟩ | ⟨rfl,_⟩ | ⟨rfl,_⟩ | ⟨rfl,_⟩<;>simp
 ·right
  obtain ⟨y,hy,e⟩:=List.mem_map.mp q
  cases e
  exact List.mem_map.mpr ⟨y,hy,rfl⟩
theorem GOk.of_top {p:Program} {loose:List Str} {mean:ExcName→Option Value} {mg mb:Str→Option Value} {h:Heap} (T:Top p loose mean mg mb h) {prog:Program} {w:World} {consts:List (Str × AV)} {defs mds:List DefRec} {ms imp:List Str} {cn:Str} {own:Str→Addr→Option Bool} {sup:Addr} {ma mN:Str→Option Value} {cls:Option Addr}
  (hd:recsOf p = defs) (hb:biFree p loose = true) (hc:consts.all (fun c=>match valOf p c.1 with | some d=>(avData d).isSome | Option.none=>false) = true) (hc2:∀ x v,consts.lookup x = some v→∃ d,valOf p x = some d∧avData d = some v)
  (how:∀ t c b,own t c = some b→OwnIs ⟨prog,w,mg,mb,⟨defs.map (·.name),consts,ms,cn,imp⟩,defs++mds,own,sup,ma,cls,mN⟩ h t c b)
  (hma:∀ d ∈ defs,ma d.name = mg d.name) (hmd:∀ (j:Nat) (x:Str) (d:DefRec),ms[j]? = some x→mds[j]? = some d→∃ a o pm code doc,ma x = some (.ref a)∧h.get? a = some o∧o.data = .func (methDef d.name x d.params d.body d.scope pm code doc)∧h.CodeRec code x)
  (hoc:∀ C,cls = some C→FCls ⟨prog,w,mg,mb,⟨defs.map (·.name),consts,ms,cn,imp⟩,defs++mds,own,sup,ma,cls,mN⟩ h C)
  (hmt:∀ (m:Str) (j:Nat),ms[j]? = some (cn++"."++m)→(∃ C,cls = some C)∧∃ a o,mN m = some (.ref a)∧ma (cn++"."++m) = some (.ref a)∧h.get? a = some o∧o.cls = .type "function"∧∃ fd,o.data = .func fd) :
  GOk ⟨prog,w,mg,mb,⟨defs.map (·.name),consts,ms,cn,imp⟩,defs++mds,own,sup,ma,cls,mN⟩ h where
 g:=T.g
 b:=T.b
 nolimit:=T.nolimit
 bi:=fun x v e=>by
  have hm:=bi_mem e
  have h1:=List.all_eq_true.mp hb x hm
  have h2:=List.all_eq_true.mp bi_boot x hm
  simp only [Bool.and_eq_true,Bool.not_eq_true',List.contains_eq_mem,decide_eq_false_iff_not] at h1
  simp only [Bool.and_eq_true,bne_iff_ne,ne_eq,beq_iff_eq] at h2
  obtain ⟨⟨⟨⟨a1,a2⟩,a3⟩,a4⟩,a5⟩:=h1
  exact ⟨T.free x a1 a2 a3 a4 a5,by rw [← e,← h2.2];exact T.builtins x h2.1⟩
 cst:=fun x v e=>by
  obtain ⟨d,e1,e2⟩:=hc2 x v e
  obtain ⟨rv,e3,e4⟩:=T.const x d e1
  exact ⟨rv,e3,avData_rel e2 e4⟩
 ow:=how
 fn:=fun f x e=>by
  obtain ⟨d,hd',rfl⟩:∃ d,defs[f]? = some d∧d.name = x:=by simpa using e
  obtain ⟨a,o,pm,code,doc,h1,h2,h3,h4⟩:=T.fn d (by rw [hd];exact List.mem_of_getElem? hd')
  exact ⟨a,o,⟨h1,(hma d (List.mem_of_getElem? hd')).trans h1⟩,h2,_,h3⟩
 df:=fun f x d e e'=>by
  have e0:(defs.map (·.name)++ms)[f]? = some x:=e
  have e1:(defs++mds)[f]? = some d:=e'
  by_cases hf:f < defs.length
  ·rw [List.getElem?_append_left (by rw [List.length_map];exact hf),List.getElem?_map] at e0
   rw [List.getElem?_append_left hf] at e1
   rw [e1] at e0
   cases e0
   obtain ⟨a,o,pm,code,doc,h1,h2,h3,h4⟩:=T.fn d (by rw [hd];exact List.mem_of_getElem? e1)
   exact ⟨a,o,pm,code,doc,(hma d (List.mem_of_getElem? e1)).trans h1,h2,h3,h4⟩
  ·rw [List.getElem?_append_right (by rw [List.length_map];exact Nat.le_of_not_lt hf),List.length_map] at e0
   rw [List.getElem?_append_right (Nat.le_of_not_lt hf)] at e1
   exact hmd _ x d e0 e1
 oc:=hoc
 mt:=fun m f e hf=>by
  have e0:(defs.map (·.name)++ms)[f]? = some (cn++"."++m):=e
  rw [List.getElem?_append_right hf] at e0
  exact hmt m _ e0
theorem ints_of_well {P:Params} {h:Heap}:∀ {vs:List Value} {xs:List PySem.W.WData} {ns:List Int},PySem.W.WellAll P h vs xs→xs = ns.map PySem.W.WData.int→∀ S ρ h',VRels S ρ h' (ns.map AV.int) vs
 | _,_,[],.nil,_,_,_,_=>.nil
 | _,_,_::_,.nil,e,_,_,_=>by cases e
 | _,_,[],.cons _ _,e,_,_,_=>by cases e
 | _,_,n::ns,.cons x r,e,S,ρ,h'=>by
  simp only [List.map_cons,List.cons.injEq] at e
  obtain ⟨rfl,e⟩:=e
  cases x
  exact .cons (.int _ _) (ints_of_well r e S ρ h')
open PySem PyProof.Rows PySem.SeqAt PySem.W
theorem law_good {c:ClaimW} {cl:Str→Option Addr} {mean:ExcName→Option Value} {args:List WData} {s₁ s':Shared} (hr:∀ cls,c.raises args cls = false) (hp:c.post args (.bool true) args = true) (hk:Kp s₁.heap s'.heap) (hos:s'.os = s₁.os) (hg:s'.gens = #[]) :
  GoodWG c cl mean args s₁ (.ok (.ret (.bool true))) s':=
 GoodW.toG ⟨.inl ⟨_,.bool true,[],rfl,hr,.bool true,hp,fun _=>⟨List.nodup_nil,fun _ h=>nomatch h⟩⟩,hk,hos,hg⟩
theorem ofPy_ints:∀ (ns:List Int),ofPys (ns.map PyData.int) = ns.map WData.int
 | []=>rfl
 | n::r=>by simp [ofPys,ofPy,ofPy_ints r]
open PySem PyProof.Rows PySem.SeqAt
noncomputable def six:List Str:=["BadStrip","BadOrder","NoFold","NothingDone","TooMany","BadText"]
noncomputable def adOf (mg:Str→Option Value) (x:Str):Addr:=match mg x with
 | some (.ref a)=>a
 | _=>0
noncomputable def own6 (mg:Str→Option Value) (t:Str) (c:Addr):Option Bool:=
 if c ∈ six.map (adOf mg) then (if t = "ValueError" then some true else if t ∈ six then some (decide (adOf mg t = c)) else none) else none
noncomputable def quietC (h:Heap) (name:Str):Bool:=match h.clsAt mainGlobals name with
 | some (_,_,cd)=>qn.all fun n=>(h.nsMap cd.ns n).isNone
 | none=>false
noncomputable def clsT (h:Heap):Bool:=
 (six.all fun x=>h.ownExcOk x ["FoldError"] veMro "ValueError.__new__" && quietC h x) && (h.ownExcOk "FoldError" [] veMro "ValueError.__new__" && quietC h "FoldError") && decide ((("FoldError" : Str)::six).map (adOf (h.nsMap mainGlobals))).Nodup
structure Cls6 (mg:Str→Option Value) (h:Heap):Prop where
 at6:∀ x ∈ six,mg x = some (.ref (adOf mg x))∧XCls h (adOf mg x) (adOf mg "FoldError")
 sup:mg "FoldError" = some (.ref (adOf mg "FoldError"))
 nd:((("FoldError" : Str)::six).map (adOf mg)).Nodup
theorem Cls6.keeps {mg:Str→Option Value} {h h':Heap} (x:Cls6 mg h) (k:∀ b o,h.get? b = some o→h'.get? b = some o):Cls6 mg h':=⟨fun y hy=>⟨(x.at6 y hy).1,(x.at6 y hy).2.keeps k⟩,x.sup,x.nd⟩
theorem cls_of_ok {h:Heap} {name:Str} {chain:List Str} (x:h.ownExcOk name chain veMro "ValueError.__new__" = true) (y:quietC h name = true) :
  h.nsMap mainGlobals name = some (.ref (adOf (h.nsMap mainGlobals) name))∧XObj h (adOf (h.nsMap mainGlobals) name) ((chain.map fun n=>(h.nsMap mainGlobals n).getD .none)++veMro):=by
 obtain ⟨C,N,nm,q,bs,hdct,sn,sub,ab,col,dd,k0,k1,k2,k3,k5,hb,hC,hN,_⟩:=Heap.ownExc_of_ok x
 have ea:adOf (h.nsMap mainGlobals) name = C:=by unfold adOf;rw [hb]
 rw [ea]
 refine ⟨hb,_,N,_,hC,⟨nm,q,bs,hdct,sn,sub,ab,col,dd,k0,k1,k2,k3,k5,rfl⟩,hN,fun n hn=>?_⟩
 unfold quietC at y
 cases hf:h.clsAt mainGlobals name with
 | none=>rw [hf] at y;cases y
 | some z=>
  obtain ⟨C',o',cd'⟩:=z
  rw [hf] at y
  obtain ⟨hn',ho',hd'⟩:=Heap.clsAt_spec hf
  rw [hb] at hn'
  obtain rfl:C = C':=by injection hn' with q1;injection q1
  rw [hC] at ho'
  obtain rfl:=Option.some.inj ho'
  obtain rfl:_ = cd':=by injection hd'
  exact Option.isNone_iff_eq_none.mp (List.all_eq_true.mp y n hn)
theorem Cls6.of {h:Heap} (e:clsT h = true):Cls6 (h.nsMap mainGlobals) h:=by
 unfold clsT at e
 simp only [Bool.and_eq_true,List.all_eq_true,decide_eq_true_eq] at e
 obtain ⟨⟨e1,e2,e3⟩,e4⟩:=e
 obtain ⟨s1,s2⟩:=cls_of_ok e2 e3
 refine ⟨fun x hx=>?_,s1,e4⟩
 obtain ⟨a1,a2⟩:=cls_of_ok (e1 x hx).1 (e1 x hx).2
 rw [show (((["FoldError"]:List Str).map fun n=>(h.nsMap mainGlobals n).getD .none)++veMro) = .ref (adOf (h.nsMap mainGlobals) "FoldError")::veMro from by show (h.nsMap mainGlobals "FoldError").getD .none::veMro = _;rw [s1];rfl] at a2
 exact ⟨a1,a2,s2⟩
noncomputable def veFree (p:Program) (loose:List Str):Bool:=
 !startupNames.contains ("ValueError" : Str) && !loose.contains ("ValueError" : Str) && !((recsOf p).map (·.name)).contains ("ValueError" : Str) && !((litsOf p).map (·.1)).contains ("ValueError" : Str) && !((clssOf p loose).map (·.name)).contains ("ValueError" : Str)
theorem ve_boot:bootBuiltins "ValueError" = some (.type "ValueError"):=by decide +kernel
theorem ve_of {p:Program} {loose:List Str} {mean:ExcName→Option Value} {mg mb:Str→Option Value} {h:Heap} (T:Top p loose mean mg mb h) (hb:veFree p loose = true):mg "ValueError" = none∧mb "ValueError" = some (.type "ValueError"):=by
 unfold veFree at hb
 simp only [Bool.and_eq_true,Bool.not_eq_true',List.contains_eq_mem,decide_eq_false_iff_not] at hb
 obtain ⟨⟨⟨⟨a1,a2⟩,a3⟩,a4⟩,a5⟩:=hb
 exact ⟨T.free _ a1 a2 a3 a4 a5,(T.builtins _ (by decide)).trans ve_boot⟩
theorem own_of {P:PC} {h:Heap} (X:Cls6 P.mg h) (hv:P.mg "ValueError" = none∧P.mb "ValueError" = some (.type "ValueError")) (hs:P.sup = adOf P.mg "FoldError"):∀ t c b,own6 P.mg t c = some b→OwnIs P h t c b:=by
 intro t c b e
 unfold own6 at e
 split at e
 ·rename_i hc
  obtain ⟨y,hy,rfl⟩:=List.mem_map.mp hc
  unfold OwnIs
  rw [hs]
  refine ⟨(X.at6 y hy).2,?_⟩
  split at e
  ·rename_i ht
   subst ht
   cases e
   exact .inl ⟨hv.1,hv.2,rfl⟩
  ·split at e
   ·rename_i ht
    cases e
    by_cases hd:adOf P.mg t = adOf P.mg y
    ·refine .inr (.inl ⟨by rw [(X.at6 t ht).1,hd],decide_eq_true hd⟩)
    ·refine .inr (.inr ⟨adOf P.mg t,(X.at6 t ht).1,(X.at6 t ht).2,fun q=>hd q.symm,fun q=>?_,decide_eq_false hd⟩)
     have:=X.nd
     rw [List.map_cons,List.nodup_cons] at this
     exact this.1 (q ▸ List.mem_map.mpr ⟨t,ht,rfl⟩)
   ·cases e
 ·cases e
theorem ad_ne {mg:Str→Option Value} {h:Heap} (X:Cls6 mg h) {i j:Nat} {x y:Str} (hx:six[i]? = some x) (hy:six[j]? = some y) (hn:i ≠ j):adOf mg x ≠ adOf mg y:=fun q=>by
 have:=X.nd
 rw [List.map_cons,List.nodup_cons] at this
 have h1:(six.map (adOf mg))[i]? = some (adOf mg x):=by rw [List.getElem?_map,hx];rfl
 have h2:(six.map (adOf mg))[j]? = some (adOf mg x):=by rw [List.getElem?_map,hy,q];rfl
 exact hn (List.getElem?_inj (List.getElem?_eq_some_iff.mp h1).1 this.2 |>.mp (h1.trans h2.symm))
theorem own6_is {mg:Str→Option Value} {h:Heap} (X:Cls6 mg h) {i j:Nat} {x y:Str} (hx:six[i]? = some x) (hy:six[j]? = some y):own6 mg x (adOf mg y) = some (decide (i = j)):=by
 have mx:=List.mem_of_getElem? hx
 have my:=List.mem_of_getElem? hy
 unfold own6
 rw [if_pos (List.mem_map.mpr ⟨y,my,rfl⟩),if_neg (fun q=>by subst q;exact absurd mx (by decide)),if_pos mx]
 congr 1
 by_cases hn:i = j
 ·subst hn
  rw [hx] at hy;cases hy
  simp
 ·rw [decide_eq_false hn,decide_eq_false (ad_ne X hx hy hn)]
theorem own6_ve {mg:Str→Option Value} {j:Nat} {y:Str} (hy:six[j]? = some y):own6 mg "ValueError" (adOf mg y) = some true:=by
 unfold own6
 rw [if_pos (List.mem_map.mpr ⟨y,List.mem_of_getElem? hy,rfl⟩),if_pos rfl]
open PySem PyProof.Rows PySem.SeqAt
inductive RenQ (Q:AV→AH→Prop) (v:AV) (H:AH):Prop
 | mk (φ:List Nat) (H':AH) (v':AV):RenH φ H H'→Ren φ H v v'→Q v' H'→RenQ Q v H
theorem CallJ.ren {P:PC} {l:Lv} {f:Nat} {vs:List AV} {Q:AV→AH→Prop} {X:Str→Prop} (h:CallJ P l f vs (RenQ Q) X):CallJ P l f vs Q X:=by
 intro A s S xs x a h1 h2 h3 h4 h5 h6 h7 h8
 refine codeAny_mono (h A s S xs x a h1 h2 h3 h4 h5 h6 h7 h8) fun r s' hr=>?_
 cases r with
 | ok fl=>
  obtain ⟨rv,h',tk,ρ,v,Hc,e1,e2,k,fr,Z,V,φ,H',v',R,r,q⟩:=hr
  refine ⟨rv,h',tk,pick ρ φ,v',H',e1,e2,k,fun a ha=>?_,Z.ren R,VRel.ren' Z R.dom r V,q⟩
  obtain ⟨j,_,e⟩:=pick_mem ha
  exact fr a (List.mem_of_getElem? e)
 | error e=>exact hr
theorem RenH.nil {H:AH}:RenH [] H []:=⟨rfl,List.nodup_nil,fun _ h=>(by cases h),fun i j xs e=>by simp at e⟩
theorem RenH.one {H:AH} {a:Nat} {xs xs':List AV} (ha:H[a]? = some xs) (rx:Rens [a] H xs xs'):RenH [a] H [xs']:=by
 refine ⟨rfl,by simp,fun j hj=>?_,fun i j ws e e'=>?_⟩
 ·simp at hj;subst hj;exact (List.getElem?_eq_some_iff.mp ha).1
 ·match i,e with
  | 0,e=>simp at e;subst e;rw [ha] at e';cases e';exact ⟨_,rfl,rx⟩
  | i + 1,e=>simp at e
theorem RenH.two {H:AH} {a b:Nat} {xs xs' ys ys':List AV} (ha:H[a]? = some xs) (hb:H[b]? = some ys) (hne:a ≠ b) (rx:Rens [a,b] H xs xs') (ry:Rens [a,b] H ys ys'):RenH [a,b] H [xs',ys']:=by
 refine ⟨rfl,by simpa using hne,fun j hj=>?_,fun i j ws e e'=>?_⟩
 ·simp at hj
  rcases hj with rfl | rfl
  ·exact (List.getElem?_eq_some_iff.mp ha).1
  ·exact (List.getElem?_eq_some_iff.mp hb).1
 ·match i,e with
  | 0,e=>simp at e;subst e;rw [ha] at e';cases e';exact ⟨_,rfl,rx⟩
  | 1,e=>simp at e;subst e;rw [hb] at e';cases e';exact ⟨_,rfl,ry⟩
  | i + 2,e=>simp at e
@[simp] theorem shifts_ints (k:Nat) (l:List Int):AV.shifts k (l.map AV.int) = l.map AV.int:=by
 induction l with
 | nil=>rfl
 | cons x r ih=>simp [shs_nil,shs_cons,sh_none,sh_bool,sh_int,sh_str,sh_ref,sh_tup,sh_fl,ih]
@[simp] theorem shifts_strs (k:Nat) (l:List Str):AV.shifts k (l.map AV.str) = l.map AV.str:=by
 induction l with
 | nil=>rfl
 | cons x r ih=>simp [shs_nil,shs_cons,sh_none,sh_bool,sh_int,sh_str,sh_ref,sh_tup,sh_fl,ih]
theorem CallP.plain {P:PC} {l:Lv} {f:Nat} {vs:List AV} {H:AH} {Q:AV→AH→Prop} {X:Str→Prop} {R:AV→AH→Prop} (hr:Rens [] H vs vs) (h:CallJ P l f vs R X) (hq:∀ v Hc,R v Hc→Q (v.shift H.length) (H++Hc.map (AV.shifts H.length))):CallP P l f vs H Q X:=
 ⟨vs,hr,h.mono fun v Hc q=>⟨.inl rfl,hq v Hc q⟩⟩
theorem CallP.frz {P:PC} {l:Lv} {f:Nat} {vs vs':List AV} {H:AH} {Q:AV→AH→Prop} {X:Str→Prop} {R:AV→AH→Prop} (hr:Rens [] H vs vs') (h:CallJ P l f vs' R X) (hn:∀ v Hc,R v Hc→NoFl v∧∀ xs ∈ Hc,NoFls xs) (hq:∀ v Hc,R v Hc→Q (v.shift H.length) (H++Hc.map (AV.shifts H.length))):CallP P l f vs H Q X:=
 ⟨vs',hr,h.mono fun v Hc q=>⟨.inr (hn v Hc q),hq v Hc q⟩⟩
theorem kl {a b k:Nat} (h:b < k) (e:a ≤ b):a < k:=Nat.lt_of_le_of_lt e h
theorem kd {a b k:Nat} (h:b < k) (e:a + 1 ≤ b):a < k - 1:=Nat.lt_sub_of_add_lt (Nat.lt_of_le_of_lt e h)
theorem kd2 {a b k:Nat} (h:b < k) (e:a + 1 + 1 ≤ b):a < k - 1 - 1:=kd (kd h e) (Nat.le_refl _)
theorem kd3 {a b k:Nat} (h:b < k) (e:a + 2 + 1 ≤ b):a < k - 1 - 2:=Nat.lt_sub_of_add_lt (kd h e)
theorem idx_some {j:Int} {n:Nat} (h0:0 ≤ j) (h1:j < n):(if (decide (0 ≤ j) && decide (j < n)) = true then some j.toNat else none) = some j.toNat:=if_pos (Bool.and_eq_true_iff.mpr ⟨decide_eq_true h0,decide_eq_true h1⟩)
theorem idx_in {xs:List AV} {k:Int} (h0:0 ≤ k) (h1:k < xs.length):seqIndex? k xs.length = some k.toNat:=by
 show (if _ then some (if k < 0 then k + (xs.length:Int) else k).toNat else none) = _
 rw [if_neg (Int.not_lt.mpr h0)]
 exact idx_some h0 h1
theorem idx_neg {n d:Nat} (h1:0 < d) (h2:d ≤ n):seqIndex? (-(d:Int)) n = some (n - d):=by
 have e:-(d:Int) + (n:Int) = ((n - d:Nat):Int):=by rw [Int.ofNat_sub h2,Int.sub_eq_add_neg,Int.add_comm]
 show (if _ then some (if -(d:Int) < 0 then -(d:Int) + (n:Int) else -(d:Int)).toNat else none) = _
 rw [if_pos (Int.neg_neg_of_pos (Int.ofNat_lt.mpr h1)),e]
 exact idx_some (Int.ofNat_nonneg _) (Int.ofNat_lt.mpr (Nat.sub_lt (Nat.lt_of_lt_of_le h1 h2) h1))
inductive FnIs (P:PC) (f:Nat) (ps rest:List Str) (cs:List CS):Prop
 | mk (x:_) (d:_) (n:_):P.nt.nm f = some x→P.defs[f]? = some d→defOk d.scope ps rest = true→allSome (d.body.map (compS P.nt n (fun y=>d.scope.names.lookup y) (ps++rest))) = some cs→(∀ xs pm code doc,xs.length = ps.length→bindArgs (methDef d.name x d.params d.body d.scope pm code doc) ⟨xs,[]⟩ = pure (ps.zip xs))→FnIs P f ps rest cs
theorem FnIs.call {P:PC} {l:Lv} {f:Nat} {ps rest:List Str} {cs:List CS} {vs:List AV} {Q:AV→AH→Prop} {X:Str→Prop} (F:FnIs P f ps rest cs) (hk:0 < l.k) (hl:vs.length = ps.length)
  (hw:wpSs P ⟨l.k - 1,l.q,none⟩ cs (vs.map some++List.replicate rest.length none) [] (fun _ H=>Q .none H) Q (fun c _ _=>X c)):CallJ P l f vs Q X:=by
 obtain ⟨x,d,n,h1,h2,h3,h4,h5⟩:=F
 exact CallJ.of_body h1 h2 hk h5 h3 h4 hl hw
section
variable {H:AH} {Q:AV→AH→Prop} {i j k:Int} {x y:Str} {a b:AV} {u v:List AV} {m n:Nat} {p q:Bool}
theorem b_add:opBin .Add (.int i) (.int j) H Q = (Q (.int (i + j)) H):=rfl
theorem b_sub:opBin .Sub (.int i) (.int j) H Q = (Q (.int (i - j)) H):=rfl
theorem b_mul:opBin .Mult (.int i) (.int j) H Q = ((j.natAbs < 2 ^ 60 ∨ i.natAbs < 2 ^ 60)∧Q (.int (i * j)) H):=rfl
theorem b_div:opBin .FloorDiv (.int i) (.int j) H Q = ((0 < j∧j < 1000000000)∧Q (.int (i / j)) H):=rfl
theorem b_mod:opBin .Mod (.int i) (.int j) H Q = (0 < j∧Q (.int (i % j)) H):=rfl
theorem b_rr:opBin .Add (.ref m) (.ref n) H Q = (opt (H[m]?) fun xs=>opt (H[n]?) fun ys=>xs.length + ys.length ≤ smallN∧Q (.ref H.length) (H++[xs++ys])):=rfl
theorem b_rf:opBin .Add (.ref m) (.fl v) H Q = (opt (H[m]?) fun xs=>opt (some v) fun ys=>xs.length + ys.length ≤ smallN∧Q (.ref H.length) (H++[xs++ys])):=rfl
theorem b_fr:opBin .Add (.fl u) (.ref n) H Q = (opt (some u) fun xs=>opt (H[n]?) fun ys=>xs.length + ys.length ≤ smallN∧Q (.ref H.length) (H++[xs++ys])):=rfl
theorem b_ff:opBin .Add (.fl u) (.fl v) H Q = (opt (some u) fun xs=>opt (some v) fun ys=>xs.length + ys.length ≤ smallN∧Q (.ref H.length) (H++[xs++ys])):=rfl
theorem c_lt:opCmp .Lt (.int i) (.int j) H Q = (Q (.bool (decide (i < j))) H):=rfl
theorem c_le:opCmp .LtE (.int i) (.int j) H Q = (Q (.bool (decide (i ≤ j))) H):=rfl
theorem c_gt:opCmp .Gt (.int i) (.int j) H Q = (Q (.bool (decide (j < i))) H):=rfl
theorem c_eq:opCmp .Eq (.int i) (.int j) H Q = (Q (.bool (decide (i = j))) H):=rfl
theorem c_ne:opCmp .NotEq (.int i) (.int j) H Q = (Q (.bool (!decide (i = j))) H):=rfl
theorem c_isn:opCmp .Is a .none H Q = (Q (.bool (isNone a)) H):=rfl
theorem c_isnn:opCmp .IsNot a .none H Q = (Q (.bool (!isNone a)) H):=rfl
theorem p_len:opPrim .len [a] H Q = (opt (lenOf H a) fun n=>n ≤ smallN∧Q (.int n) H):=rfl
theorem p_int:opPrim .int [.bool p] H Q = (Q (.int (if p then 1 else 0)) H):=rfl
theorem p_lref:opPrim .list [.ref m] H Q = (opt (H[m]?) fun xs=>xs.length ≤ smallN∧Q (.ref H.length) (H++[xs])):=rfl
theorem p_lfl:opPrim .list [.fl v] H Q = (opt (some v) fun xs=>xs.length ≤ smallN∧Q (.ref H.length) (H++[xs])):=rfl
theorem p_all:opPrim .all [a] H Q = (∃ bs:List Bool,a.items? H = some (bs.map AV.bool)∧Q (.bool (bs.all id)) H):=rfl
theorem p_min:opPrim .min [.int i,.int j] H Q = (Q (.int (if j < i then j else i)) H):=rfl
theorem p_r1:opPrim .range [.int j] H Q = (rngOk 0 j 1∧Q (.rng 0 j 1) H):=rfl
theorem p_r2:opPrim .range [.int i,.int j] H Q = (rngOk i j 1∧Q (.rng i j 1) H):=rfl
theorem l_fl:lenOf H (.fl v) = some v.length:=rfl
theorem l_tup:lenOf H (.tup v) = some v.length:=rfl
theorem l_ref:lenOf H (.ref m) = (H[m]?).map List.length:=rfl
theorem s_fl:AV.seq? H (.fl v) = some v:=rfl
theorem s_tup:AV.seq? H (.tup v) = some v:=rfl
theorem s_ref:AV.seq? H (.ref m) = H[m]?:=rfl
theorem t_fl:AV.items? H (.fl v) = some v:=rfl
theorem t_ref:AV.items? H (.ref m) = H[m]?:=rfl
theorem i_t20:opIdx (.tup [a,b]) (.int 0) H Q = Q a H:=rfl
theorem i_t21:opIdx (.tup [a,b]) (.int 1) H Q = Q b H:=rfl
theorem i_is {o:AV} {vs:List AV} {w:AV} {j:Nat} (e:o.seq? H = some vs) (hl:vs.length ≤ smallN) (ej:seqIndex? k vs.length = some j) (ew:vs[j]? = some w) (h:Q w H):opIdx o (.int k) H Q:=by
 show opt (o.seq? H) fun vs=>opt (idxAt k vs) fun v=>Q v H
 rw [e]
 show opt (idxAt k vs) fun v=>Q v H
 rw [idxAt_some hl ej ew]
 exact h
theorem i_at {o:AV} {vs:List AV} {w:AV} (e:o.seq? H = some vs) (hl:vs.length ≤ smallN) (h0:0 ≤ k) (h1:k < vs.length) (ew:vs[k.toNat]? = some w) (h:Q w H):opIdx o (.int k) H Q:=i_is e hl (idx_in h0 h1) ew h
theorem i_atI {o:AV} {L:List Int} (e:o.seq? H = some (L.map AV.int)) (hl:L.length ≤ smallN) (h0:0 ≤ k) (h1:k < L.length) (h:∀ z,L[k.toNat]? = some z→Q (.int z) H):opIdx o (.int k) H Q:=by
 have hk:k.toNat < L.length:=by (first | lia | omega)
 exact i_at e (by rw [List.length_map];exact hl) h0 (by rw [List.length_map];exact h1) (w:=.int L[k.toNat]) (by simp [hk]) (h _ (by simp [hk]))
theorem i_neg {o:AV} {vs:List AV} {w:AV} {d:Nat} (e:o.seq? H = some vs) (hl:vs.length ≤ smallN) (h0:k = -(d:Int)) (h1:0 < d) (h2:d ≤ vs.length) (ew:vs[vs.length - d]? = some w) (h:Q w H):opIdx o (.int k) H Q:=by
 subst h0
 exact i_is e hl (idx_neg h1 h2) ew h
end
theorem wpSs_nil {P:PC} {l:Lv} {loc:Loc} {H:AH} {Qn:Loc→AH→Prop} {Qr:AV→AH→Prop} {Qx:Str→Loc→AH→Prop}:wpSs P l [] loc H Qn Qr Qx ↔ Qn loc H:=Iff.rfl
theorem wpSs_cons {P:PC} {l:Lv} {c:CS} {r:List CS} {loc:Loc} {H:AH} {Qn:Loc→AH→Prop} {Qr:AV→AH→Prop} {Qx:Str→Loc→AH→Prop}:wpSs P l (c::r) loc H Qn Qr Qx ↔ wpS P l c loc H (fun loc' H'=>wpSs P l r loc' H' Qn Qr Qx) Qr Qx:=Iff.rfl
theorem m_cnt {v:AV} {p:Prop}:onR .count v p = onL v p:=rfl
theorem m_idx {v:AV} {p:Prop}:onR .index v p = onL v p:=rfl
theorem o_bool {b:Bool} {p:Bool→Prop}:onBool (.bool b) p = p b:=rfl
theorem o_int {b:Int} {p:Int→Prop}:onInt (.int b) p = p b:=rfl
theorem o_lfl {p:Prop} {u:List AV}:onL (.fl u) p = p:=rfl
theorem o_lref {p:Prop} {n:Nat}:onL (.ref n) p = p:=rfl
theorem r_int {p:Prop} {n:Int}:offRng (.int n) p = p:=rfl
theorem r_bool {p:Prop} {n:Bool}:offRng (.bool n) p = p:=rfl
theorem r_str {p:Prop} {n:Str}:offRng (.str n) p = p:=rfl
theorem r_tup {p:Prop} {n:List AV}:offRng (.tup n) p = p:=rfl
theorem r_fl {p:Prop} {n:List AV}:offRng (.fl n) p = p:=rfl
theorem r_ref {p:Prop} {n:Nat}:offRng (.ref n) p = p:=rfl
theorem r_none {p:Prop}:offRng .none p = p:=rfl
theorem ite_t {a b:Prop}:(if true = true then a else b) = a:=rfl
theorem ite_f {a b:Prop}:(if false = true then a else b) = b:=rfl
theorem map_c {α β:Type} {f:α→β} {a:α} {l:List α}:List.map f (a::l) = f a::List.map f l:=rfl
theorem map_n {α β:Type} {f:α→β}:List.map f [] = []:=rfl
theorem not_t:(!true) = false:=rfl
theorem not_f:(!false) = true:=rfl
theorem brk {p:Prop} [Decidable p] {A B:Prop} (h1:p→A) (h0:¬ p→B):if decide p = true then A else B:=by
 by_cases h:p
 ·rw [decide_eq_true h];exact h1 h
 ·rw [decide_eq_false h];exact h0 h
local macro_rules | `(tactic| tm_at "wps") => do
  let ids : Array (Lean.TSyntax `ident) := ("o_bool o_int o_lfl o_lref r_int r_bool r_str r_tup r_fl r_ref r_none ite_t ite_f setAllO_nil setAllO_cons q_assign q_assignT q_setIdx q_mut q_expr q_ite q_for1 q_while q_ret w_const w_var w_bin w_neg w_not w_and w_or w_cmp w_chain w_idx w_slc w_tup w_lst w_dct w_call w_prim w_isin w_isown w_meth w_comp w_nil w_cons w_t0 w_t1 b_add b_sub b_mul b_div b_mod b_rr b_rf b_fr b_ff c_lt c_le c_gt c_eq c_ne c_isn c_isnn p_len p_int m_cnt m_idx q_try p_lref p_lfl p_all p_min p_r1 p_r2 l_fl l_tup l_ref s_fl s_tup s_ref t_fl t_ref i_t20 i_t21 opt_some List.getElem?_cons_zero List.getElem?_cons_succ Option.join_some Option.map_some List.set_cons_zero List.set_cons_succ map_c map_n List.cons_append List.nil_append List.replicate_zero List.replicate_succ List.length_nil List.length_cons Nat.reduceAdd Nat.zero_add Int.reduceNeg not_t not_f".splitOn " ").toArray.map fun x => Lean.mkIdent x.toName
  `(tactic| try dsimp only [$[$ids:ident],*])
noncomputable def cs_cell_at:List CS:=[
 .ite (.cmp .Lt (.var 1) (.prim .len [(.var 0)]))
  [.ret (.bin .Mod (.bin .Add (.bin .Mult (.idx (.var 0) (.var 1)) (.const (.int (48271)))) (.bin .Mult (.const (.int (7919))) (.var 1))) (.const (.int (2147483647))))]
  [],
 .ret (.const (.int (0)))]
noncomputable def IsCell (v:AV) (H:AH):Prop:=H = []∧∃ c:Int,v = .int c∧0 ≤ c∧c < 2147483647
theorem cell_at_ok {P:PC} {l:Lv} {f:Nat} {ps rest:List Str} {X:Str→Prop} (F:FnIs P f ps rest cs_cell_at) (hp:ps.length = 2) (hr:rest.length = 0) (hk:0 < l.k) (hq:l.q = true) {ns:List Int} (hn:ns.length ≤ 63) {k:Int} (h0:0 ≤ k) (h1:k < 100000) :
  CallJ P l f [.fl (ns.map AV.int),.int k] IsCell X:=by
 have er:rest = []:=List.length_eq_zero_iff.mp hr
 subst er
 refine F.call hk (by simp [hp]) ?_
 unfold cs_cell_at
 (refine wpSs_cons.mpr ?_;tm_at "wps")
 refine ⟨fun loc H=>loc = [some (.fl (ns.map AV.int)),some (.int k)]∧H = [],?_,?_⟩
 ·rintro loc H ⟨rfl,rfl⟩
  (refine wpSs_cons.mpr ?_;tm_at "wps")
  exact ⟨rfl,0,rfl,by decide,by decide⟩
 refine ⟨hq,Nat.le_trans (Nat.le_of_eq (List.length_map _)) (Nat.le_trans hn (by decide)),brk (fun hh=>?_) fun _=>Cut.here ⟨rfl,rfl⟩⟩
 rw [List.length_map] at hh
 (refine wpSs_cons.mpr ?_;tm_at "wps")
 refine i_atI (L:=ns) rfl (Nat.le_trans hn (by decide)) h0 hh fun z _=>?_
 tm_at "wps"
 exact ⟨.inl (by decide),.inr (by decide),by decide,rfl,_,rfl,Int.emod_nonneg _ (by decide),Int.emod_lt_of_pos _ (by decide)⟩
open PySem PyProof.Rows PySem.SeqAt
theorem pick_run {α:Type} (xs:List α) (a:Nat):∀ m:Nat,((List.range m).map (a + ·)).filterMap (xs[·]?) = (xs.drop a).take m
 | 0=>by simp
 | m + 1=>by
  rw [List.range_succ,List.map_append,List.filterMap_append,pick_run xs a m,List.take_succ]
  congr 1
  simp only [List.map_cons,List.map_nil,List.filterMap_cons,List.filterMap_nil,List.getElem?_drop]
  cases xs[a + m]?<;>rfl
theorem slPick_plain {α:Type} (xs:List α) (lo hi:Option Int):slPick xs lo hi none = (xs.drop (lo.elim 0 (clipAt xs.length))).take (hi.elim xs.length (clipAt xs.length) - lo.elim 0 (clipAt xs.length)):=by
 unfold slPick
 rw [sliceBounds_plain]
 simp only
 rw [sliceRange_one,pick_run]
theorem clip_nat (n k:Nat):clipAt n (k:Int) = min k n:=by
 unfold clipAt
 rw [if_neg (Int.not_lt.mpr (Int.natCast_nonneg k))]
 rcases Nat.le_total k n with h | h
 ·rw [Int.min_eq_left (Int.ofNat_le.mpr h),Int.max_eq_right (Int.natCast_nonneg k),Int.toNat_natCast,Nat.min_eq_left h]
 ·rw [Int.min_eq_right (Int.ofNat_le.mpr h),Int.max_eq_right (Int.natCast_nonneg n),Int.toNat_natCast,Nat.min_eq_right h]
theorem slPick_upto {α:Type} (xs:List α) {k:Int} (h0:0 ≤ k):slPick xs none (some k) none = xs.take k.toNat:=by
 obtain ⟨j,rfl⟩:=Int.eq_ofNat_of_zero_le h0
 rw [slPick_plain]
 simp only [Option.elim_none,Option.elim_some,Int.ofNat_eq_natCast,List.drop_zero,Nat.sub_zero,Int.toNat_natCast]
 rw [clip_nat,List.take_eq_take_iff]
 (first | lia | omega)
theorem slPick_from {α:Type} (xs:List α) {k:Int} (h0:0 ≤ k):slPick xs (some k) none none = xs.drop k.toNat:=by
 obtain ⟨j,rfl⟩:=Int.eq_ofNat_of_zero_le h0
 rw [slPick_plain]
 simp only [Option.elim_none,Option.elim_some,Int.ofNat_eq_natCast,Int.toNat_natCast]
 rw [clip_nat]
 by_cases h:j ≤ xs.length
 ·rw [Nat.min_eq_left h,List.take_of_length_le]
  simp
 ·rw [Nat.min_eq_right (by (first | lia | omega)),List.drop_of_length_le (Nat.le_refl _),List.drop_of_length_le (by (first | lia | omega)),List.take_nil]
theorem fm_congr {α β:Type} {f g:α→Option β}:∀ {l:List α},(∀ x ∈ l,f x = g x)→l.filterMap f = l.filterMap g
 | [],_=>rfl
 | a::r,h=>by rw [List.filterMap_cons,List.filterMap_cons,h a (.head _),fm_congr fun x hx=>h x (.tail _ hx)]
theorem slPick_rev {α:Type} (xs:List α):slPick xs none none (some (-1)) = xs.reverse:=by
 have eb:sliceBounds none none (some (-1)) xs.length = ((xs.length:Int) - 1,-1,-1):=by
  unfold sliceBounds
  simp
 have er:sliceRange ((xs.length:Int) - 1) (-1) (-1) = (List.range xs.length).map fun k=>xs.length - 1 - k:=by
  unfold sliceRange
  have ec:(if (-1:Int) > 0 then (if (xs.length:Int) - 1 < -1 then (-1 - ((xs.length:Int) - 1) + -1 - 1) / -1 else 0) else (if (xs.length:Int) - 1 > -1 then ((xs.length:Int) - 1 - -1 - -1 - 1) / (- -1) else 0)).toNat = xs.length:=by
   simp
   split<;>(first | lia | omega)
  dsimp only
  rw [ec]
  apply List.map_congr_left
  intro k hk
  simp at hk
  (first | lia | omega)
 unfold slPick
 rw [eb]
 simp only
 rw [er]
 rw [List.filterMap_map]
 have e1:(List.range xs.length).filterMap ((fun x=>xs[x]?) ∘ fun k=>xs.length - 1 - k) = (List.range xs.length).filterMap fun k=>xs.reverse[k]?:=by
  apply fm_congr
  intro k hk
  simp at hk
  simp [List.getElem?_reverse hk]
 rw [e1]
 have:=pick_run xs.reverse 0 xs.length
 rw [List.filterMap_map] at this
 have e2:((fun x=>xs.reverse[x]?) ∘ fun x=>0 + x) = fun k=>xs.reverse[k]?:=by funext k;simp
 rw [e2] at this
 rw [this]
 simp only [List.drop_zero]
 exact List.take_of_length_le (by simp)
open PySem PyProof.Rows PySem.SeqAt
section
variable {H:AH} {Q:AV→AH→Prop} {o:AV} {vs:List AV} {i k:Int}
theorem sl_upto (e:o.items? H = some vs) (hl:vs.length ≤ smallN) (h0:0 ≤ k) (h:Q (.ref H.length) (H++[vs.take k.toNat])):opSlc o .none (.int k) .none H Q:=
 opSlc_l e ⟨vs,none,some k,none,e,hl,rfl,rfl,rfl,by simp,by rw [slPick_upto vs h0];exact h⟩
theorem sl_from (e:o.items? H = some vs) (hl:vs.length ≤ smallN) (h0:0 ≤ k) (h:Q (.ref H.length) (H++[vs.drop k.toNat])):opSlc o (.int k) .none .none H Q:=
 opSlc_l e ⟨vs,some k,none,none,e,hl,rfl,rfl,rfl,by simp,by rw [slPick_from vs h0];exact h⟩
theorem sl_rev (e:o.items? H = some vs) (hl:vs.length ≤ smallN) (h:Q (.ref H.length) (H++[vs.reverse])):opSlc o .none .none (.int (-1)) H Q:=
 opSlc_l e ⟨vs,none,none,some (-1),e,hl,rfl,rfl,rfl,by simp,by rw [slPick_rev vs];exact h⟩
end
open PySem PyProof.Rows PySem.SeqAt
theorem CallR.mono {P:PC} {l:Lv} {f:Nat} {vs:List AV} {H:AH} {Q Q':AV→AH→Prop} (h:CallR P l f vs H Q) (hq:∀ v H,Q v H→Q' v H):CallR P l f vs H Q':=by
 intro A s S ρ xs x a base fr a1 a2 a3 a4 a5 a6 a7 a8 a9 b1 b2 b3 b4 b5 b6
 refine codeAny_mono (h A s S ρ xs x a base fr a1 a2 a3 a4 a5 a6 a7 a8 a9 b1 b2 b3 b4 b5 b6) fun r s' hr=>?_
 obtain ⟨rv,h',tk,e,v,H',e1,e2,k,fo,fe,X,V,q⟩:=hr
 exact ⟨rv,h',tk,e,v,H',e1,e2,k,fo,fe,X,V,hq _ _ q⟩
theorem CallR.ren {P:PC} {l:Lv} {f:Nat} {vs:List AV} {H:AH} {Q:AV→AH→Prop} (h:CallR P l f vs H (fun v H'=>∃ φ H'' v',(∀ i,i < H.length→φ[i]? = some i)∧RenH φ H' H''∧Ren φ H' v v'∧Q v' H'')):CallR P l f vs H Q:=by
 intro A s S ρ xs x a base fr a1 a2 a3 a4 a5 a6 a7 a8 a9 b1 b2 b3 b4 b5 b6
 refine codeAny_mono (h A s S ρ xs x a base fr a1 a2 a3 a4 a5 a6 a7 a8 a9 b1 b2 b3 b4 b5 b6) fun r s' hr=>?_
 obtain ⟨rv,h',tk,e,v,H',e1,e2,k,fo,fe,X,V,φ,H'',v',hφ,R,r,q⟩:=hr
 have hp:pick (ρ++e) φ = ρ++(pick (ρ++e) φ).drop ρ.length:=pre_app fun i a hi ha=>by rw [pick_get (fun j hj=>X.len ▸ R.dom j hj) (hφ i (a8.len ▸ hi))];exact get_app ha
 have X':=X.ren R
 have V':=VRel.ren' X R.dom r V
 have nd:=X'.nodup
 rw [hp] at X' V' nd
 refine ⟨rv,h',tk,_,v',H'',e1,e2,k,fo,fun b hb=>?_,X',V',q⟩
 obtain ⟨j,_,ej⟩:=pick_mem (List.mem_of_mem_drop hb)
 rcases List.mem_append.mp (List.mem_of_getElem? ej) with m | m
 ·exact absurd rfl ((List.nodup_append.mp nd).2.2 b m b hb)
 ·exact fe b m
theorem FnIs.callR {P:PC} {l:Lv} {f:Nat} {ps rest:List Str} {cs:List CS} {vs:List AV} {H:AH} {Q:AV→AH→Prop} (F:FnIs P f ps rest cs) (hk:0 < l.k) (hl:vs.length = ps.length)
  (hw:∀ fr,wpSs P ⟨l.k - 1,l.q,some ⟨H.length,fr⟩⟩ cs (vs.map some++List.replicate rest.length none) H (fun _ H=>Q .none H) Q (fun _ _ _=>False)):CallR P l f vs H Q:=by
 obtain ⟨x,d,n,h1,h2,h3,h4,h5⟩:=F
 exact CallR.of_body h1 h2 hk h5 h3 h4 hl hw
noncomputable def FV (v:AV):Prop:=∀ φ H,Ren φ H v v
noncomputable def FVs (l:List AV):Prop:=∀ v ∈ l,FV v
theorem FVs.rens {l:List AV} (h:FVs l) {φ:List Nat} {H:AH}:Rens φ H l l:=Rens.self fun v hv=>h v hv φ H
theorem FVs.app {a b:List AV} (h1:FVs a) (h2:FVs b):FVs (a++b):=fun v hv=>(List.mem_append.mp hv).elim (h1 v) (h2 v)
theorem FVs.one {v:AV} (h:FV v):FVs [v]:=fun w hw=>List.mem_singleton.mp hw ▸ h
theorem FVs.tup {l:List AV} (h:FVs l):FV (.tup l):=fun _ _=>.tup h.rens
theorem FVs.fl {l:List AV} (h:FVs l):FV (.fl l):=fun _ _=>.fl h.rens
theorem FVs.ints {l:List Int}:FVs (l.map AV.int):=fun v hv=>by obtain ⟨i,_,rfl⟩:=List.mem_map.mp hv;exact fun _ _=>.int i
theorem FVs.strs {l:List Str}:FVs (l.map AV.str):=fun v hv=>by obtain ⟨i,_,rfl⟩:=List.mem_map.mp hv;exact fun _ _=>.str i
inductive RensH (φ:List Nat) (H:AH):AH→AH→Prop
 | nil:RensH φ H [] []
 | cons {xs ys:List AV} {a b:AH}:Rens φ H xs ys→RensH φ H a b→RensH φ H (xs::a) (ys::b)
theorem RensH.length {φ:List Nat} {H a b:AH} (r:RensH φ H a b):a.length = b.length:=by induction r<;>simp_all
theorem RensH.get {φ:List Nat} {H a b:AH} (r:RensH φ H a b):∀ {i:Nat} {xs:List AV},a[i]? = some xs→∃ ys,b[i]? = some ys∧Rens φ H xs ys:=by
 induction r with
 | nil=>intro i xs e;simp at e
 | cons q _ ih=>
  intro i xs e
  cases i with
  | zero=>cases e;exact ⟨_,rfl,q⟩
  | succ i=>exact ih e
theorem RensH.app {φ:List Nat} {H a b c d:AH} (r:RensH φ H a b) (q:RensH φ H c d):RensH φ H (a++c) (b++d):=by
 induction r with
 | nil=>exact q
 | cons x _ ih=>exact .cons x ih
theorem RensH.self {φ:List Nat} {H:AH}:∀ {a:AH},(∀ xs ∈ a,FVs xs)→RensH φ H a a
 | [],_=>.nil
 | _::_,h=>.cons (h _ (.head _)).rens (RensH.self fun x hx=>h x (.tail _ hx))
theorem range_at {n i:Nat} (h:i < n):(List.range n)[i]? = some i:=by simp [h]
theorem RenH.front {H₁ H₂ ex:AH} (r:RensH (List.range H₁.length) (H₁++ex) H₁ H₂):RenH (List.range H₁.length) (H₁++ex) H₂ where
 len:=by rw [List.length_range,r.length]
 nodup:=List.nodup_range
 dom:=fun j hj=>by rw [List.length_append];exact Nat.lt_of_lt_of_le (List.mem_range.mp hj) (Nat.le_add_right _ _)
 obj:=fun i j xs e e'=>by
  have hi:i < H₁.length:=by have:=(List.getElem?_eq_some_iff.mp e).1;rwa [List.length_range] at this
  rw [range_at hi] at e
  cases e
  rw [List.getElem?_append_left hi] at e'
  exact r.get e'
inductive Nrm (n:Nat) (Q:AV→AH→Prop) (v:AV) (H':AH):Prop
 | mk (H₁:_) (ex:_) (H₂:_) (v':_):H' = H₁++ex→H₁.length = n→Ren (List.range n) H' v v'→RensH (List.range n) H' H₁ H₂→Q v' H₂→Nrm n Q v H'
theorem CallR.nrm {P:PC} {l:Lv} {f:Nat} {vs:List AV} {H:AH} {Q:AV→AH→Prop} (h:CallR P l f vs H (Nrm H.length Q)):CallR P l f vs H Q:=
 CallR.ren (h.mono fun v H' ⟨H₁,ex,H₂,v',e,el,r,q,hq⟩=>by
  subst e
  rw [← el] at r q
  exact ⟨_,H₂,v',fun i hi=>range_at (el ▸ hi),.front q,r,hq⟩)
theorem Nrm.same {n:Nat} {Q:AV→AH→Prop} {v:AV} {H₁ ex:AH} (hl:H₁.length = n) (hf:∀ xs ∈ H₁,FVs xs) (hv:FV v) (h:Q v H₁):Nrm n Q v (H₁++ex):=⟨H₁,ex,H₁,v,rfl,hl,hv _ _,.self hf,h⟩
theorem Nrm.here {n:Nat} {Q:AV→AH→Prop} {v:AV} {H₁:AH} (hl:H₁.length = n) (hf:∀ xs ∈ H₁,FVs xs) (hv:FV v) (h:Q v H₁):Nrm n Q v H₁:=⟨H₁,[],H₁,v,(List.append_nil _).symm,hl,hv _ _,.self hf,h⟩
open PySem
noncomputable def NoCtx (h:Heap) (e:Addr):Prop:=∃ oe vs,h.get? e = some oe∧oe.data = .fields vs∧vs[2]? = some .none
theorem NoCtx.at {h h':Heap} {e:Addr} (x:NoCtx h e) (k:∀ o,h.get? e = some o→h'.get? e = some o):NoCtx h' e:=by obtain ⟨oe,vs,a,b,c⟩:=x;exact ⟨oe,vs,k _ a,b,c⟩
theorem entry_unchain:entryFor table "proto.unchain" = some Builtin.«proto.unchain»:=entryFor_of_tree (by kernel_rfl)
section
variable {prog:Program} {w:World} {A:Around} {E:Value→Shared→Prop} {s:Shared}
theorem raise_in {α:Type} {a e:Addr} {o:Obj} {vs:Array Value} {Q:α→Shared→Prop} (hh:A.handled = some (.ref e)) (x:NoCtx s.heap e) (ho:s.heap.get? a = some o) (hd:o.data = .fields vs) (hs:2 < vs.size) (hne:a ≠ e)
  (h:E (.ref a) { s with heap:=s.heap.update a (Obj.mapFields (·.setIfInBounds 2 (.ref e))) }):wpAny (model prog w) A (raiseNew (.ref a):Sem α) Q E s:=by
 obtain ⟨oe,us,e1,e2,e3⟩:=x
 unfold raiseNew
 refine wpAny_bind (wpAny_handled ?_)
 rw [hh]
 dsimp only
 rw [if_pos (by simpa using Ne.symm hne)]
 refine wpAny_bind (wpAny_holding (wpAny_runValue (codeAny_builtin entry_unchain ?_)))
 unfold Builtin.«proto.unchain»
 refine wpAny_bind (wpAny_field e1 e2 e3 ?_)
 rw [if_pos (by decide)]
 refine wpAny_pure ?_
 show wpAny _ A (updateField a 2 (.ref e) >>= fun _=>throw (.ref a)) Q E s
 unfold updateField
 refine wpAny_bind (wpAny_bind (wpAny_load ho ?_))
 rw [hd]
 dsimp only
 rw [if_pos hs]
 exact wpAny_update ho (wpAny_throw h)
theorem tuple_end {it t e:Addr} {i:Nat} {items:Array Value} {Q:Option Value→Shared→Prop} (hh:A.handled = some (.ref e)) (x:NoCtx s.heap e) (hie:it ≠ e) (hit:s.heap.IsTupleIter it t i) (ht:s.heap.IsTuple t items) (hx:items[i]? = none)
  (hQ:∀ h',Heap.ExtBut it s.heap h'→Q none { s with heap:=h' }):wpAny (model prog w) A (pyNext (.ref it)) Q E s:=by
 obtain ⟨o,ho,hc,hd⟩:=id hit
 obtain ⟨ol,hol,_,nl,hdl⟩:=ht
 unfold pyNext
 refine wpAny_bind (wpAny_attempt (wpAny_callSpecial?_slot (name:=Str.ofString "__next__") hit.typeIs F.slot_tuple_iterator_next (wpAny_call_entry F.slot_tuple_iterator_next hit.typeIs F.entry_tuple_iterator_next ?_ (F.args_tuple_iterator_next_1 _))))
 show wpAny _ _ (field (.ref it) 0 >>= _) _ _ s
 refine wpAny_bind (wpAny_field ho hd (x:=.ref t) rfl ?_)
 show wpAny _ _ (if (Value.ref t == Value.none) = true then _ else _) _ _ s
 rw [if_neg (show ¬ ((Value.ref t == Value.none) = true) from Bool.false_ne_true)]
 show wpAny _ _ (field (.ref it) 1 >>= _) _ _ s
 refine wpAny_bind (wpAny_field ho hd (x:=.int i 0) rfl ?_)
 show wpAny _ _ (seqItems? (.ref t) >>= _) _ _ s
 refine wpAny_bind (wpAny_seqItems hol hdl ?_)
 simp only [Int.toNat_natCast,hx]
 refine wpAny_bind (wpAny_rule (wpAny_bind (wpAny_setField ho hd (by simp) ?_)))
 show wpAny _ _ (newExc (.type "StopIteration") [] >>= _) _ _ _
 refine wpAny_bind ?_
 simp only [newExc,newTuple]
 refine wpAny_bind (wpAny_newObj_type (wpAny_bind (m:=firstArgMember _ _) (wpAny_of_eq (a:=Value.none) (by simp only [firstArgMember];rfl) (wpAny_newObj_type ?_ (by size_fits)))) (by size_fits))
 have ke:=((Heap.SameBut.update (h:=s.heap) (a:=it) (f:=Obj.mapFields (·.setIfInBounds 0 Value.none))).extBut.push { cls:=.type "tuple",dict:=none,data:=.seq ([]:List Value).toArray })
 refine raise_in (o:={ cls:=.type "StopIteration",dict:=none,data:=.fields _ }) (e:=e) hh (x.at fun q hq=>Heap.get?_push_of_some _ (ke e q hie.symm hq)) (Heap.get?_push_size _ rfl) rfl (by simp only [List.size_toArray,Array.size_append,List.length_cons,List.length_nil];(first | lia | omega)) (fun q=>?_) ?_
 ·obtain ⟨oe,_,eo,_⟩:=x
  have:=Heap.lt_size (ke e oe hie.symm eo)
  rw [← q] at this
  exact Nat.lt_irrefl _ this
 ·refine wpAny_bind (wpAny_isInstance (T := "StopIteration") (b:=true) ⟨_,Heap.get?_update_self _ (Heap.get?_push_size _ rfl) rfl,rfl⟩ isSubtype_stop (wpAny_pure (hQ _ fun b q hb eq=>?_)))
  rw [Heap.get?_update_other _ _ (Nat.ne_of_gt (Heap.lt_size (ke b q hb eq)))]
  exact Heap.get?_push_of_some _ (ke b q hb eq)
theorem Walks.tupleH {e:Addr} (hh:A.handled = some (.ref e)) (I ax:Addr) (hne:ax ≠ I) (hie:I ≠ e) (items:Array Value) :
  Walks prog w A I [I,ax,e] [I] items.size (fun i v=>items[i]? = some v) (fun i h=>h.IsTupleIter I ax i∧h.IsTuple ax items∧NoCtx h e) where
 sub:=fun b hb=>by simp at hb;simp [hb]
 frame:=fun _ _ _ st hk=>⟨st.1.at fun o e=>hk I (by simp) o e,st.2.1.at fun o e=>hk ax (by simp) o e,st.2.2.at fun o q=>hk e (by simp) o q⟩
 item:=fun i s Q E hi st hQ=>by
  refine wpAny_pyNext_tuple_item st.1 st.2.1 (x:=items[i]) (by simp [hi]) fun h' hit' hs'=>?_
  exact hQ _ h' s.toks (by simp [hi]) ⟨hit',st.2.1.extBut hs'.extBut hne,st.2.2.at fun o q=>hs'.extBut e o hie.symm q⟩ fun b o hb e=>hs'.extBut b o (fun h=>hb (by simp [h])) e
 done:=fun s Q E st hQ=>tuple_end hh st.2.2 hie st.1 st.2.1 (by simp) fun h' he'=>hQ h' s.toks fun b o hb e=>he' b o (fun h=>hb (by simp [h])) e
 self:=fun _ _ _ _ st hQ=>wpAny_pyIter_tupleiter st.1 hQ
end
open PySem
noncomputable def FlyA (base:Heap) (l:List Env) (e K:Addr) (h:Heap):Prop:=base.StaysIn h∧base.get? e = none∧h.FunFrames base l ∧
 ∃ oe vs T oT ts fl,(h.get? e = some oe∧oe.cls = .ref K∧oe.data = .fields vs)∧(vs[1]? = some (.ref T)∧vs[2]? = some .none)∧base.get? T = none∧T ≠ e∧h.get? T = some oT∧oT.data = .fields ts∧ts[3]? = some fl
section
variable {M:Model} {A:Around} {E:Value→Shared→Prop} {s:Shared} {base h:Heap} {env:Env} {outer l:List Env} {L e K:Addr} {Q:Unit→Shared→Prop}
theorem FlyA.there (x:FlyA base l e K h):∃ o,h.get? e = some o∧o.cls = .ref K:=by
 obtain ⟨_,_,_,oe,_,_,_,_,_,⟨he,hc,_⟩,_⟩:=x
 exact ⟨oe,he,hc⟩
theorem FlyA.noCtx (x:FlyA base l e K h):NoCtx h e:=by
 obtain ⟨_,_,_,oe,vs,_,_,_,_,⟨he,_,hd⟩,⟨_,h2⟩,_⟩:=x
 exact ⟨oe,vs,he,hd,h2⟩
theorem FlyA.tail (x:FlyA base (env::l) e K h):FlyA base l e K h:=by obtain ⟨a,b,c,d⟩:=x;exact ⟨a,b,c.2.2,d⟩
theorem entry_end {h1:Heap} {oe oT:Obj} {vs ts:Array Value} {fl:Value} (he:h1.get? e = some oe) (hc:oe.cls = .ref K) (hd:oe.data = .fields vs) (hsz:1 < vs.size) (h2:vs[2]? = some .none) (hkb:base.StaysIn h1) (hen:base.get? e = none) (hl:h1.FunFrames base l)
  (hT:oT.data = .fields ts) (h3:ts[3]? = some fl) (h:∀ h',FlyA base l e K h'→h1.UpToSlots h'→Q () { s with heap:=h' }):wpAny M A (setField (.ref e) 1 (.ref h1.objs.size)) Q E { s with heap:=h1.push oT }:=by
 have he2:=Heap.get?_push_of_some oT he
 have hTe:h1.objs.size ≠ e:=Nat.ne_of_gt (Heap.lt_size he)
 have kp:∀ b o,b ≠ e→h1.get? b = some o→((h1.push oT).update e (Obj.mapFields (·.setIfInBounds 1 (Value.ref h1.objs.size)))).get? b = some o:=fun b o hb q=>by
  rw [Heap.get?_update_other _ _ (Ne.symm hb)]
  exact Heap.get?_push_of_some _ q
 have nr:∀ b o,h1.get? b = some o→(∀ ws,o.data ≠ .fields ws)→b ≠ e:=fun b o q hn eq=>by
  rw [eq,he] at q;cases q;exact hn _ hd
 have d3:=Obj.data_mapFields hd (·.setIfInBounds 1 (Value.ref h1.objs.size))
 refine wpAny_setField he2 hd hsz (h _ ⟨fun b o q=>kp b o (fun eq=>by rw [eq,hen] at q;cases q) (hkb b o q),hen,hl.of_keeps fun b o q hn=>⟨o,kp b o (nr b o q hn) q,rfl⟩,?_⟩ fun b o q hn=>⟨o.slots,kp b o (nr b o q hn) q⟩)
 exact ⟨_,_,h1.objs.size,oT,ts,fl,⟨Heap.get?_update_self _ he2 (Obj.isFreed_of_fields d3),(Obj.cls_mapFields _ _).trans hc,d3⟩,⟨by simp [hsz],by rw [Array.getElem?_setIfInBounds_ne (by decide)];exact h2⟩,hkb.fresh,hTe,(Heap.get?_update_other _ _ (Ne.symm hTe)).trans (Heap.get?_push_size h1 (Obj.isFreed_of_fields hT)),hT,h3⟩
theorem entry_any {oe:Obj} {vs:Array Value} {head:Value} {hadNext:Bool} (hfr:A.frames = some (env::outer)) (hl:s.heap.FunFrames base (env::outer)) (hf:env.frame = some L)
  (he:s.heap.get? e = some oe) (hc:oe.cls = .ref K) (hd:oe.data = .fields vs) (hsz:1 < vs.size) (h2:vs[2]? = some .none) (hkb:base.StaysIn s.heap) (hen:base.get? e = none)
  (h:∀ h',FlyA base (env::outer) e K h'→s.heap.UpToSlots h'→Q () { s with heap:=h' }) :
  wpAny M A (do let a ← frameOf env;let pl ← entryPlaceOf L hadNext;let b ← EntryCells.newEntry head a .none (rawInt L) .none pl;setField (.ref e) 1 b) Q E s:=by
 have off:e ∉ (env::outer).filterMap (·.frame):=fun hm=>by
  obtain ⟨_,o,ho,hn⟩:=hl.mem hm
  rw [he] at ho;cases ho;exact hn vs hd
 refine wpAny_bind (wpAny_frameOf_fun hfr hl hf fun h1 k1=>wpAny_bind (wpAny_entryPlaceOf fun pl hpl=>?_))
 unfold EntryCells.newEntry newFields
 have up:s.heap.UpToSlots h1:=fun b o q _=>k1.2.2 b o q
 refine wpAny_bind (wpAny_newObj_type (entry_end (fl:=rawInt L) ((k1.2.1 e off).trans he) hc hd hsz h2 (fun b o q=>(k1.2.1 b fun hm=>by rw [(hl.mem hm).1] at q;cases q).trans (hkb b o q)) hen (hl.of_keeps fun b o q hn=>by obtain ⟨sl,e⟩:=up b o q hn;exact ⟨_,e,rfl⟩) rfl ?_ fun h' x y=>h h' x (up.trans y)) (hpl.sizeOk5 _ _ _ _ _))
 first | (simp;done) | (rcases hpl with rfl | ⟨_,_,_,_,_,_,_,rfl⟩<;>simp)
theorem note_any (hfr:A.frames = some (env::outer)) (hf:env.frame = some L) (x:FlyA base (env::outer) e K s.heap) (hQ:∀ h',FlyA base (env::outer) e K h'→s.heap.UpToSlots h'→Q () { s with heap:=h' }):wpAny M A (noteFrame (.ref e) env) Q E s:=by
 obtain ⟨f1,f2,f3,oe,vs,T,oT,ts,fl,⟨he,hc,hd⟩,⟨h1,h2⟩,hnT,hTe,hT,hdT,h3⟩:=id x
 unfold noteFrame
 simp only [hf]
 refine wpAny_bind (wpAny_field he hd h1 ?_)
 rw [if_pos (show (Value.ref T != Value.none) = true from by simp)]
 refine wpAny_bind (wpAny_field hT hdT h3 ?_)
 by_cases hl:fl = rawInt L
 ·subst hl
  rw [if_pos (show (rawInt L == rawInt L) = true from by simp)]
  exact wpAny_pure (hQ s.heap x (Heap.UpToSlots.refl _))
 ·rw [if_neg (show ¬ ((fl == rawInt L) = true) from by simpa using hl)]
  refine wpAny_bind (wpAny_setField hT hdT (Array.getElem?_eq_some_iff.mp h3).1 ?_)
  have other:∀ b,b ≠ T→(s.heap.update T (Obj.mapFields (·.setIfInBounds 3 Value.none))).get? b = s.heap.get? b:=fun b hb=>Heap.get?_update_other _ _ (Ne.symm hb)
  have nr:∀ b o,s.heap.get? b = some o→(∀ vs,o.data ≠ .fields vs)→b ≠ T:=fun b o hb hnf q=>by
   rw [q,hT] at hb;cases hb;exact hnf ts hdT
  exact entry_any hfr (f3.of_keeps fun b o hb hnf=>⟨o,(other b (nr b o hb hnf)).trans hb,rfl⟩) hf ((other e (Ne.symm hTe)).trans he) hc hd (Array.getElem?_eq_some_iff.mp h1).1 h2
   (fun b o hbo=>(other b fun q=>by rw [q,hnT] at hbo;cases hbo).trans (f1 b o hbo)) f2 fun h' y u=>hQ h' y fun b o hb hnf=>u b o ((other b (nr b o hb hnf)).trans hb) hnf
theorem note_made {vs:List Value} (hfr:A.frames = some (env::outer)) (hf:env.frame = some L) (hkb:base.StaysIn h) (hl:h.FunFrames base (env::outer)) (hx:Heap.MadeExcOf h s.heap e (.ref K) vs)
  (hQ:∀ h',FlyA base (env::outer) e K h'→s.heap.UpToSlots h'→Q () { s with heap:=h' }):wpAny M A (noteFrame (.ref e) env) Q E s:=by
 obtain ⟨t,he,_,_⟩:=hx.there
 have fe:base.get? e = none:=by
  cases hq:base.get? e with
  | none=>rfl
  | some o'=>have:=hkb e o' hq;rw [hx.new] at this;cases this
 unfold noteFrame
 simp only [hf]
 refine wpAny_bind (wpAny_field he (x:=.none) rfl rfl ?_)
 rw [if_neg (show ¬ ((Value.none != Value.none) = true) from by decide)]
 exact entry_any hfr (hl.of_keeps fun b o hb _=>⟨o,hx.keeps b o hb,rfl⟩) hf he rfl rfl (by simp) rfl (fun b o hb=>hx.keeps b o (hkb b o hb)) fe hQ
theorem setF_any {fr:Option Addr} (x:FlyA base l e K s.heap) (hQ:∀ h',FlyA base l e K h'→s.heap.UpToSlots h'→Q () { s with heap:=h' }):wpAny M A (setFlight (.ref e) fr) Q E s:=by
 obtain ⟨f1,f2,f3,oe,vs,T,oT,ts,fl,⟨he,hc,hd⟩,⟨h1,h2⟩,hnT,hTe,hT,hdT,h3⟩:=x
 have hsz3:3 < ts.size:=(Array.getElem?_eq_some_iff.mp h3).1
 have other:∀ b,b ≠ T→(s.heap.update T (Obj.mapFields (·.setIfInBounds 3 (fr.elim Value.none fun f=>rawInt f)))).get? b = s.heap.get? b:=fun b hb=>Heap.get?_update_other _ _ (Ne.symm hb)
 have nr:∀ b o,s.heap.get? b = some o→(∀ vs,o.data ≠ .fields vs)→b ≠ T:=fun b o hb hnf q=>by
  rw [q,hT] at hb;cases hb;exact hnf ts hdT
 unfold setFlight
 refine wpAny_bind (wpAny_field he hd h1 ?_)
 rw [if_pos (show (Value.ref T != Value.none) = true from by simp)]
 exact wpAny_setField hT hdT hsz3 (hQ _ ⟨fun b o hbo=>(other b fun q=>by rw [q,hnT] at hbo;cases hbo).trans (f1 b o hbo),f2,f3.of_keeps fun b o hb hnf=>⟨o,(other b (nr b o hb hnf)).trans hb,rfl⟩,oe,vs,T,_,_,(fr.elim Value.none fun f=>rawInt f),⟨(other e (Ne.symm hTe)).trans he,hc,hd⟩,⟨h1,h2⟩,hnT,hTe,Heap.get?_update_self _ hT (Obj.isFreed_of_fields (Obj.data_mapFields hdT _)),Obj.data_mapFields hdT _,by simp [hsz3]⟩ fun b o hb hnf=>⟨o.slots,(other b (nr b o hb hnf)).trans hb⟩)
theorem leave_any (hfr:A.frames = some (env::outer)) (hf:env.frame = some L) (x:FlyA base (env::outer) e K s.heap) (hQ:∀ h',FlyA base outer e K h'→s.heap.UpToSlots h'→Q () { s with heap:=h' }):wpAny M A (leaving env (.ref e)) Q E s:=
 wpAny_bind (note_any hfr hf x fun h1 x1 u1=>setF_any x1 fun h2 x2 u2=>hQ h2 x2.tail (u1.trans u2))
theorem leave_made {vs:List Value} (hfr:A.frames = some (env::outer)) (hf:env.frame = some L) (hkb:base.StaysIn h) (hl:h.FunFrames base (env::outer)) (hx:Heap.MadeExcOf h s.heap e (.ref K) vs) (hQ:∀ h',FlyA base outer e K h'→s.heap.UpToSlots h'→Q () { s with heap:=h' }):wpAny M A (leaving env (.ref e)) Q E s:=
 wpAny_bind (note_made hfr hf hkb hl hx fun h1 x1 u1=>setF_any x1 fun h2 x2 u2=>hQ h2 x2.tail (u1.trans u2))
end
open PySem PyProof.Rows PySem.SeqAt
theorem execs_app0 {M:Model} {Γ:Ctx} {env:Env} (b:List PySem.Stmt) {Q:Flow→Pos→Shared→Prop} {E:Value→Pos→Shared→Prop}:∀ (a:List PySem.Stmt) {p:Pos} {s:Shared},
  Sem.wp M Γ (execs a env) (fun f p' s₁=>match f with | .next=>Sem.wp M Γ (execs b env) Q E p' s₁ | f=>Q f p' s₁) E p s→Sem.wp M Γ (execs (a++b) env) Q E p s
 | [],_,_,h=>h
 | st::a,p,s,h=>by
  show Sem.wp M Γ (execs (st::(a++b)) env) Q E p s
  rw [execs_cons,Sem.wp_bind'] at h ⊢
  refine Sem.wp_mono M Γ _ (fun f p' s' h'=>?_) (fun _ _ _ h'=>h') _ _ h
  cases f with
  | next=>exact execs_app0 b a h'
  | _=>exact h'
theorem execs_app {M:Model} {A:Around} {env:Env} {E:Value→Shared→Prop} {Q:Flow→Shared→Prop} {s:Shared} {a b:List PySem.Stmt}
  (h:wpAny M A (execs a env) (fun f s₁=>match f with | .next=>wpAny M A (execs b env) Q E s₁ | f=>Q f s₁) E s):wpAny M A (execs (a++b) env) Q E s:=fun Γ p hΓ=>
 execs_app0 b a (Sem.wp_mono M Γ _ (fun f p' s' h'=>by
  cases f with
  | next=>exact h' Γ p' hΓ
  | _=>exact h') (fun _ _ _ h'=>h') _ _ (h Γ p hΓ))
inductive XIn (base:Heap) (fs:List Env) (K:Addr) (s₀:Shared) (e:Value) (s':Shared):Prop
 | mk (e':_) (h':_) (tk:_):(e = .ref e'∧s₀.heap.get? e' = none)→s' = { s₀ with heap:=h',toks:=tk }→FlyA base fs e' K h'→s₀.heap.UpToSlots h'→XIn base fs K s₀ e s'
noncomputable def CallX (P:PC) (l:Lv) (f:Nat) (vs:List AV) (K:Addr):Prop:=
 ∀ (A:Around) (s:Shared) (S:Sx) (xs:List Value) (x:Str) (a:Addr) (base:Heap) (outer:List Env),Aok l A→GOk P s.heap→P.nt.nm f = some x→P.ma x = some (.ref a)→S.prog = P.prog→S.w = P.w→SD S s.heap→VRels S [] s.heap vs xs →
  A.frames = some outer→base.StaysIn s.heap→s.heap.FunFrames base outer →
  codeAny (model P.prog P.w) A (.call (.ref a) ⟨xs,[]⟩) (fun r s'=>∃ e,r = .error e∧XIn base outer K s e s') s
section
variable {P:PC} {l:Lv} {A:Around} {env:Env} {names:List Str} {S:Sx} {ρ:List Addr} {loc:List (Option AV)} {H:AH} {s:Shared} {E:Value→Shared→Prop}
theorem raise_ok (ho:EnvOk env) (C:Cx P l A env names S ρ loc H s) (hh:A.handled = none) {c m:Str} (hg:isGlob env.kindOf c = true) {K Z:Addr} (hc:P.mg c = some (.ref K)) (X:XCls s.heap K Z) {np cp rp kp:Pos} {kk:Nat} {Q:Flow→Shared→Prop}
  (h:∀ h1 tk h' e vs,Kp s.heap h1→Heap.MadeExcOf h1 h' e (.ref K) vs→E (.ref e) { s with heap:=h',toks:=tk }) :
  wpAny (model P.prog P.w) A (exec (.Raise (some (.Call (.Name c np) [.Constant (.str m) kk kp] [] cp)) none rp) env) Q E s:=by
 unfold isGlob at hg
 simp at hg
 have hd:(c == ("__debug__" : Str)) = false:=by simpa using hg.2
 obtain ⟨_,N,mN,h1,⟨nm,q,bs,hdct,sn,sub,ab,col,dd,k0,k1,k2,k3,k5,rfl⟩,h2,h3⟩:=X.obj
 refine wpAny_Raise_call_subU (C:=K) (nm:=nm) (q:=q) (N:=N) (bs:=bs) (bm:=.ref Z::veMro) (hdct:=hdct) (sn:=sn) (sub:=sub) (ab:=ab) (col:=col) (dd:=dd) (k0:=k0) (k1:=k1) (k2:=k2) (k3:=k3) (k5:=k5) (mN:=mN) (bmB:=veMro)
  F.excBase_ValueError rfl F.excBase_ValueError rfl hh rfl (h3 _ (.tail _ (.head _))) (Calls.Name_function_global ho.1 hg.1 (Calls.loadGlobal_global (by rw [ho.2.1];exact C.gok.g) hc ⟨rfl,?_⟩) hd)
 have hargs:=args_ok (X:=fun _=>False) (E:=E) (pos:=cp) (fun e c h=>(expr_ok (l:=l) (rfl:P.nt = P.nt) 1 env names ho e c h).1) [.Constant (.str m) kk kp] [.const (.str m)] rfl (Q:=fun vs _=>vs = [.str m]) C exOk_any rfl
 refine Calls.evalArgs_plain (wpAny_mono hargs (fun vs s₂ hv=>?_) fun _ _ y=>y)
 obtain ⟨h1',tk,e,vs',G,rfl,k,f,X',V,q⟩:=hv
 have hl:=V.length
 rw [q] at hl
 exact ⟨rfl,(by show vs.length ≤ sizeLine;rw [← hl];exact (by decide:1 ≤ sizeLine)),k _ _ h1,h2.keeps k,(X.keeps k).tail.tail,fun h' e hm=>h _ _ _ _ _ k hm⟩
end
open PySem PyProof.Rows PySem.SeqAt
theorem UpToSlots.cell {h h':Heap} {c:Addr} {v:Option Value} (x:h.UpToSlots h') (i:h.IsCell c v):h'.IsCell c v:=by
 obtain ⟨o,e,d⟩:=i
 obtain ⟨sl,e'⟩:=x c o e fun vs q=>by rw [d] at q;cases q
 exact ⟨_,e',d⟩
theorem goes_cell {M:Model} {A:Around} {E:Value→Shared→Prop} {s:Shared} {env:Env} {n:Str} {pos:Pos} {c:Addr} {v:Option Value} {Q:Unit→Shared→Prop} (hk:env.scope.kind = .function) (hn:env.kindOf n = some .cell) (hc:env.cells.lookup n = some c) (hv:s.heap.IsCell c v)
  (h:∀ h',Heap.SameBut c s.heap h'→Q () { s with heap:=h' }):wpAny M A (do bindName env n .none;unbindBehindTheSuite env n pos) Q E s:=by
 refine wpAny_bind (wpAny_bindName (wpAny_storeName_cell hk hn hc hv fun h1 c1 s1=>?_))
 unfold unbindBehindTheSuite
 refine wpAny_onRaise ?_
 unfold unbindName
 refine wpAny_bind (wpAny_point (wpAny_bind ?_))
 unfold deleteName
 simp only [hn]
 refine wpAny_bind (wpAny_cellOf hc (wpAny_bind (wpAny_cellGet c1 ?_)))
 simp only [Option.isSome_some,if_true]
 exact wpAny_cellSet c1 fun h2 _ s2=>wpAny_point (h h2 (s1.trans s2))
noncomputable def UpBut (c:Addr) (h h':Heap):Prop:=∀ b o,b ≠ c→h.get? b = some o→(∀ vs,o.data ≠ .fields vs)→∃ sl,h'.get? b = some { o with slots:=sl }
theorem try_cell {P:PC} {A:Around} {env:Env} {s:Shared} {base:Heap} {outer:List Env} {K c:Addr} {v₀:Option Value} {z n:Str} {zp hp tp:Pos} {body suite:List PySem.Stmt} {b₀:PySem.Stmt} {Q:Flow→Shared→Prop} {E:Value→Shared→Prop}
  (ho:EnvOk env) (efr:env.frame = some env.locals) (hfr:A.frames = some (env::outer)) (hg:isGlob env.kindOf z = true) (hz:P.mg z = some (.ref P.sup)) (hn:env.kindOf n = some .cell) (hc:env.cells.lookup n = some c) (hcb:base.get? c = none) (hG:GOk P base) (XC:XCls base K P.sup) (hcl:s.heap.IsCell c v₀)
  (hbody:wpAny (model P.prog P.w) A (execs body env) (fun _ _=>False) (XIn base (env::outer) K s) s)
  (hsuite:∀ e h' tk,base.StaysIn h'→s.heap.get? e = none→UpBut c s.heap h'→XI h' e K→NoCtx h' e→h'.IsCell c (some (.ref e)) →
   wpAny (model P.prog P.w) (A.mark (some (.ref e))) (execs (b₀::suite) env) (fun f s'=>∃ h2 tk2,s' = { s with heap:=h2,toks:=tk2 }∧Kp h' h2∧∀ h3 tk3,base.StaysIn h3→(∀ b o,b ≠ c→h2.get? b = some o→h3.get? b = some o)→UpBut c s.heap h3→Q f { s with heap:=h3,toks:=tk3 }) (fun _ _=>False) { s with heap:=h',toks:=tk }) :
  wpAny (model P.prog P.w) A (exec (.Try body [.ExceptHandler (some (.Name z zp)) (some n) (b₀::suite) hp] [] [] tp) env) Q E s:=by
 refine wpAny_Try_except (wpAny_mono hbody (fun _ _ y=>y.elim) fun e s' hE=>?_)
 obtain ⟨e,h',tk,⟨rfl,hnew⟩,rfl,hfl,hup⟩:=hE
 refine note_any hfr efr hfl fun h₄ f₄ u₄=>setF_any f₄ fun h₅ f₅ u₅=>?_
 obtain ⟨oe,hoe,hoc⟩:=f₅.there
 unfold isGlob at hg
 simp at hg
 have hd:(z == ("__debug__" : Str)) = false:=by simpa using hg.2
 refine wpAny_handleBy_cons (codeAny_handlers_test (Calls.Name_function_global ho.1 hg.1 (Calls.loadGlobal_global (by rw [ho.2.1];exact hG.g.keeps f₅.1) hz ?_) hd)) (by intro q;cases q)
 refine matches_x (XC.keeps f₅.1) hoe hoc (codeAny_handlers_suite_as (setF_any f₅ fun h₆ f₆ u₆=>?_))
 have up6:=((hup.trans u₄).trans u₅).trans u₆
 obtain ⟨oe',hoe',hoc'⟩:=f₆.there
 have hcell:=UpToSlots.cell up6 hcl
 have hne:∀ b o,base.get? b = some o→b ≠ c:=fun b o q e=>by rw [e,hcb] at q;cases q
 have hec:e ≠ c:=fun q=>by
  obtain ⟨oc,e1,e2⟩:=hcell
  obtain ⟨ov,vs,g1,g2,_⟩:=f₆.noCtx
  rw [q,e1] at g1;cases g1
  rw [e2] at g2;cases g2
 refine wpAny_storeName_cell ho.1 hn hc hcell fun h₇ c₇ s₇=>?_
 refine wpAny_mono (hsuite e h₇ _ (fun b o q=>s₇.extBut b o (hne b o q) (f₆.1 b o q)) hnew (fun b o hb q hnf=>by obtain ⟨sl,q6⟩:=up6 b o q hnf;exact ⟨sl,s₇.extBut b _ hb q6⟩) ⟨oe',s₇.extBut e _ hec hoe',hoc'⟩ (f₆.noCtx.at fun o q=>s₇.extBut e o hec q) c₇) (fun f s₃ hs=>?_) fun _ _ y=>y.elim
 obtain ⟨h2,tk2,rfl,k,hQ⟩:=hs
 refine goes_cell ho.1 hn hc (c₇.keeps k) fun h₈ s₈=>hQ h₈ _ (fun b o q=>s₈.extBut b o (hne b o q) (k b o (s₇.extBut b o (hne b o q) (f₆.1 b o q)))) (fun b o hb q=>s₈.extBut b o hb q) fun b o hb q hnf=>?_
 obtain ⟨sl,q6⟩:=up6 b o q hnf
 exact ⟨sl,s₈.extBut b _ hb (k b _ (s₇.extBut b _ hb q6))⟩
open PySem PyProof.Rows PySem.SeqAt
theorem none_of {h h':Heap} {a:Addr} (k:Kp h h') (e:h'.get? a = none):h.get? a = none:=by
 cases q:h.get? a with
 | none=>rfl
 | some o=>rw [k a o q] at e;cases e
structure FX (K:FC) (base:Heap) (outer:List Env):Prop where
 hfr:K.A.frames = some (K.env::outer)
 efr:K.env.frame = some K.env.locals
 hst:base.StaysIn K.s₀.heap
 hff:K.s₀.heap.FunFrames base outer
noncomputable def XOut (K:FC) (base:Heap) (outer:List Env) (c:Addr) (e:Value) (s':Shared):Prop:=
 wpAny (model K.P.prog K.P.w) K.A (leaving K.env e) (fun _ s''=>XIn base outer c K.s₀ e s'') (fun _ _=>False) s'
section
variable {K:FC} {base:Heap} {outer:List Env} {ρ:List Addr} {loc:Loc} {H:AH} {s:Shared} {c:Addr} {e:Value} {s':Shared}
theorem Fr.same (F:Fr K ρ loc H s):∃ h tk,s = { K.s₀ with heap:=h,toks:=tk }:=by obtain ⟨_,_,I,_⟩:=F.ic;exact I.toInCall.same
theorem FX.here (x:FX K base outer) (F:Fr K ρ loc H s):base.StaysIn s.heap∧s.heap.FunFrames base (K.env::outer):=by
 obtain ⟨m,cm,I,_⟩:=F.ic
 have hLn:K.s₀.heap.get? K.env.locals = none:=Heap.get?_none_of_le I.toInCall.fresh
 have hLb:base.get? K.env.locals = none:=by
  cases q:base.get? K.env.locals with
  | none=>rfl
  | some o=>have:=x.hst _ _ q;rw [hLn] at this;cases this
 exact ⟨fun b o q=>F.keep b o (x.hst b o q),.cons (by rw [F.eok.1];decide) x.efr I.toInCall.ns hLb (x.hff.of_keeps fun b o q _=>⟨o,F.keep b o q,rfl⟩)⟩
theorem XOut.of_in (x:FX K base outer) (F:Fr K ρ loc H s) (h:XIn base (K.env::outer) c s e s'):XOut K base outer c e s':=by
 obtain ⟨e',h',tk,⟨rfl,hn⟩,rfl,fl,up⟩:=h
 obtain ⟨h0,tk0,rfl⟩:=F.same
 exact leave_any x.hfr x.efr fl fun h2 f2 u2=>⟨e',h2,tk,⟨rfl,none_of F.keep hn⟩,rfl,f2,((Heap.UpToSlots.of_keeps F.keep).trans up).trans u2⟩
theorem XOut.of_made (x:FX K base outer) (F:Fr K ρ loc H s) {h1 h':Heap} {tk:Nat} {a:Addr} {vs:List Value} (k:Kp s.heap h1) (hm:Heap.MadeExcOf h1 h' a (.ref c) vs):XOut K base outer c (.ref a) { s with heap:=h',toks:=tk }:=by
 obtain ⟨p1,p2⟩:=x.here F
 obtain ⟨h0,tk0,rfl⟩:=F.same
 exact leave_made x.hfr x.efr (fun b o q=>k b o (p1 b o q)) (p2.of_keeps fun b o q _=>⟨o,k b o q,rfl⟩) hm fun h2 f2 u2=>⟨a,h2,tk,⟨rfl,none_of F.keep (none_of k hm.new)⟩,rfl,f2,(Heap.UpToSlots.of_keeps fun b o q=>hm.keeps b o (k b o (F.keep b o q))).trans u2⟩
theorem rais_if (x:FX K base outer) (F:Fr K ρ loc H s) (hq:K.l.q = true) {n m:Str} (hg:isGlob K.env.kindOf n = true) (ho:K.P.own n c = some true) (hm:K.P.mg n = some (.ref c)) {t:PySem.Expr} {ct:CE} {N:Nat} (hc:compE K.P.nt N K.env.kindOf K.names t = some ct)
  (hw:wpE K.P K.l (fun _=>False) ct loc H (isB fun b _=>b = true)) {np cp rp kp ip:Pos} {kk:Nat} {els r:List PySem.Stmt} :
  wpAny (model K.P.prog K.P.w) K.A (execs (.If t [.Raise (some (.Call (.Name n np) [.Constant (.str m) kk kp] [] cp)) none rp] els ip::r) K.env) (fun _ _=>False) (XOut K base outer c) s:=by
 refine wpAny_execs_cons (wpAny_If (BP.then ((expr_ok (l:=K.l) (rfl:K.P.nt = K.P.nt) N K.env K.names F.eok t ct hc).2 K.A K.S ρ loc H s _ _ _ F.cx exOk_any hw) fun b h3 tk3 n3 G3 k3 f3 X3 q3=>?_))
 have q3':b = true:=q3
 subst q3'
 have F3:=F.kp (tk:=tk3) k3 f3 X3
 exact wpAny_execs_cons (raise_ok F3.eok F3.cx (F3.aok.1 hq) hg hm (F3.cx.gok.ow n c true ho).1 fun h1 tk h' a vs k hmade=>XOut.of_made x F3 k hmade)
end
section
variable {P:PC} {l:Lv} {A:Around} {env:Env} {names:List Str} {S:Sx} {ρ:List Addr} {loc:Loc} {H:AH} {s:Shared} {base:Heap} {fs:List Env} {K:Addr} {n:Nat}
theorem callX_here {f:Nat} {x:Str} {a:Addr} {vs vs':List AV} {xs:List Value} (C:Cx P l A env names S ρ loc H s) (hfr:A.frames = some fs) (hst:base.StaysIn s.heap) (hff:s.heap.FunFrames base fs) (hnm:P.nt.nm f = some x) (ha:P.ma x = some (.ref a)) (V:VRels S ρ s.heap vs xs) (R:Rens [] H vs vs') (hX:CallX P l f vs' K) :
  wpAny (model P.prog P.w) A (call (.ref a) xs) (fun _ _=>False) (XIn base fs K s) s:=
 wpAny_call (codeAny_mono (hX A s S xs x a base fs C.aok C.gok hnm ha C.pp C.pw C.sd (V.frz C.sim R) hfr hst hff) fun r s' hr=>by
  obtain ⟨e,rfl,h⟩:=hr
  exact h)
theorem XIn.after {h1:Heap} {tk:Nat} {e:Value} {s':Shared} (k:Kp s.heap h1) (x:XIn base fs K { s with heap:=h1,toks:=tk } e s'):XIn base fs K s e s':=by
 obtain ⟨e',h',tk',⟨rfl,hn⟩,rfl,fl,up⟩:=x
 exact ⟨e',h',tk',⟨rfl,none_of k hn⟩,rfl,fl,(Heap.UpToSlots.of_keeps k).trans up⟩
theorem callX_any {g:Str} {gi:Nat} {gp cp:Pos} {a0:PySem.Expr} {args:List PySem.Expr} {c0:CE} {cs:List CE} (C:Cx P l A env names S ρ loc H s) (ho:EnvOk env) (hfr:A.frames = some fs) (hst:base.StaysIn s.heap) (hff:s.heap.FunFrames base fs)
  (hg:isGlob env.kindOf g = true) (hgi:P.nt.fns[gi]? = some g) (he:allSome ((a0::args).map (compE P.nt n env.kindOf names)) = some (c0::cs))
  (hw:wpEs P l (fun _=>False) (c0::cs) loc H fun vs H=>∃ vs',Rens [] H vs vs'∧CallX P l gi vs' K):wpAny (model P.prog P.w) A (eval (.Call (.Name g gp) (a0::args) [] cp) env) (fun _ _=>False) (XIn base fs K s) s:=by
 obtain ⟨a,o,⟨ea,ea'⟩,eo,fd,efd⟩:=C.gok.fn gi g hgi
 unfold isGlob at hg
 simp at hg
 have hd:(g == ("__debug__" : Str)) = false:=by simpa using hg.2
 obtain ⟨c1,t1,e1,e2,e3⟩:=allSome_cons he
 refine Call_ (Calls.Name_function_global ho.1 hg.1 (Calls.loadGlobal_global (by rw [ho.2.1];exact C.gok.g) ea ?_) hd)
 refine callWith_def efd (EPs.then (args_ok (X:=fun _=>False) (fun e c h=>(expr_ok (l:=l) (rfl:P.nt = P.nt) n env names ho e c h).1) (a0::args) (c0::cs) he C exOk_any hw) fun xs h1 tk1 n1 vs G1 k1 f1 X1 V1 qq=>?_) (not_starred e1 args)
 obtain ⟨vs',R,hX⟩:=qq
 exact ⟨k1 _ _ eo,wpAny_mono (callX_here (C.kp (tk:=tk1) k1 f1 X1) hfr (fun b o q=>k1 b o (hst b o q)) (hff.of_keeps fun b o q _=>⟨o,k1 b o q,rfl⟩) (NT.nm_of hgi) ea' V1 R hX) (fun _ _ y=>y) fun e s' x=>x.after k1⟩
theorem mthX_any {o:PySem.Expr} {m:Str} {f:Nat} {ap p:Pos} {es:List PySem.Expr} {c:CE} {cs:List CE} (C:Cx P l A env names S ρ loc H s) (ho:EnvOk env) (hfr:A.frames = some fs) (hst:base.StaysIn s.heap) (hff:s.heap.FunFrames base fs)
  (e1:compE P.nt n env.kindOf names o = some c) (e2:allSome (es.map (compE P.nt n env.kindOf names)) = some cs) (hl:(ap.endLine == p.line) = true) (hlen:cs.length ≤ 20) (hnm:P.nt.nm f = some (qualOf P m)) (hf:P.nt.fns.length ≤ f)
  (hw:wpE P l (fun _=>False) c loc H fun v H₁=>onObj P v m <| wpEs P l (fun _=>False) cs loc H₁ fun vs H₂=>∃ vs',Rens [] H₂ (v::vs) vs'∧CallX P l f vs' K) :
  wpAny (model P.prog P.w) A (eval (.Call (.Attribute o m ap) es [] p) env) (fun _ _=>False) (XIn base fs K s) s:=by
 have ih:=fun e c h=>(expr_ok (l:=l) (rfl:P.nt = P.nt) n env names ho e c h).1
 have hln:=allSome_len e2
 refine call_mth (base_id e1 m) ?_ hl ?_
 ·rw [star_all es cs e2]
  show (true && true && decide (es.length + 0 + 0 < 30)) = true
  simp;(first | lia | omega)
 refine EP.then (ih o c e1 A S ρ loc H s _ (fun _=>False) _ C exOk_any hw) fun x h1 tk1 n1 v1 G1 k1 f1 X1 V1 qz=>?_
 obtain ⟨c,ks,vs,rfl,hc,hm,q⟩:=onObj_of qz
 have C1:=C.kp (tk:=tk1) k1 f1 X1
 have hst1:base.StaysIn h1:=fun b o q=>k1 b o (hst b o q)
 have hff1:h1.FunFrames base fs:=hff.of_keeps fun b o q _=>⟨o,k1 b o q,rfl⟩
 cases V1.iObj with
 | mk ha hs hd hs' hmap he hv=>
 intro pl
 obtain ⟨N,nm,qq,bs,sn,sub,col,dd,k0,k1',k2,k3,k5,hN,hC,_,hng,hnh,_,_,_⟩:=(C1.gok.oc c hc).all
 obtain ⟨a,ob,fd,em,ea,eo,ec,efd⟩:=C1.gok.mat hnm hf
 refine method_of hC hN hng hnh em eo ec (typeLookup_type _ _) hmap.inst ((he m).trans (lookup_off hm)) ?_
 show wpAny _ _ (callWith p (.ref a) [_] _ []) _ _ _
 cases es with
 | nil=>
  cases e2
  obtain ⟨vs',R,hX⟩:=q
  exact callWith_meth0 efd eo (wpAny_mono (callX_here C1 hfr hst1 hff1 hnm ea (.cons V1 .nil) R hX) (fun _ _ y=>y.elim) fun e s' x=>x.after k1)
 | cons e r=>
  obtain ⟨c0,t0,e3,e4,rfl⟩:=allSome_cons e2
  refine callWith_meth efd eo (EPs.then (args_ok (X:=fun _=>False) ih (e::r) (c0::t0) e2 C1 exOk_any q) fun xs h2 tk2 n2 us G2 k2' f2 X2 V2 qq=>?_) (not_starred e3 r)
  obtain ⟨vs',R,hX⟩:=qq
  exact ⟨k2',wpAny_mono (callX_here (C1.kp (tk:=tk2) k2' f2 X2) hfr (fun b o q=>k2' b o (hst1 b o q)) (hff1.of_keeps fun b o q _=>⟨o,k2' b o q,rfl⟩) hnm ea (.cons (V1.kp k2' f2) V2) R hX) (fun _ _ y=>y.elim) fun e s' x=>(x.after k2').after k1⟩
end
inductive PreIs (P:PC) (f:Nat) (ps rest:List Str) (k:Nat) (cpre:List CS) (Sh:(Str→Option NameKind)→List PySem.Stmt→Prop):Prop
 | mk (x:_) (d:_) (n:_):P.nt.nm f = some x→P.defs[f]? = some d→defOk d.scope ps rest = true→allSome ((d.body.take k).map (compS P.nt n (fun x=>d.scope.names.lookup x) (ps++rest))) = some cpre→Sh (fun x=>d.scope.names.lookup x) (d.body.drop k)→(∀ xs pm code doc,xs.length = ps.length→bindArgs (methDef d.name x d.params d.body d.scope pm code doc) ⟨xs,[]⟩ = pure (ps.zip xs))→PreIs P f ps rest k cpre Sh
theorem PreIs.call {P:PC} {l:Lv} {f:Nat} {ps rest:List Str} {k:Nat} {cpre:List CS} {Sh:(Str→Option NameKind)→List PySem.Stmt→Prop} {vs:List AV} {c:Addr} {R:Loc→AH→Prop} (F:PreIs P f ps rest k cpre Sh) (hk:0 < l.k) (hl:vs.length = ps.length)
  (hw:wpSs P ⟨l.k - 1,l.q,none⟩ cpre (vs.map some++List.replicate rest.length none) [] R (fun _ _=>False) (fun _ _ _=>False))
  (hpost:∀ (K:FC) (base:Heap) (outer:List Env) (ρ:List Addr) (loc:Loc) (H:AH) (s:Shared) (b:List PySem.Stmt),K.P = P→K.l = ⟨l.k - 1,l.q,none⟩→K.names = ps++rest→Sh K.env.kindOf b→FX K base outer→Fr K ρ loc H s→R loc H →
   wpAny (model K.P.prog K.P.w) K.A (execs b K.env) (fun _ _=>False) (XOut K base outer c) s):CallX P l f vs c:=by
 obtain ⟨x,d,n,hf,hd,hs,hcp,h5,hb⟩:=F
 intro A s S xs x' a base outer hA hG hx ha hpp hpw hsd V hfr hst hff
 refine enter_ok hf hd hk hb hs hl hA hG hx ha hpp hpw hsd V fun env s₁ S' efr ekd hEok hsub hp' hw' F=>?_
 rw [← List.take_append_drop k d.body]
 refine execs_app (wpAny_mono (body_ok (P:=P) (l:=⟨l.k - 1,l.q,none⟩) rfl hEok (by rw [ekd];exact hcp) (A.deeper env) S s [] S' [] _ [] s₁ _ _ _ _ F xOk_any hw) (fun fl s' hfl=>?_) fun _ _ y=>y)
 cases fl with
 | ret rv=>obtain ⟨_,_,_,_,_,_,_,q⟩:=hfl;exact q.elim
 | brk=>exact hfl.elim
 | cont=>exact hfl.elim
 | next=>
 obtain ⟨ρ2,loc2,H2,m2,F2,q2⟩:=hfl
 exact wpAny_mono (hpost ⟨P,⟨l.k - 1,l.q,none⟩,A.deeper env,env,ps++rest,S,s,[],S'⟩ base outer ρ2 loc2 H2 s' _ rfl rfl rfl (by rw [ekd];exact h5) ⟨Around.frames_deeper hfr,efr,hst,hff⟩ F2 q2) (fun _ _ y=>y.elim) fun e s3 he=>wpAny_mono he (fun _ s4 h4=>⟨e,rfl,h4⟩) fun _ _ y=>y.elim
inductive ShIf (nt:NT) (names:List Str) (c:Str) (ct:CE) (kd:Str→Option NameKind) (b:List PySem.Stmt):Prop
 | mk (t:_) (np:_) (m:_) (kk:_) (kp:_) (cp:_) (rp:_) (els:_) (ip:_) (n:_):b = .If t [.Raise (some (.Call (.Name c np) [.Constant (.str m) kk kp] [] cp)) none rp] els ip::b.drop 1→isGlob kd c = true→compE nt n kd names t = some ct→ShIf nt names c ct kd b
inductive ShCall (nt:NT) (names:List Str) (gi:Nat) (c0:CE) (cs:List CE) (kd:Str→Option NameKind) (b:List PySem.Stmt):Prop
 | mk (g:_) (gp:_) (a0:_) (args:_) (cp:_) (ep:_) (n:_):b = .Expr (.Call (.Name g gp) (a0::args) [] cp) ep::b.drop 1→isGlob kd g = true→nt.fns[gi]? = some g→allSome ((a0::args).map (compE nt n kd names)) = some (c0::cs)→ShCall nt names gi c0 cs kd b
section
variable {K:FC} {base:Heap} {outer:List Env} {ρ:List Addr} {loc:Loc} {H:AH} {s:Shared} {c:Addr} {n:Str} {b:List PySem.Stmt} {nt:NT} {names:List Str}
theorem ShIf.rais {ct:CE} (h:ShIf nt names n ct K.env.kindOf b) (hnt:K.P.nt = nt) (hn:K.names = names) (x:FX K base outer) (F:Fr K ρ loc H s) (hq:K.l.q = true) (ho:K.P.own n c = some true) (hm:K.P.mg n = some (.ref c)) (hw:wpE K.P K.l (fun _=>False) ct loc H (isB fun b _=>b = true)) :
  wpAny (model K.P.prog K.P.w) K.A (execs b K.env) (fun _ _=>False) (XOut K base outer c) s:=by
 subst hnt hn
 obtain ⟨_,_,_,_,_,_,_,_,_,_,h1,h2,h3⟩:=h
 rw [h1]
 exact rais_if x F hq h2 ho hm h3 hw
theorem ShCall.rais {gi:Nat} {c0:CE} {cs:List CE} (h:ShCall nt names gi c0 cs K.env.kindOf b) (hnt:K.P.nt = nt) (hn:K.names = names) (x:FX K base outer) (F:Fr K ρ loc H s) (hw:wpEs K.P K.l (fun _=>False) (c0::cs) loc H fun vs H=>∃ vs',Rens [] H vs vs'∧CallX K.P K.l gi vs' c) :
  wpAny (model K.P.prog K.P.w) K.A (execs b K.env) (fun _ _=>False) (XOut K base outer c) s:=by
 subst hnt hn
 obtain ⟨_,_,_,_,_,_,_,h1,h2,h3,h4⟩:=h
 rw [h1]
 obtain ⟨p1,p2⟩:=x.here F
 exact wpAny_execs_cons (wpAny_Expr_any (wpAny_mono (callX_any F.cx F.eok x.hfr p1 p2 h2 h3 h4 hw) (fun _ _ y=>y.elim) fun e s' y=>XOut.of_in x F y) (by unfold interactive;rw [F.eok.1];rfl) (swaps_false rfl))
end
open PySem PyProof.Rows PySem.SeqAt PySem.W
section
variable {P:PC} {l:Lv} {A:Around} {env:Env} {names:List Str} {S:Sx} {ρ:List Addr} {loc:Loc} {H:AH} {s:Shared} {base:Heap} {fs:List Env} {K:Addr} {n:Nat}
theorem ret_raise {k c:PySem.Expr} {v:AV} {kk:Nat} {tp rp:Pos} {r:List PySem.Stmt} (C:Cx P l A env names S ρ loc H s) (ho:EnvOk env) (hk:compE P.nt n env.kindOf names k = some (.const v)) (hc:∀ r,starEach (c::r) env = (false,eval c env)::starEach r env)
  (h:∀ h1 tk e,Kp s.heap h1→Cx P l A env names S (ρ++e) loc H { s with heap:=h1,toks:=tk }→wpAny (model P.prog P.w) A (eval c env) (fun _ _=>False) (XIn base fs K { s with heap:=h1,toks:=tk }) { s with heap:=h1,toks:=tk }) :
  wpAny (model P.prog P.w) A (execs (.Return (some (.Tuple [k,c] kk tp)) rp::r) env) (fun _ _=>False) (XIn base fs K s) s:=by
 refine wpAny_execs_cons (wpAny_Return_some (Tuple_ (args_cons (EP.then ((expr_ok (l:=l) (rfl:P.nt = P.nt) n env names ho k _ hk).1 A S ρ loc H s (fun _ H'=>H' = H) (fun _=>False) _ C exOk_any rfl) fun y h1 tk1 n1 v1 G1 k1 f1 X1 V1 eG=>?_) (not_starred hk _))))
 have C1:=C.kp (tk:=tk1) k1 f1 X1
 rw [eG] at C1
 exact args_cons (wpAny_mono (h h1 tk1 n1 k1 C1) (fun _ _ y=>y.elim) fun e s' x=>x.after k1) (hc _)
end
theorem comp_word {P:PC} {k n fo:Nat} {A:Around} {env:Env} {S:Sx} {s:Shared} {e K:Addr} {nm wd word:Str} {wp wp' pos:Pos} {it tst:PySem.Expr} {scope:Scope} {E:Value→Shared→Prop}
  (C:Cx P ⟨k,false,none⟩ A env [nm] S [] [some (.exc K)] [] s) (ho:EnvOk env) (hh:A.handled = some (.ref e)) (hx:NoCtx s.heap e) (hk:0 < k)
  (hi:compE P.nt n env.kindOf [nm] it = some (.tup [.const (.str "fold"),.const (.str "nothing")])) (hfn:freeNames scope = [nm]) (hok:compOk scope env.kindOf [wd] = true) (he:compE P.nt n (compKd scope env.kindOf) [nm,wd] (.Name wd wp) = some (.var 1)) (ht:compE P.nt n (compKd scope env.kindOf) [nm,wd] tst = some (.call fo [.var 0,.var 1]))
  (hs:∀ due:Str,due = "fold" ∨ due = "nothing"→CallJ P ⟨k,false,none⟩ fo [.exc K,.str due] (fun v _=>v = .bool (decide (due = word))) fun _=>False) (hw:word = "fold" ∨ word = "nothing") :
  wpAny (model P.prog P.w) A (eval (.ListComp (.Name wd wp) [⟨.Name wd wp',it,[tst],0⟩] scope pos) env) (EP S [] [] s fun v H'=>v = .ref 0∧H' = [[.str word]]) E s:=by
 obtain ⟨h1,h2,h3,h4,h5⟩:=compOk_spec hok
 obtain ⟨cl,ecl,hcl⟩:=closure_ok (env:=env) (scope:=scope) fun x hx=>ho.2.2.2 x (h5 x hx).1
 have hIf:∀ (Cc:Addr),EnvOk (compEnvC scope cl Cc env):=fun Cc=>compEnv_ok ho h1 h2 hcl
 have kdc:∀ (Cc:Addr),(compEnvC scope cl Cc env).kindOf = compKd scope env.kindOf:=fun Cc=>compEnv_kd scope env cl Cc ho.1
 have ih:=fun (env:Env) (names:List Str) (ho:EnvOk env) e c h=>expr_ok (P:=P) (l:=⟨k,false,none⟩) rfl n env names ho e c h
 show wpAny _ A (comprehension (.ListComp (.Name wd wp) [⟨.Name wd wp',it,[tst],0⟩] scope pos) scope env (firstIterPos [⟨.Name wd wp',it,[tst],0⟩] pos) (newList []) false (eval it env) none) _ _ s
 refine wpAny_comprehension_free (g:=⟨.Name wd wp',it,[tst],0⟩) (gs:=[]) rfl (fun x=>folded_id hi x) ecl h1 h3 ?_
 refine wpAny_mono ((ih env _ ho it _ hi).1 A S [] _ [] s (fun v H'=>v = .tup [.str "fold",.str "nothing"]∧H' = []) (fun _=>False) _ C exOk_any ⟨by decide,rfl,rfl⟩) (fun x s₁ hx1=>?_) fun _ _ y=>y
 refine hidQ fun Q2 _ hQ2 _=>?_
 obtain ⟨hh1,tk1,n1,v1,G1,rfl,k1,f1,X1,V1,rfl,eG⟩:=hx1
 have C1:=C.kp (tk:=tk1) k1 f1 X1
 have eG':G1 = []:=eG
 subst eG'
 have en:n1 = []:=List.length_eq_zero_iff.mp X1.len
 subst en
 cases V1.iTup with
 | mk ha hs' hp hv=>
 rename_i t items
 obtain ⟨oe,us,g1,g2,g3⟩:=hx
 have hlt:t < hh1.objs.size:=by obtain ⟨o,ho⟩:=hp.get;exact Heap.lt_size ho
 have hle:e < hh1.objs.size:=Heap.lt_size (k1 _ _ g1)
 have e3:=hv.length
 simp only [Array.length_toList] at e3
 have W:=Walks.tupleH (prog:=P.prog) (w:=P.w) hh hh1.objs.size t (Nat.ne_of_lt hlt) (Nat.ne_of_gt hle) items
 rw [← e3] at W
 refine wpAny_pyIter_tuple hp.isTuple (hQ2 _ _ ?_)
 clear hQ2
 refine comp_core (it:=it) (pos:=pos) (tk₂:=tk1) (txs:=[wd]) (cap:=[0]) (base:=[some (.exc K)]) (nv:=0) (cs:=[.call fo [.var 0,.var 1]]) (ce:=.var 1) (items:=[.str "fold",.str "nothing"]) (its:=[.str "fold",.str "nothing"]) (X:=fun _=>False) (h₂:=hh1.push _)
  (CI:=fun r done G=>G = []∧(∀ x ∈ r,∃ due:Str,x = .str due∧(due = "fold" ∨ due = "nothing"))∧done++r.filter (fun x=>match x with | .str d=>decide (d = word) | _=>false) = [.str word])
  (St':=fun x r done G=>G = []∧(∀ x ∈ r,∃ due:Str,x = .str due∧(due = "fold" ∨ due = "nothing"))∧(∃ d,x = .str d)∧(done++[x])++r.filter (fun x=>match x with | .str d=>decide (d = word) | _=>false) = [.str word])
  (K:=fun vs G=>vs = [.str word]∧G = []) C1 ho h1 h2 hcl h5 (by rw [hfn];simp [allSome,idxOf]) h4 rfl (List.nodup_cons.mpr ⟨(fun h=>by cases h),List.nodup_nil⟩) (.inl rfl)
  (fun Cc=>(ih _ _ (hIf Cc) _ _ (by rw [kdc,hfn];exact he)).1) (fun Cc j e c a b=>?_) rfl (Nat.le_refl _) (by decide) (.cons (.str _) (.cons (.str _) .nil)) (.cons rfl (.exc K) .nil) W ⟨⟨_,Heap.get?_push_size _ rfl,rfl,rfl⟩,hp.isTuple.at fun o e=>Heap.get?_push_of_some _ e,⟨oe,us,Heap.get?_push_of_some _ (k1 _ _ g1),g2,g3⟩⟩ (push_kp _ _) (fun b hb=>by simpa using hb) (size_none _) (fun b hb=>?_)
  (fun i y _ hy=>hv.getR (by simpa using hy)) (fun i h st=>by obtain ⟨o,ho,hc,_⟩:=st.1;exact ⟨o,ho,_,hc,by decide +kernel⟩) ⟨rfl,?_,?_⟩ ?_ ?_ ?_ ?_
 ·cases j with
  | succ j=>simp at a
  | zero=>cases a;cases b;exact (ih _ _ (hIf Cc) _ _ (by rw [kdc,hfn];exact ht)).2
 ·rw [Heap.size_push]
  simp only [List.mem_cons,List.not_mem_nil,or_false] at hb
  rcases hb with rfl | rfl | rfl
  ·exact Nat.lt_succ_self _
  ·exact Nat.lt_succ_of_lt hlt
  ·exact Nat.lt_succ_of_lt hle
 ·intro x hx
  rcases List.mem_cons.mp hx with rfl | hx
  ·exact ⟨_,rfl,.inl rfl⟩
  ·exact ⟨_,List.mem_singleton.mp hx,.inr rfl⟩
 ·rcases hw with rfl | rfl<;>rfl
 ·rintro x r done G ⟨rfl,hr,hd⟩
  obtain ⟨due,rfl,hdue⟩:=hr x (.head _)
  refine ⟨_,rfl,hk,⟨[.exc K,.str due],.cons (.exc K) (.cons (.str _) .nil),(hs due hdue).mono fun v Hc q=>⟨.inl rfl,?_⟩⟩⟩
  subst q
  show if decide (due = word) = true then _ else _
  by_cases hc:due = word
  ·rw [decide_eq_true hc]
   refine ⟨rfl,fun y hy=>hr y (.tail _ hy),⟨_,rfl⟩,?_⟩
   rw [List.filter_cons_of_pos (by simp [hc])] at hd
   rw [List.append_assoc]
   exact hd
  ·rw [decide_eq_false hc]
   refine ⟨rfl,fun y hy=>hr y (.tail _ hy),?_⟩
   rw [List.filter_cons_of_neg (by simp [hc])] at hd
   exact hd
 ·rintro x r done G bx hb ⟨rfl,hr,⟨d,rfl⟩,hd⟩
  cases hb
  rw [w_var]
  show opt (some (AV.str d)) _
  rw [opt_some]
  exact eltK.frz (.str _) (.inr (.str _)) ⟨rfl,hr,hd⟩
 ·rintro done G ⟨rfl,_,hd⟩
  exact ⟨by simpa using hd,rfl⟩
 ·rintro D Cc h' tk m ys vs e' G a1 a2 a3 a4 a5 a6 fe a7 a8 a9 ⟨rfl,rfl⟩
  obtain ⟨t1,t2,t3,t4⟩:=comp_tail C1 a1 a4 a6 fe a7 a8
  exact ⟨m,a5,fun h'' hs=>EP.after (G:=[]) (tk₁:=tk1) k1 f1 (comp_last (Q:=fun v H'=>v = .ref 0∧H' = [[.str word]]) (H:=[]) (G:=[]) (vs:=[.str word]) t1 t3 t4 a3 a9 ⟨rfl,rfl⟩ hs)⟩
inductive DoneIs (P:PC) (f:Nat) (ps rest:List Str) (fb ft fo:Nat):Prop
 | mk (x:_) (d:_) (n:_) (t:_) (k1:_) (o1:_) (ap1:_) (p1:_) (kk1:_) (tp1:_) (rp1:_) (ip:_) (k2:_) (o2:_) (ap2:_) (a2:_) (p2:_) (kk2:_) (tp2:_) (rp2:_) (zp:_) (k3:_) (wp:_) (wp':_) (it:_) (tst:_) (scope:_) (pos:_) (kk4:_) (tp4:_) (rp3:_) (hp:_) (tp:_):P.nt.nm f = some x→P.defs[f]? = some d→defOk d.scope ps rest = true→d.body = [.Try [.If t [.Return (some (.Tuple [k1,.Call (.Attribute o1 "back" ap1) [] [] p1] kk1 tp1)) rp1] [] ip,.Return (some (.Tuple [k2,.Call (.Attribute o2 "take" ap2) [a2] [] p2] kk2 tp2)) rp2] [.ExceptHandler (some (.Name "FoldError" zp)) (some "_law_error") [.Return (some (.Tuple [k3,.ListComp (.Name "_law_word" wp) [⟨.Name "_law_word" wp',it,[tst],0⟩] scope pos] kk4 tp4)) rp3] hp] [] [] tp]→(isGlob (fun x=>d.scope.names.lookup x) "FoldError" = true∧d.scope.names.lookup ("_law_error" : Str) = some .cell)→(compE P.nt n (fun x=>d.scope.names.lookup x) (ps++rest) t = some (.cmp .Is (.var 1) (.const .none))∧compE P.nt n (fun x=>d.scope.names.lookup x) (ps++rest) k1 = some (.const (.str "told"))∧compE P.nt n (fun x=>d.scope.names.lookup x) (ps++rest) o1 = some (.var 0)∧(ap1.endLine == p1.line) = true)→(compE P.nt n (fun x=>d.scope.names.lookup x) (ps++rest) k2 = some (.const (.str "told"))∧compE P.nt n (fun x=>d.scope.names.lookup x) (ps++rest) o2 = some (.var 0)∧compE P.nt n (fun x=>d.scope.names.lookup x) (ps++rest) a2 = some (.var 1)∧(ap2.endLine == p2.line) = true)→(compE P.nt n (fun x=>d.scope.names.lookup x) ["_law_error"] k3 = some (.const (.str "refused"))∧compE P.nt n (fun x=>d.scope.names.lookup x) ["_law_error"] it = some (.tup [.const (.str "fold"),.const (.str "nothing")])∧freeNames scope = ([("_law_error" : Str)]:List Str)∧compOk scope (fun x=>d.scope.names.lookup x) ["_law_word"] = true∧compE P.nt n (compKd scope fun x=>d.scope.names.lookup x) ["_law_error","_law_word"] (.Name "_law_word" wp) = some (.var 1)∧compE P.nt n (compKd scope fun x=>d.scope.names.lookup x) ["_law_error","_law_word"] tst = some (.call fo [.var 0,.var 1]))→(P.nt.nm fb = some (qualOf P "back")∧P.nt.nm ft = some (qualOf P "take")∧P.nt.fns.length ≤ fb∧P.nt.fns.length ≤ ft)→(∀ xs pm code doc,xs.length = ps.length→bindArgs (methDef d.name x d.params d.body d.scope pm code doc) ⟨xs,[]⟩ = pure (ps.zip xs))→DoneIs P f ps rest fb ft fo
theorem FunFrames.ofAll {h base:Heap}:∀ {fr:List (Env × Obj)},(∀ q ∈ fr,q.1.scope.kind ≠ .module∧∃ L o,q.1.frame = some L∧base.get? L = none∧h.get? L = some o∧∀ vs,o.data ≠ .fields vs)→h.FunFrames base (fr.map (·.1))
 | [],_=>trivial
 | q::_,x=>⟨(x q (.head _)).1,(x q (.head _)).2,FunFrames.ofAll fun z hz=>x z (.tail _ hz)⟩
theorem done_raise {P:PC} {l:Lv} {f fb ft fo:Nat} {ps rest:List Str} {w v:AV} {H:AH} {K c:Addr} {ks:List Str} {us:List AV} {t0 word:Str} (D:DoneIs P f ps rest fb ft fo) (hp:ps.length = 2) (hr:rest.length = 1) (hk:1 < l.k)
  (hz:P.mg "FoldError" = some (.ref P.sup)) (ho:P.own t0 K = some true) (hw:w = .obj c ks us∧P.cls = some c∧("back" : Str) ∉ ks∧("take" : Str) ∉ ks)
  (hX:if isNone v = true then (∃ vs',Rens [] H [w] vs'∧CallX P ⟨l.k - 1,l.q,none⟩ fb vs' K) else ∃ vs',Rens [] H [w,v] vs'∧CallX P ⟨l.k - 1,l.q,none⟩ ft vs' K)
  (hs:∀ due:Str,due = "fold" ∨ due = "nothing"→CallJ P ⟨l.k - 1,false,none⟩ fo [.exc K,.str due] (fun v _=>v = .bool (decide (due = word))) fun _=>False) (hwd:word = "fold" ∨ word = "nothing") :
  CallR P l f [w,v] H (fun r H'=>r = .tup [.str "refused",.fl [.str word]]∧H' = H):=by
 obtain ⟨rfl,hcl,nb,nt⟩:=hw
 refine hid fun _ kh=>?_
 obtain ⟨x,d,n,t,k1,o1,ap1,p1,kk1,tp1,rp1,ip,k2,o2,ap2,a2,p2,kk2,tp2,rp2,zp,k3,wp,wp',it,tst,scope,pos,kk4,tp4,rp3,hp',tp,hf,hd,hsc,hbody,⟨hg,hn⟩,⟨c1,c2,c3,c4⟩,⟨d1,d2,d3,d4⟩,⟨e1,e2,e3,e4,e5,e6⟩,⟨m1,m2,m3,m4⟩,hb⟩:=D
 refine kh ?_
 clear kh
 intro A s S ρ xs x' a base fr hA hG hx ha hpp hpw hsd X V hfr hbs hbz hbr hq hall
 refine enterR hf hd (Nat.lt_trans (by decide) hk) hb hsc (by rw [hp];rfl) hA hG hx ha hpp hpw hsd X V hfr hbs hbz hbr hq fun env s₁ S' efr ekd hEok hsub hpS hwS hks F=>?_
 obtain ⟨kp1,hnew⟩:=hks
 refine hidQ fun QQ _ hQQ _=>?_
 refine hid fun _ kh=>?_
 obtain ⟨m,cm,I,_⟩:=F.ic
 have hnk:env.scope.kind ≠ .module:=by rw [hEok.1];decide
 have hn':env.kindOf "_law_error" = some .cell:=by rw [ekd];exact hn
 obtain ⟨cc,hcc⟩:=hEok.2.2.2 _ hn'
 have hccm:cc ∈ env.cells.map (·.2):=List.mem_map.mpr ⟨_,mem_of_lookup hcc,rfl⟩
 have hcS:cc ∈ S'.ad:=F.hC _ _ (mem_of_lookup hcc)
 obtain ⟨hs1,tk1,es1⟩:=F.same
 refine kh ?_
 clear kh
 rw [hbody]
 let hid:=env.locals::cc::fr.map (·.1.locals)
 have off:∀ b o,s.heap.get? b = some o→(∀ q ∈ fr,b ≠ q.1.locals)→b ∉ hid:=fun b o q h1 hm=>by
  rcases List.mem_cons.mp hm with rfl | hm
  ·rw [hnew _ (.head _)] at q;cases q
  ·rcases List.mem_cons.mp hm with rfl | hm
   ·rw [hnew _ (.tail _ hccm)] at q;cases q
   ·obtain ⟨z,hz,e⟩:=List.mem_map.mp hm
    exact h1 z hz e.symm
 have hB:Kp base (hideAll s₁.heap hid):=fun b o q=>hideAll_get _ (kp1 b o (hbs b o q)) (off b o (hbs b o q) fun z hz e=>by rw [e,(hq z hz).2.1.2] at q;cases q)
 have hG':=hG.kp hB
 have hst:(hideAll s₁.heap hid).StaysIn s₁.heap:=fun b o q=>of_hideAll _ q
 have hfs:(A.deeper env).frames = some (env::fr.map (·.1)):=Around.frames_deeper hfr
 have hff:s₁.heap.FunFrames (hideAll s₁.heap hid) (env::fr.map (·.1)):=.cons hnk efr I.toInCall.ns (hideAll_none _ (.head _)) (FunFrames.ofAll fun q hm=>by
  obtain ⟨b1,b2,⟨es,ep,b3,_⟩,b4⟩:=hq q hm
  exact ⟨b1.1,_,q.2,b1.2,hideAll_none _ (.tail _ (.tail _ (List.mem_map.mpr ⟨q,hm,rfl⟩))),kp1 _ _ b4,fun vs e=>by rw [b3] at e;cases e⟩)
 have eloc:([.obj c ks us,v]:List AV).map some++List.replicate rest.length none = [some (.obj c ks us),some v,none]:=by rw [hr];rfl
 have C:=F.cx
 rw [eloc] at C
 refine wpAny_execs_cons (try_cell (outer:=fr.map (·.1)) (base:=hideAll s₁.heap hid) (K:=K) hEok efr hfs (by rw [ekd];exact hg) hz hn' hcc (hideAll_none _ (.tail _ (.head _))) hG' (hG'.ow t0 K true ho).1 (I.cell _ _ hcc) ?_ ?_)
 ·refine wpAny_execs_cons (wpAny_If (wpAny_mono ((expr_ok (rfl:P.nt = P.nt) n env (ps++rest) hEok t (.cmp .Is (.var 1) (.const .none)) (by rw [ekd];exact c1)).2 (A.deeper env) S' ρ _ H s₁ (fun b H'=>b = isNone v∧H' = H) (fun _=>False) _ C exOk_any ⟨rfl,rfl⟩) (fun b s₂ hb2=>?_) fun _ _ y=>y))
  refine Mine.hid fun _ kh=>?_
  obtain ⟨h2,tk2,n2,G2,rfl,k2',f2,X2,rfl,eG⟩:=hb2
  refine kh ?_
  clear kh
  have C2:=C.kp (tk:=tk2) k2' f2 X2
  rw [eG] at C2
  have hst2:(hideAll s₁.heap hid).StaysIn h2:=fun b o q=>k2' b o (hst b o q)
  have hff2:=hff.of_keeps (h':=h2) fun b o q _=>⟨o,k2' b o q,rfl⟩
  cases hv0:isNone v with
  | true=>
   rw [hv0] at hX
   obtain ⟨vs',R,hX⟩:=hX
   refine wpAny_mono (ret_raise (base:=hideAll s₁.heap hid) (fs:=env::fr.map (·.1)) (K:=K) C2 hEok (by rw [ekd];exact c2) (fun _=>rfl) fun h3 tk3 e3' k3' C3=>?_) (fun _ _ y=>y.elim) fun e s' y=>y.after k2'
   exact mthX_any (c:=.var 0) (cs:=[]) C3 hEok hfs (fun b o q=>k3' b o (hst2 b o q)) (hff2.of_keeps fun b o q _=>⟨o,k3' b o q,rfl⟩) (by rw [ekd];exact c3) rfl c4 (by decide) m1 m3 ⟨hcl,nb,vs',R,hX⟩
  | false=>
   rw [hv0] at hX
   obtain ⟨vs',R,hX⟩:=hX
   refine wpAny_execs_nil ?_
   refine wpAny_mono (ret_raise (base:=hideAll s₁.heap hid) (fs:=env::fr.map (·.1)) (K:=K) C2 hEok (by rw [ekd];exact d1) (fun _=>rfl) fun h3 tk3 e3' k3' C3=>?_) (fun _ _ y=>y.elim) fun e s' y=>y.after k2'
   exact mthX_any (c:=.var 0) (cs:=[.var 1]) C3 hEok hfs (fun b o q=>k3' b o (hst2 b o q)) (hff2.of_keeps fun b o q _=>⟨o,k3' b o q,rfl⟩) (by rw [ekd];exact d2) (by rw [ekd,List.map_cons,d3];rfl) d4 (by decide) m2 m4 ⟨hcl,nt,vs',R,hX⟩
 ·intro e h' tk hst' hen hup hxi hnc hcell
  refine hidQ fun Q2 _ hQ2 _=>?_
  have hSx:∀ b ∈ S'.ad++ρ,∃ o,s₁.heap.get? b = some o:=fun b hm=>(List.mem_append.mp hm).elim (F.sd b) fun q=>F.sim.mem q
  have heS:e ∉ S'.ad++ρ:=fun hm=>by obtain ⟨o,q⟩:=hSx e hm;rw [hen] at q;cases q
  have C':Cx P ⟨l.k - 1,false,none⟩ ((A.deeper env).mark (some (.ref e))) env ["_law_error"] ⟨S'.ad++ρ,P.prog,P.w⟩ [] [some (.exc K)] [] { s₁ with heap:=h',toks:=tk }:={
   aok:=⟨(fun q=>nomatch q),F.aok.2.1,F.aok.2.2⟩
   gok:=hG'.kp hst',pp:=rfl,pw:=rfl
   sd:=fun b hm=>by
    obtain ⟨o,q⟩:=hSx b hm
    by_cases hbc:b = cc
    ·obtain ⟨o',q',_⟩:=hcell;exact ⟨o',hbc ▸ q'⟩
    ·by_cases hbh:b ∈ hid
     ·rcases List.mem_cons.mp hbh with rfl | hbh
      ·obtain ⟨oL,es,ep,q1,q2,_⟩:=I.toInCall.ns
       obtain ⟨sl,q3⟩:=hup _ _ hbc q1 fun vs e=>by rw [q2] at e;cases e
       exact ⟨_,q3⟩
      ·rcases List.mem_cons.mp hbh with rfl | hbh
       ·exact absurd rfl hbc
       ·obtain ⟨z,hz',rfl⟩:=List.mem_map.mp hbh
        obtain ⟨_,_,⟨es,ep,b3,_⟩,b4⟩:=hq z hz'
        obtain ⟨sl,q3⟩:=hup _ _ hbc (kp1 _ _ b4) fun vs e=>by rw [b3] at e;cases e
        exact ⟨_,q3⟩
     ·exact ⟨o,hst' b o (hideAll_get _ q hbh)⟩
   sim:=⟨rfl,List.nodup_nil,(fun _ hm=>nomatch hm),fun i vs e=>by simp at e⟩
   loc:=fun i y u ey ev=>by
    cases i with
    | zero=>
     cases ey;cases ev
     exact ⟨.ref e,.inr ⟨hn',cc,hcc,hcell⟩,.exc (fun hm=>nomatch hm) heS hxi⟩
    | succ i=>simp at ey }
  refine wpAny_execs_cons (wpAny_Return_some (Tuple_ (args_cons (wpAny_mono ((expr_ok (P:=P) (l:=⟨l.k - 1,false,none⟩) rfl n env ["_law_error"] hEok k3 (.const (.str "refused")) (by rw [ekd];exact e1)).1 _ _ [] _ [] _ (fun v H'=>v = .str "refused"∧H' = []) (fun _=>False) _ C' exOk_any ⟨rfl,rfl⟩) (fun y1 s₂ hy=>?_) fun _ _ y=>y) (not_starred (by rw [ekd];exact e1:compE P.nt n env.kindOf ["_law_error"] k3 = _) _))))
  refine Mine.hid fun _ kh=>?_
  obtain ⟨h2,tk2,n2,v2,G2,rfl,k2',f2,X2,V2,rfl,eG⟩:=hy
  have eG':G2 = []:=eG
  subst eG'
  have en:n2 = []:=List.length_eq_zero_iff.mp X2.len
  subst en
  have C2:=C'.kp (tk:=tk2) k2' f2 X2
  refine kh ?_
  clear kh
  refine args_cons (wpAny_mono (comp_word (pos:=pos) C2 hEok rfl (hnc.at fun o q=>k2' _ _ q) (Nat.sub_pos_of_lt hk) (by rw [ekd];exact e2) e3 (by rw [ekd];exact e4) (by rw [ekd];exact e5) (by rw [ekd];exact e6) hs hwd) (fun y2 s₃ hy=>args_nil ?_) fun _ _ y=>y) rfl
  refine Mine.hid fun _ kh=>?_
  obtain ⟨h3,tk3,n3,v3,G3,rfl,k3',f3,X3,V3,rfl,eG3⟩:=hy
  have eG3':G3 = [[.str word]]:=eG3
  subst eG3'
  refine kh ?_
  clear kh
  have V3':=V3.frz X3 (.frz (fun h=>nomatch h) rfl (.cons (.str word) .nil))
  refine wpAny_newObj_type ?_ (by show 2 ≤ sizeLine;decide)
  have k4:=push_kp h3 { cls:=.type "tuple",dict:=none,data:=.seq ([y1,y2]:List Value).toArray }
  have V4:VRel ⟨S'.ad++ρ,P.prog,P.w⟩ [] (h3.push { cls:=.type "tuple",dict:=none,data:=.seq ([y1,y2]:List Value).toArray }) (.tup [.str "refused",.fl [.str word]]) (.ref h3.objs.size):=
   .tup (fun h=>nomatch h) (fun hm=>by obtain ⟨o,q⟩:=(C2.kp (tk:=tk3) k3' f3 X3).sd _ hm;exact absurd (Heap.lt_size q) (Nat.lt_irrefl _)) ⟨_,Heap.get?_push_size _ rfl⟩ (.cons (((V2.kp0 k3')).kp0 k4) (.cons (V3'.kp0 k4) .nil))
  refine hQ2 _ _ ?_
  refine ⟨_,tk3,rfl,(k2'.trans k3').trans k4,fun h5 tk5 hst5 hk5 hup5=>?_⟩
  have V5:=VRel.own (S:=S) (e:=ρ) (by exact hpp.symm) (by exact hpw.symm) (fun b hb=>List.mem_append_left _ (hsub b hb)) (fun b hb=>List.mem_append_right _ hb) (V4.chg (h':=h5) fun b o hb q=>hk5 b o (fun e=>hb (List.mem_append_left _ (e ▸ hcS))) q)
  have keep:∀ b o,s.heap.get? b = some o→(∀ q ∈ fr,b ≠ q.1.locals)→h5.get? b = some o:=fun b o q h1=>hst5 b o (hideAll_get _ (kp1 b o q) (off b o q h1))
  refine hQQ _ _ ?_
  refine ⟨.ref h3.objs.size,h5,tk5,[],_,H,rfl,by rw [es1],fun b o q=>hst5 b o (hB b o q),fun q hm=>?_,Fresh.nil _,by rw [List.append_nil];exact HSim.chg X fun b o hb q=>keep b o q fun z hz e=>hb (e ▸ (hq z hz).2.1.1),by rw [List.append_nil];exact V5,rfl,rfl⟩
  obtain ⟨b1,b2,⟨es,ep,b3,_⟩,b4⟩:=hq q hm
  exact hup5 _ _ (fun e=>by rw [e,hnew _ (.tail _ hccm)] at b4;cases b4) (kp1 _ _ b4) fun vs e=>by rw [b3] at e;cases e
open PySem PyProof.Rows PySem.SeqAt
inductive InitIs (P:PC) (f:Nat) (elt it:CE) (c1 c2:CE):Prop
 | mk (d:_) (n:_) (eltE:_) (itE:_) (wp:_) (wp':_) (scope:_) (cpos:_) (e1:_) (e2:_) (p0:_) (q0:_) (p1:_) (a1:_) (q1:_) (p2:_) (a2:_) (q2:_):(P.nt.nm f = some (qualOf P "__init__")∧P.nt.fns.length ≤ f∧P.defs[f]? = some d)→(d.scope.kind = .function∧d.scope.isCoroutine = false∧d.scope.isGenerator = false)→(d.scope.names.lookup ("self" : Str) = some .local∧d.scope.names.lookup ("strip" : Str) = some .local∧d.scope.names.lookup ("some" : Str) = some .local∧d.scope.names.all (fun p=>p.2 != .cell) = true)→d.body = [.Assign [.Name "some" p0] (.ListComp eltE [⟨.Name wp' wp,itE,[],0⟩] scope cpos) q0,.Assign [.Attribute (.Name "self" p1) "states" a1] e1 q1,.Assign [.Attribute (.Name "self" p2) "row" a2] e2 q2]→(compE P.nt n (fun x=>d.scope.names.lookup x) ["strip","some"] itE = some it∧freeNames scope = []∧compE P.nt n (compKd scope fun x=>d.scope.names.lookup x) [wp'] eltE = some elt∧compOk scope (fun x=>d.scope.names.lookup x) [wp'] = true)→(compE P.nt n (fun x=>d.scope.names.lookup x) ["strip","some"] e1 = some c1∧compE P.nt n (fun x=>d.scope.names.lookup x) ["strip","some"] e2 = some c2)→((∀ env:Env,env.scope = d.scope→swapsWith (.ListComp eltE [⟨.Name wp' wp,itE,[],0⟩] scope cpos) (some (.Name "some" p0)) q0.line env = pure true))→(∀ env,swapsWith e1 (some (.Attribute (.Name "self" p1) "states" a1)) q1.line env = pure false)→(∀ env,swapsWith e2 (some (.Attribute (.Name "self" p2) "row" a2)) q2.line env = pure false)→(∀ a b pm code doc,bindArgs (methDef d.name (qualOf P "__init__") d.params d.body d.scope pm code doc) ⟨[a,b],[]⟩ = pure [(("self" : Str),a),(("strip" : Str),b)])→InitIs P f elt it c1 c2
theorem FCls.cls {P:PC} {h:Heap} {C:Addr} (x:FCls P h C):∃ o,h.get? C = some o:=by obtain ⟨_,_,_,_,_,_,_,_,_,_,_,_,_,_,hC,_⟩:=x.all;exact ⟨_,hC⟩
theorem dep2 {d d1 k R:Nat} (e:d1 = d + 1) (h:d + k < R) (hk:1 < k):d1 + 1 + (k - 2) < R:=by
 subst e
 rw [Nat.add_assoc d 1 1,Nat.add_assoc,Nat.add_sub_cancel' (m:=2) hk]
 exact h
theorem dep1 {d d1 k R:Nat} (e:d1 = d + 1) (h:d + k < R) (hk:1 < k):d1 < R:=e ▸ Nat.lt_of_le_of_lt (Nat.add_le_add_left (Nat.le_of_lt hk) d) h
theorem uni2 {u u1 k R:Nat} (e:u1 ≤ u + 5) (h:u + 10 * k + 200 < R) (hk:1 < k):u1 + 3 + 10 * (k - 2) + 200 < R:=by lia
structure IN (S:Sx) (h0:Heap) (L x dx C:Addr) (mA:Str→Option Value) (ρ:List Addr) (H:AH) (m:Str→Option Value) (h:Heap):Prop where
 keep:Kp h0 h
 ns:h.Ns L m
 om:OMap h x dx C mA
 sim:HSim S ρ H h
 fr:Fresh h0 ρ
 mem:L ∈ S.ad∧x ∈ S.ad∧dx ∈ S.ad
 ne:x ≠ L∧dx ≠ L
 new:h0.get? L = none∧h0.get? x = none∧h0.get? dx = none
section
variable {S:Sx} {h0 h h':Heap} {L x dx C:Addr} {mA m:Str→Option Value} {ρ e:List Addr} {H G:AH}
theorem IN.kp (I:IN S h0 L x dx C mA ρ H m h) (k:Kp h h') (f:Fresh h e) (X:HSim S (ρ++e) (H++G) h'):IN S h0 L x dx C mA (ρ++e) (H++G) m h':=
 ⟨I.keep.trans k,I.ns.keeps k,I.om.at (fun o q=>k _ o q) fun o q=>k _ o q,X,(fun a ha=>(List.mem_append.mp ha).elim (I.fr a) fun q=>by
  cases q0:h0.get? a with
  | none=>rfl
  | some o=>have:=f a q;rw [I.keep a o q0] at this;cases this),I.mem,I.ne,I.new⟩
theorem IN.sd (I:IN S h0 L x dx C mA ρ H m h) (hs:∀ b ∈ S.ad,b ∈ [L,x,dx] ∨ ∃ o,h0.get? b = some o):SD S h:=fun b hb=>(hs b hb).elim (fun q=>by
  simp only [List.mem_cons,List.not_mem_nil,or_false] at q
  rcases q with rfl | rfl | rfl
  ·obtain ⟨o,_,_,e,_⟩:=I.ns;exact ⟨o,e⟩
  ·exact I.om.get
  ·exact I.om.getD) fun ⟨o,q⟩=>⟨o,I.keep _ _ q⟩
theorem IN.set {P:PC} {A:Around} {s:Shared} {y:Str} {v:Value} {E:Value→Shared→Prop} {Q:Unit→Shared→Prop} {ns:List Str} (I:IN S h0 L x dx C mA ρ H m s.heap) (hF:FCls P h0 C) (hy:P.mN y = none) (hB:typeLookup (.type "object") y = pure none) (hw:Within mA ns) (hsz:ns.length ≤ 10)
  (h:∀ h' tk,IN S h0 L x dx C (fun z=>if z = y then some v else mA z) ρ H m h'→(∀ b o,b ∉ S.ad→s.heap.get? b = some o→h'.get? b = some o)→Q () { s with heap:=h',toks:=tk }) :
  wpAny (model P.prog P.w) A (setAttr (.ref x) y v) Q E s:=by
 obtain ⟨hh,g,d,t,os⟩:=s
 obtain ⟨N,nm,q,bs,sn,sub,col,dd,k0,k1,k2,k3,k5,hN,hC,_,_,_,hns,_,_⟩:=(hF.kp I.keep).all
 obtain ⟨hdx,⟨ox,hx,hcx,hncx,hdd⟩,hn1⟩:=I.om
 have hxC:x ≠ C:=fun e=>by
  obtain ⟨o,hC'⟩:=hF.cls
  rw [← e,I.new.2.1] at hC';cases hC'
 refine store_attr PySem.F.store_object hC hN hns hy hB hxC I.om.inst (fun h' tk' I' hk hsame=>?_) hw (Nat.le_trans hsz (by decide))
 have kk:∀ b o,b ≠ x→b ≠ dx→hh.get? b = some o→h'.get? b = some o:=fun b o h1 h2 q=>hk b o h1 (fun o₀ d' q₀ qd=>by rw [hx] at q₀;cases q₀;rw [hdd] at qd;cases qd;exact h2) q
 have ko:∀ b o,b ∉ S.ad→hh.get? b = some o→h'.get? b = some o:=fun b o hb q=>kk b o (fun e=>hb (e ▸ I.mem.2.1)) (fun e=>hb (e ▸ I.mem.2.2)) q
 obtain ⟨o₁,e₁,c₁,dt₁,_,dk₁⟩:=hsame ox hx
 obtain ⟨o',e',_,_,hd'⟩:=I'
 rw [e₁] at e';cases e'
 refine h h' tk' ⟨fun b o q=>kk b o (fun e=>by rw [e,I.new.2.1] at q;cases q) (fun e=>by rw [e,I.new.2.2] at q;cases q) (I.keep b o q),I.ns.at' fun o q=>kk L o I.ne.1.symm I.ne.2.symm q,⟨hdx,⟨o₁,e₁,c₁.trans hcx,fun c=>dt₁ ▸ hncx c,dk₁ _ hdd⟩,?_⟩,I.sim.chg ko,I.fr,I.mem,I.ne,I.new⟩ ko
 rcases hd' with ⟨hn0,_⟩ | ⟨d',hd',_,hns'⟩
 ·rw [dk₁ dx hdd] at hn0;cases hn0
 ·rw [dk₁ dx hdd] at hd';cases hd';exact hns'
end
inductive IniP (P:PC) (l:Lv) (s₁:Shared) (S₁:Sx) (h0:Heap) (L x dx C:Addr) (rv:Value) (v:AV) (c1 c2:CE) (Q:AV→AH→Prop) (s':Shared):Prop
 | mk (h:Heap) (tk:Nat) (ρ:List Addr) (H:AH) (v0:AV) (z:Value) (m:Str→Option Value):s' = { s₁ with heap:=h,toks:=tk }→IN S₁ h0 L x dx C (fun _=>none) ρ H m h→(m "self" = some (.ref x)∧m "strip" = some rv∧m "some" = some z)→VRel S₁ ρ h v0 z→(wpE P l (fun _=>False) c1 [some v,some v0] H fun v1 H1=>wpE P l (fun _=>False) c2 [some v,some v0] H1 fun v2 H2=>Q (.obj C ["states","row"] [v1,v2]) H2)→IniP P l s₁ S₁ h0 L x dx C rv v c1 c2 Q s'
theorem new_of {P:PC} {l:Lv} {f:Nat} {v:AV} {elt it c1 c2:CE} {C:Addr} {Q:AV→AH→Prop} (D:InitIs P f elt it c1 c2) (hk:1 < l.k)
  (hw:P.cls = some C→wpE P ⟨l.k - 2,l.q,none⟩ (fun _=>False) (.comp elt [] [] 0 it) [some v,none] [] fun v0 H0=>wpE P ⟨l.k - 2,l.q,none⟩ (fun _=>False) c1 [some v,some v0] H0 fun v1 H1=>wpE P ⟨l.k - 2,l.q,none⟩ (fun _=>False) c2 [some v,some v0] H1 fun v2 H2=>Q (.obj C ["states","row"] [v1,v2]) H2) (hC0:P.cls = some C) :
  NewJ P l [v] Q:=by
 obtain ⟨d,n,eltE,itE,wp,wp',scope,cpos,e1,e2,p0,q0,p1,a1,q1,p2,a2,q2,⟨hf,hfl,hd⟩,⟨hs1,hs2,hs3⟩,⟨n1,n2,n3,n4⟩,hbody,⟨i1,i2,i3,i4⟩,⟨i5,i6⟩,sw0,sw1,sw2,hb⟩:=D
 intro A s S xs C' hA hG hC hpp hpw hsd V
 rw [hC0] at hC;cases hC
 have hw:=hw hC0
 obtain ⟨rv,ys,rfl,V0,Vr⟩:=V.cons_inv
 cases Vr
 have hF:=hG.oc C hC0
 obtain ⟨N,nm,q,bs,sn,sub,col,dd,k0,k1,k2,k3,k5,hN,hCo,_,_,_,_,hst,hrw⟩:=hF.all
 obtain ⟨fI,oI,_,em,ea,eo,ec,_⟩:=hG.mat hf hfl
 obtain ⟨h0,g,dr,t,os⟩:=s
 refine wpAny_call_obj_init PySem.F.objNew hCo hN em eo ec fun hm x dx Mk=>wpAny_call ?_
 have kM:Kp h0 hm:=Mk.keeps
 obtain ⟨a',o,pm,code,doc,ea',eo',ed,ecd⟩:=(hG.kp kM).at hf hd
 rw [ea] at ea';cases ea'
 obtain ⟨A₁,hAu⟩:∃ x,A.under (.builtin "type.__call__" ⟨[.ref C,rv],[]⟩) = x:=⟨_,rfl⟩
 rw [hAu]
 have hA1:A₁.handled = A.handled∧A₁.depth = A.depth + 1∧A₁.units ≤ A.units + 5:=by rw [← hAu];exact ⟨rfl,rfl,Nat.add_le_add_left (Nat.le_of_ble_eq_true rfl) _⟩
 have hA2:=hA.2.1
 refine codeAny_call_cells (body:=d.body) (binds:=[("self",.ref x),("strip",rv)]) (dep1 hA1.2.1 hA2 hk) eo' ed (hG.kp kM).nolimit ecd rfl (hb _ _ pm code doc) rfl (fun y hy=>.inl ?_) (fun s₁ I=>?_) hs2 hs3 hs1
 ·simp only [List.mem_cons,List.not_mem_nil,or_false] at hy
  rcases hy with rfl | rfl
  ·exact n1
  ·exact n2
 refine hidQ fun QQ _ hQQ _=>?_
 obtain ⟨fd,hfd⟩:∃ x,methDef d.name (qualOf P "__init__") d.params d.body d.scope pm code doc = x:=⟨_,rfl⟩
 revert I
 rw [hfd]
 intro I
 have esc:fd.scope = d.scope:=by rw [← hfd];rfl
 have egl:fd.globals = mainGlobals:=by rw [← hfd];rfl
 have ebl:fd.builtins = builtinsNs:=by rw [← hfd];rfl
 obtain ⟨env,henv⟩:∃ x,callEnvC fd hm.objs.size fI = x:=⟨_,rfl⟩
 revert I
 rw [henv]
 intro I
 have e1':env.scope = d.scope:=by rw [← henv,← esc];rfl
 have e2':env.globals = mainGlobals:=by rw [← henv,← egl];rfl
 have e3':env.builtins = builtinsNs:=by rw [← henv,← ebl];rfl
 have e5':env.locals = hm.objs.size:=by rw [← henv];rfl
 have ekd:env.kindOf = fun x=>d.scope.names.lookup x:=by funext y;show env.scope.names.lookup y = _;rw [e1']
 have hEok:EnvOk env:=⟨by rw [e1'];exact hs1,e2',e3',fun y hy=>by
  rw [ekd] at hy
  have:=List.all_eq_true.mp n4 _ (mem_of_lookup hy)
  simp at this⟩
 have hsc:(env.scope.kind == .class || (env.scope.kind == .module && env.locals != env.globals)) = false:=by rw [hEok.1];rfl
 obtain ⟨hs₁,tk₁,es₁⟩:=I.toInCall.same
 have hLn:h0.get? env.locals = none:=by
  cases q:h0.get? env.locals with
  | none=>rfl
  | some o=>have:=Heap.lt_size (kM _ _ q);rw [e5'] at this;exact absurd this (Nat.lt_irrefl _)
 obtain ⟨hmx1,hmx2⟩:(∃ ox,hm.get? x = some ox)∧OMap hm x dx C fun _=>none:=by
  obtain ⟨ox,hx,hcx,hncx,hdx⟩:=Mk.inst
  have hdd:=Mk.dict ox hx
  rcases hdx with ⟨hn0,_⟩ | ⟨d',hd',hne',hns'⟩
  ·rw [hn0] at hdd;cases hdd
  ·rw [hdd] at hd';cases hd';exact ⟨⟨ox,hx⟩,hne',⟨ox,hx,hcx,hncx,hdd⟩,hns'⟩
 have neL:∀ {b:Addr},(∃ o,hm.get? b = some o)→b ≠ env.locals:=fun ⟨o,q⟩ e=>by have:=Heap.lt_size q;rw [e,e5'] at this;exact Nat.lt_irrefl _ this
 let S₁:Sx:=⟨S.ad++[env.locals,x,dx],S.prog,S.w⟩
 have hnew:∀ b ∈ [env.locals,x,dx],h0.get? b = none:=fun b hb=>by
  simp only [List.mem_cons,List.not_mem_nil,or_false] at hb
  rcases hb with rfl | rfl | rfl
  ·exact hLn
  ·exact Mk.newX
  ·exact Mk.newD
 have hSd:∀ b ∈ S₁.ad,b ∈ [env.locals,x,dx] ∨ ∃ o,h0.get? b = some o:=fun b hb=>(List.mem_append.mp hb).elim (fun q=>.inr (hsd b q)) .inl
 have k1':Kp hm s₁.heap:=I.toInCall.keep
 have I0:IN S₁ h0 env.locals x dx C (fun _=>none) [] [] (bindL env.kindOf [("self",.ref x),("strip",rv)] fun _=>none) s₁.heap:=
  ⟨kM.trans k1',I.toInCall.ns,hmx2.at (fun o q=>k1' _ o q) fun o q=>k1' _ o q,⟨rfl,List.nodup_nil,(fun _ hm=>nomatch hm),fun i vs e=>by simp at e⟩,Fresh.nil _,⟨List.mem_append_right _ (.head _),List.mem_append_right _ (.tail _ (.head _)),List.mem_append_right _ (.tail _ (.tail _ (.head _)))⟩,⟨neL hmx1,neL hmx2.getD⟩,hLn,Mk.newX,Mk.newD⟩
 have msf:bindL env.kindOf [("self",Value.ref x),("strip",rv)] (fun _=>none) "self" = some (.ref x):=bindL_mem (by rw [ekd];exact n1) (show ([("self" : Str),("strip" : Str)]:List Str).Nodup by decide) (.head _)
 have mst:bindL env.kindOf [("self",Value.ref x),("strip",rv)] (fun _=>none) "strip" = some rv:=bindL_mem (by rw [ekd];exact n2) (show ([("self" : Str),("strip" : Str)]:List Str).Nodup by decide) (.tail _ (.head _))
 have Vs:VRel S₁ [] h0 v rv:=V0.avoid hnew
 have aok:Aok ⟨l.k - 2,l.q,none⟩ (A₁.deeper env):=⟨fun q=>hA1.1.trans (hA.1 q),dep2 hA1.2.1 hA2 hk,uni2 hA1.2.2 hA.2.2 hk⟩
 have ctx:∀ {mA m:Str→Option Value} {ρ:List Addr} {H:AH} {h:Heap} {tk:Nat} {u:Option AV},IN S₁ h0 env.locals x dx C mA ρ H m h→m "strip" = some rv→(∀ a,u = some a→∃ z,m "some" = some z∧VRel S₁ ρ h a z)→Cx P ⟨l.k - 2,l.q,none⟩ (A₁.deeper env) env ["strip","some"] S₁ ρ [some v,u] H { s₁ with heap:=h,toks:=tk }:=fun {mA m ρ H h tk u} J es eu=>
  {aok:=aok,gok:=hG.kp J.keep,pp:=hpp,pw:=hpw,sd:=J.sd hSd,sim:=J.sim
   loc:=fun i y a ey ea=>by
    match i,ey,ea with
    | 0,ey,ea=>cases ey;cases ea;exact ⟨rv,.inl ⟨by rw [ekd];exact n2,_,J.ns,es⟩,by simpa using Vs.kp J.keep J.fr⟩
    | 1,ey,ea=>
     cases ey
     have ea':u = some a:=ea
     obtain ⟨z,ez,Vz⟩:=eu a ea'
     exact ⟨z,.inl ⟨by rw [ekd];exact n3,_,J.ns,ez⟩,Vz⟩
    | i + 2,ey,ea=>simp at ey }
 have ih:=fun (env:Env) (names:List Str) (ho:EnvOk env) e c h=>expr_ok (P:=P) (l:=⟨l.k - 2,l.q,none⟩) rfl n env names ho e c h
 rw [hbody]
 refine wpAny_execs_cons ?_
 rw [exec_Assign_Name_used _ _ _ _ (sw0 env e1')]
 refine wpAny_bind (wpAny_standAt (wpAny_bind ?_))
 show wpAny _ _ (do let _ ← comprehension (.ListComp eltE [⟨.Name wp' wp,itE,[],0⟩] scope cpos) scope env (firstIterPos [⟨.Name wp' wp,itE,[],0⟩] cpos) (newList []) false (eval itE env) (some (assign (.Name "some" p0) env))) _ _ s₁
 refine wpAny_bind (wpAny_mono (comp_run (ce:=elt) (cs:=[]) (cap:=[]) (nv:=0) (txs:=[wp']) (QQ:=fun _ s'=>IniP P ⟨l.k - 2,l.q,none⟩ s₁ S₁ h0 env.locals x dx C rv v c1 c2 Q s') hEok ih (by rw [ekd];exact i1) (by rw [i2];rfl) (by rw [ekd,i2];exact i3) rfl (by rw [ekd];exact i4) rfl (List.nodup_cons.mpr ⟨(fun h=>by cases h),List.nodup_nil⟩) (Nat.zero_le _) (ctx (tk:=s₁.toks) (u:=none) I0 mst fun a e=>nomatch e) exOk_any hw ?_) (fun _ s' hq=>wpAny_pure (wpAny_pure ?_)) fun _ _ e=>e)
 ·intro h₁ tk₁ e₁ G₁ e G Dl Cc h' tk mc vs k1 f1 C1 fD hCc hCe hn X2 eD k' q
  show wpAny _ _ (assign (.Name "some" p0) env (.ref Dl)) _ _ _
  have hLc:Cc ≠ env.locals:=fun q=>by obtain ⟨o,ho⟩:=C1.sd env.locals (List.mem_append_right _ (.head _));rw [← q,hCc] at ho;cases ho
  refine wpAny_assign_Name (wpAny_storeName_local (by rw [ekd];exact n3) ((I0.ns.keeps k1).keeps k') (fun h₂ hn₂ hs₂=>?_) hsc)
  refine ⟨mc,hn.sameBut hs₂ hLc,fun h3 hs3=>?_⟩
  have kc:∀ b o,b ∉ S₁.ad→h₁.get? b = some o→h3.get? b = some o:=fun b o hb q=>hs3.extBut b o (fun e=>by rw [e,hCc] at q;cases q) (hs₂.extBut b o (fun e=>hb (e ▸ List.mem_append_right _ (.head _))) (k' b o q))
  have kf:∀ b o,b ∉ S₁.ad++[Cc]→h'.get? b = some o→h3.get? b = some o:=fun b o hb q=>hs3.extBut b o (fun e=>hb (e ▸ List.mem_append_right _ (.head _))) (hs₂.extBut b o (fun e=>hb (e ▸ List.mem_append_left _ (List.mem_append_right _ (.head _)))) q)
  have ko:∀ b o,b ≠ env.locals→h₁.get? b = some o→h3.get? b = some o:=fun b o hb q=>hs3.extBut b o (fun e=>by rw [e,hCc] at q;cases q) (hs₂.extBut b o hb (k' b o q))
  have hX3:=HSim.sub (S:=S₁) (S':=⟨S₁.ad++[Cc],S₁.prog,S₁.w⟩) rfl rfl (fun b hb=>List.mem_append_left _ hb) (HSim.chg X2 kf)
  have J1:=I0.kp (e:=e₁) (G:=G₁) k1 f1 C1.sim
  refine ⟨h3,_,_,_,_,.ref Dl,_,rfl,⟨fun b o q=>ko b o (fun e=>by rw [e,hLn] at q;cases q) (J1.keep b o q),hn₂.sameBut hs3 hLc.symm,J1.om.at (fun o q=>ko _ o J1.ne.1 q) fun o q=>ko _ o J1.ne.2 q,hX3,fun b hb=>?_,J1.mem,J1.ne,J1.new⟩,⟨by rw [if_neg (by decide)];exact msf,by rw [if_neg (by decide)];exact mst,by simp⟩,.ref eD,q⟩
  rcases List.mem_append.mp hb with m | m
  ·exact J1.fr b m
  ·cases q0:h0.get? b with
   | none=>rfl
   | some o=>have:=fD b m;rw [J1.keep b o q0] at this;cases this
 ·obtain ⟨h,tk,ρ,H,v0,z,m,rfl,J,⟨m1,m2,m3⟩,Vz,hw⟩:=hq
  refine wpAny_execs_cons (plainObj_wpAny_Assign_Attribute (EP.then ((ih env _ hEok e1 c1 (by rw [ekd];exact i5)).1 _ _ _ _ _ _ _ (fun _=>False) _ (ctx (tk:=tk) J m2 fun a e=>by cases e;exact ⟨z,m3,Vz⟩) exOk_any hw) fun y1 h2 tk2 n2' w1 G2 k2' f2 X2 V1 hw=>?_) (sw1 env))
  have J2:=J.kp k2' f2 X2
  have ldS:∀ {h:Heap} {tk:Nat} {p:Pos} {Q':Value→Shared→Prop} {E':Value→Shared→Prop},h.Ns env.locals m→Q' (.ref x) { s₁ with heap:=h,toks:=tk }→wpAny (model P.prog P.w) (A₁.deeper env) (eval (.Name "self" p) env) Q' E' { s₁ with heap:=h,toks:=tk }:=fun {h tk p Q' E'} hn hQ=>wpAny_Name (wpAny_loadName_local hEok.1 (by rw [ekd];exact n1) hn m1 hQ) (by decide)
  refine ldS J2.ns ?_
  refine J2.set (P:=P) hF hst lk_states Within.nil (Nat.zero_le _) fun h3 tk3 J3 ko3=>?_
  refine wpAny_execs_cons (plainObj_wpAny_Assign_Attribute (EP.then ((ih env _ hEok e2 c2 (by rw [ekd];exact i6)).1 _ _ _ _ _ _ _ (fun _=>False) _ (ctx (tk:=tk3) J3 m2 fun a e=>by cases e;exact ⟨z,m3,(Vz.kp k2' f2).chg ko3⟩) exOk_any hw) fun y2 h4 tk4 n4' w2 G4 k4' f4 X4 V2 q=>?_) (sw2 env))
  have J4:=J3.kp k4' f4 X4
  refine ldS J4.ns ?_
  refine J4.set (P:=P) hF hrw lk_row (Within.cons _ _ Within.nil) (by decide) fun h5 tk5 J5 ko5=>?_
  refine wpAny_execs_nil ?_
  have sub:∀ b ∈ S.ad,b ∈ S₁.ad:=fun b hb=>List.mem_append_left _ hb
  have nS:∀ b ∈ [env.locals,x,dx],b ∉ S.ad:=fun b hb hm=>by obtain ⟨o,q⟩:=hsd b hm;rw [hnew b hb] at q;cases q
  refine hQQ _ _ ?_
  refine ⟨rfl,h5,tk5,_,_,_,by rw [es₁],J5.keep,J5.fr,HSim.sub (S:=S) (S':=S₁) rfl rfl sub J5.sim,.obj (fun hm=>J5.sim.off x hm J5.mem.2.1) (nS x (.tail _ (.head _))) (fun hm=>J5.sim.off dx hm J5.mem.2.2) (nS dx (.tail _ (.tail _ (.head _)))) J5.om (xs:=[y1,y2]) (fun k=>?_) (.cons (VRel.sub (S:=S) (S':=S₁) rfl rfl sub (((V1.chg ko3).kp k4' f4).chg ko5)) (.cons (VRel.sub (S:=S) (S':=S₁) rfl rfl sub (V2.chg ko5)) .nil)),q⟩
  show (if k = "row" then some y2 else if k = "states" then some y1 else none) = _
  by_cases hr:k = "row"
  ·subst hr;rfl
  ·by_cases hs:k = "states"
   ·subst hs;rfl
   ·have h1:(k == ("states" : Str)) = false:=beq_eq_false_iff_ne.mpr hs
    have h2:(k == ("row" : Str)) = false:=beq_eq_false_iff_ne.mpr hr
    simp only [List.zip_cons_cons,List.zip_nil_left,List.lookup_cons,List.lookup_nil,h1,h2,if_neg hr,if_neg hs]
open PySem PyProof.Rows PySem.SeqAt
theorem i_any {H:AH} {Q:AV→AH→Prop} {k:Int} {o:AV} {vs:List AV} (e:o.seq? H = some vs) (hl:vs.length ≤ smallN) (h0:0 ≤ k) (h1:k < vs.length) (h:∀ w ∈ vs,Q w H):opIdx o (.int k) H Q:=by
 have hk:k.toNat < vs.length:=by omega
 exact i_at e hl h0 h1 (w:=vs[k.toNat]) (by simp [hk]) (h _ (List.getElem_mem hk))
theorem call_cell {P:PC} {l:Lv} {f:Nat} {H:AH} {Q:AV→AH→Prop} {X:Str→Prop} {ns:List Int} {k:Int} (hc:∀ k:Int,0 ≤ k→k < 100000→CallJ P l f [.fl (ns.map AV.int),.int k] IsCell X) (h0:0 ≤ k) (h1:k < 100000) (h:∀ c:Int,0 ≤ c→c < 2147483647→Q (.int c) H):CallP P l f [.fl (ns.map AV.int),.int k] H Q X:=by
 refine CallP.plain (.cons (.fl (Rens.ints ns)) (.cons (.int k) .nil)) (hc k h0 h1) fun v Hc q=>?_
 obtain ⟨rfl,c,rfl,h2,h3⟩:=q
 simpa [sh_none,sh_bool,sh_int,sh_str,sh_ref,sh_tup,sh_fl] using h c h2 h3
theorem i_last {H:AH} {Q:AV→AH→Prop} {o:AV} {L:List Int} (e:o.seq? H = some (L.map AV.int)) (hl:L.length ≤ smallN) (h0:0 < L.length) (h:∀ z ∈ L,Q (.int z) H):opIdx o (.int (-1)) H Q:=by
 refine i_neg (d:=1) e (by rw [List.length_map];exact hl) rfl (by decide) (by rw [List.length_map];exact h0) (w:=.int (L[L.length - 1]'(by omega))) (by rw [List.length_map,List.getElem?_map,List.getElem?_eq_getElem (by omega)];rfl) (h _ (List.getElem_mem _))
theorem rngList1 (a b:Int):rngList a b 1 = (List.range (b - a).toNat).map fun (i:Nat)=>a + (i:Int):=by
 have e:(Builtin.Range.rangeSize a b 1).toNat = (b - a).toNat:=by
  unfold Builtin.Range.rangeSize
  rw [if_pos (by decide),Int.ediv_one]
  split
  ·rw [Int.sub_add_cancel]
  ·exact (Int.toNat_of_nonpos (Int.sub_nonpos_of_le (Int.not_lt.mp ‹_›))).symm
 unfold rngList
 rw [e]
 simp
theorem rngList1_len (a b:Int):(rngList a b 1).length = (b - a).toNat:=by rw [rngList1];simp
theorem rngList1_get {a b:Int} {k:Nat} {u:AV} (e:((rngList a b 1).map AV.int)[k]? = some u):u = .int (a + (k:Int))∧(k:Int) < b - a:=by
 rw [rngList1] at e
 simp only [List.map_map,List.getElem?_map,Option.map_eq_some_iff,List.getElem?_range] at e
 obtain ⟨j,⟨h1,rfl⟩,rfl⟩:=by
  simpa [List.getElem?_eq_some_iff] using e
 exact ⟨rfl,by omega⟩
theorem m_ins0 {H:AH} {xs:List AV} {v:AV} (h:xs.length < smallN):opMut H .insert xs [.int 0,v] = some (v::xs):=by
 show (if xs.length < smallN∧(-1000000:Int) < 0∧(0:Int) < 1000000 then some (insAt xs 0 v) else Option.none) = _
 rw [if_pos ⟨h,by decide,by decide⟩]
 simp [insAt]
theorem m_app {H:AH} {xs:List AV} {v:AV} (h:xs.length < smallN):opMut H .append xs [v] = some (xs++[v]):=if_pos h
noncomputable def Mk (x:Str):Prop:=x = "hill" ∨ x = "valley"
theorem cat_le {A B:List AV} {m n:Nat} (h1:A.length ≤ m) (h2:B.length ≤ n) (h:m + n ≤ smallN):A.length + B.length ≤ smallN:=Nat.le_trans (Nat.add_le_add h1 h2) h
theorem cat_n {A:List AV} {m n:Nat} (h1:A.length ≤ m) (h:m + n ≤ smallN):A.length + n ≤ smallN:=Nat.le_trans (Nat.add_le_add_right h1 n) h
theorem app_le {A B:List AV} {m n:Nat} (h1:A.length ≤ m) (h2:B.length ≤ n):(A++B).length ≤ m + n:=by rw [List.length_append];exact Nat.add_le_add h1 h2
theorem take_le {A:List AV} {m k:Nat} (h:A.length ≤ m):(A.take k).length ≤ m:=by rw [List.length_take];exact Nat.le_trans (Nat.min_le_right _ _) h
theorem drop_le {A:List AV} {m k:Nat} (h:A.length ≤ m):(A.drop k).length ≤ m:=by rw [List.length_drop];exact Nat.le_trans (Nat.sub_le _ _) h
noncomputable def csA:List CS:=[
 .mut .insert (.var 3) [(.const (.int (0))),(.bin .Add (.const (.int (1))) (.bin .Mod (.bin .FloorDiv (.var 6) (.const (.int (6)))) (.idx (.var 3) (.const (.int (0))))))],
 .mut .insert (.var 4) [(.const (.int (0))),(.var 7)]]
noncomputable def csB:List CS:=[
 .mut .append (.var 3) [(.bin .Add (.const (.int (1))) (.bin .Mod (.bin .FloorDiv (.var 6) (.const (.int (6)))) (.idx (.var 3) (.neg (.const (.int (1)))))))],
 .mut .append (.var 4) [(.var 7)]]
noncomputable def csC:List CS:=[
 .assign 8 (.bin .Mod (.bin .FloorDiv (.var 6) (.const (.int (6)))) (.prim .len [(.var 3)])),
 .assign 9 (.bin .Mod (.bin .FloorDiv (.var 6) (.const (.int (60)))) (.idx (.var 3) (.var 8))),
 .assign 10 (.bin .Add (.const (.int (1))) (.bin .Mod (.bin .FloorDiv (.var 6) (.const (.int (420)))) (.bin .Sub (.idx (.var 3) (.var 8)) (.var 9)))),
 .assign 3 (.bin .Add (.bin .Add (.slc (.var 3) (.const .none) (.var 8) (.const .none)) (.lst [(.bin .Add (.var 10) (.var 9)),(.var 10),(.bin .Sub (.idx (.var 3) (.var 8)) (.var 9))])) (.slc (.var 3) (.bin .Add (.var 8) (.const (.int (1)))) (.const .none) (.const .none))),
 .assign 4 (.bin .Add (.bin .Add (.slc (.var 4) (.const .none) (.var 8) (.const .none)) (.lst [(.var 7),(.idx (.lst [(.const (.str "valley")),(.const (.str "hill"))]) (.bin .Mod (.bin .FloorDiv (.var 6) (.const (.int (3)))) (.const (.int (2)))))])) (.slc (.var 4) (.var 8) (.const .none) (.const .none)))]
noncomputable def csL:List CS:=[.ite (.cmp .Lt (.prim .len [(.var 3)]) (.const (.int (29)))) csC []]
noncomputable def csM:List CS:=[.ite (.and (.cmp .Eq (.bin .Mod (.var 6) (.const (.int (3)))) (.const (.int (1)))) (.cmp .Lt (.prim .len [(.var 3)]) (.const (.int (30))))) csB csL]
noncomputable def csN:List CS:=[.ite (.and (.cmp .Eq (.bin .Mod (.var 6) (.const (.int (3)))) (.const (.int (0)))) (.cmp .Lt (.prim .len [(.var 3)]) (.const (.int (30))))) csA csM]
noncomputable def csBody (fc:Nat):List CS:=
 .assign 6 (.bin .Add (.call fc [(.var 0),(.bin .Add (.bin .Add (.var 1) (.const (.int (1)))) (.bin .Mod (.var 5) (.const (.int (12)))))]) (.bin .Mult (.const (.int (31))) (.var 5))) ::
 .assign 7 (.idx (.lst [(.const (.str "hill")),(.const (.str "valley"))]) (.bin .Mod (.bin .FloorDiv (.var 6) (.const (.int (3)))) (.const (.int (2)))))::csN
noncomputable def cs_unfolded (fc:Nat):List CS:=[
 .assign 3 (.lst [(.bin .Add (.const (.int (1))) (.bin .Mod (.call fc [(.var 0),(.var 1)]) (.const (.int (9)))))]),
 .assign 4 (.lst []),
 .for1 5 (.prim .range [(.var 2)]) (csBody fc),
 .ret (.tup [(.var 3),(.var 4)])]
structure StripIs (top:Int) (ns:List Int) (ms:List Str):Prop where
 len:ns.length = ms.length + 1
 most:ns.length ≤ 30
 nums:∀ n ∈ ns,1 ≤ n∧n ≤ top
 marks:∀ m ∈ ms,Mk m
inductive GivesStrip (top:Int) (v:AV) (H:AH):Prop
 | mk (ns:_) (ms:_):StripIs top ns ms→v = .tup [.ref 0,.ref 1]→H = [ns.map AV.int,ms.map AV.str]→GivesStrip top v H
inductive UR (sc:List Int) (first many:Int) (loc:Loc) (H:AH):Prop
 | mk (ns:_) (ms:_):StripIs 9 ns ms→loc = [some (.fl (sc.map AV.int)),some (.int first),some (.int many),some (.ref 0),some (.ref 1),none,none,none,none,none,none,some (.rng 0 many 1)]→H = [ns.map AV.int,ms.map AV.str]→UR sc first many loc H
inductive UI (sc:List Int) (first many:Int) (loc:Loc) (H:AH):Prop
 | mk (ns:_) (ms:_):StripIs 9 ns ms→loc = [some (.fl (sc.map AV.int)),some (.int first),some (.int many),some (.ref 0),some (.ref 1),none,none,none,none,none,none]→H = [ns.map AV.int,ms.map AV.str]→UI sc first many loc H
theorem UR.cut {sc:List Int} {first many:Int} {a b:Nat} {o5 o6 o7 o8 o9 o10:Option AV} {H:AH} {ns:List Int} {ms:List Str} (hS:StripIs 9 ns ms) (ha:H[a]? = some (ns.map AV.int)) (hb:H[b]? = some (ms.map AV.str)) (hne:a ≠ b) :
  Cut none (UR sc first many) [some (.fl (sc.map AV.int)),some (.int first),some (.int many),some (.ref a),some (.ref b),o5,o6,o7,o8,o9,o10,some (.rng 0 many 1)] H:=by
 refine ⟨_,_,.inr ⟨[a,b],pin0,RenH.two ha hb hne (Rens.ints ns) (Rens.strs ms),?_⟩,ns,ms,hS,rfl,rfl⟩
 exact .keep (.fl (Rens.ints sc)) (.keep (.int _) (.keep (.int _) (.keep (.ref rfl) (.keep (.ref rfl) (.drop (.drop (.drop (.drop (.drop (.drop (.keep (.rng _ _ _) .nil)))))))))))
noncomputable def uL (sc:List Int) (first many k C:Int) (mk:Str):Loc:=[some (.fl (sc.map AV.int)),some (.int first),some (.int many),some (.ref 0),some (.ref 1),some (.int k),some (.int C),some (.str mk),none,none,none,some (.rng 0 many 1)]
noncomputable def uH (ns:List Int) (ms:List Str):AH:=[ns.map AV.int,ms.map AV.str,[.str "hill",.str "valley"]]
section
variable {ns:List Int} {ms:List Str}
theorem StripIs.pos {top:Int} (h:StripIs top ns ms):(0:Int) < ns.length:=by rw [h.len];exact Int.natCast_pos.mpr (Nat.succ_pos _)
theorem StripIs.small {top:Int} (h:StripIs top ns ms):ns.length < smallN:=Nat.lt_of_le_of_lt h.most (by decide)
theorem StripIs.lm {top:Int} (h:StripIs top ns ms):ms.length < 30:=by have:=h.len;have:=h.most;(first | lia | omega)
theorem StripIs.small2 {top:Int} (h:StripIs top ns ms):ms.length < smallN:=Nat.lt_trans h.lm (by decide)
theorem mapI_le {n:Nat} (h:ns.length ≤ n):(ns.map AV.int).length ≤ n:=by rw [List.length_map];exact h
theorem mapS_le {n:Nat} (h:ms.length ≤ n):(ms.map AV.str).length ≤ n:=by rw [List.length_map];exact h
theorem mapI_lt {n:Nat} (h:ns.length < n):(ns.map AV.int).length < n:=by rw [List.length_map];exact h
theorem mapS_lt {n:Nat} (h:ms.length < n):(ms.map AV.str).length < n:=by rw [List.length_map];exact h
theorem StripIs.nine {z C:Int} (h:StripIs 9 ns ms) (hz:z ∈ ns):1 ≤ 1 + C % z∧1 + C % z ≤ 9:=by
 have h1:=h.nums z hz
 have h2:=Int.emod_nonneg C (b:=z) (by (first | lia | omega))
 have h3:=Int.emod_lt_of_pos C (b:=z) (by (first | lia | omega))
 (first | lia | omega)
theorem StripIs.consA {z C:Int} {mk:Str} (h:StripIs 9 ns ms) (hz:z ∈ ns) (hm:Mk mk) (hl:ns.length < 30):StripIs 9 ((1 + C % z)::ns) (mk::ms):=
 ⟨congrArg (· + 1) h.len,hl,fun n hn=>(List.mem_cons.mp hn).elim (fun e=>e ▸ h.nine hz) (h.nums n),fun m hn=>(List.mem_cons.mp hn).elim (fun e=>e ▸ hm) (h.marks m)⟩
theorem StripIs.snocB {z C:Int} {mk:Str} (h:StripIs 9 ns ms) (hz:z ∈ ns) (hm:Mk mk) (hl:ns.length < 30):StripIs 9 (ns++[1 + C % z]) (ms++[mk]):=by
 refine ⟨?_,?_,fun n hn=>(List.mem_append.mp hn).elim (h.nums n) fun e=>List.mem_singleton.mp e ▸ h.nine hz,fun m hn=>(List.mem_append.mp hn).elim (h.marks m) fun e=>List.mem_singleton.mp e ▸ hm⟩
 ·rw [List.length_append,List.length_append,h.len];rfl
 ·rw [List.length_append];exact hl
theorem mid_len3 {α:Type} {l:List α} {p:Nat} {a b c:α} (hp:p < l.length):(l.take p++[a,b,c]++l.drop (p + 1)).length = l.length + 2:=by
 rw [List.length_append,List.length_append,List.length_take_of_le (Nat.le_of_lt hp),List.length_drop]
 show p + 3 + _ = _
 omega
theorem mid_len2 {α:Type} {l:List α} {p:Nat} {a b:α} (hp:p ≤ l.length):(l.take p++[a,b]++l.drop p).length = l.length + 2:=by
 rw [List.length_append,List.length_append,List.length_take_of_le hp,List.length_drop]
 show p + 2 + _ = _
 (first | lia | omega)
theorem StripIs.midC {z st sh:Int} {p:Nat} {m1 m2:Str} (h:StripIs 9 ns ms) (hz:z ∈ ns) (h1:0 ≤ st) (h2:st < z) (h3:1 ≤ sh) (h4:sh ≤ z - st) (hp:p < ns.length) (k1:Mk m1) (k2:Mk m2) (hl:ns.length < 29) :
  StripIs 9 (ns.take p++[sh + st,sh,z - st]++ns.drop (p + 1)) (ms.take p++[m1,m2]++ms.drop p):=by
 have hz:=h.nums z hz
 have e:=h.len
 have l1:=mid_len3 (a:=sh + st) (b:=sh) (c:=z - st) hp
 refine ⟨by rw [l1,mid_len2 (Nat.le_of_lt_succ (Nat.lt_of_lt_of_le hp (Nat.le_of_eq e))),e],by rw [l1];exact Nat.succ_le_succ hl,fun n hn=>?_,fun m hm=>?_⟩
 ·simp only [List.mem_append] at hn
  rcases hn with (hn | hn) | hn
  ·exact h.nums n (List.mem_of_mem_take hn)
  ·clear l1 e hp hl h;simp at hn;(first | lia | omega)
  ·exact h.nums n (List.mem_of_mem_drop hn)
 ·simp only [List.mem_append] at hm
  rcases hm with (hm | hm) | hm
  ·exact h.marks m (List.mem_of_mem_take hm)
  ·simp at hm
   rcases hm with rfl | rfl
   ·exact k1
   ·exact k2
  ·exact h.marks m (List.mem_of_mem_drop hm)
theorem mk_of {w:AV} {a b:Str} (ha:Mk a) (hb:Mk b) (h:w ∈ [AV.str a,AV.str b]):∃ mk,w = .str mk∧Mk mk:=by
 rcases List.mem_cons.mp h with rfl | h
 ·exact ⟨_,rfl,ha⟩
 ·exact ⟨_,List.mem_singleton.mp h,hb⟩
variable {P:PC} {l:Lv} {lk:Nat} {lq:Bool} {Qr:AV→AH→Prop} {Qx:Str→Loc→AH→Prop} {sc:List Int} {first many k C:Int} {mk:Str}
theorem un_A (hS:StripIs 9 ns ms) (hm:Mk mk) (hl:ns.length < 30):wpSs P ⟨lk,lq,none⟩ csA (uL sc first many k C mk) (uH ns ms) (Cut none (UR sc first many)) Qr Qx:=by
 unfold csA uL uH
 (refine wpSs_cons.mpr ?_;tm_at "wps")
 refine ⟨by decide,i_atI (L:=ns) rfl (Nat.le_of_lt hS.small) (by decide) hS.pos fun z hz=>?_⟩
 tm_at "wps"
 refine ⟨(hS.nums z (List.mem_of_getElem? hz)).1,_,_,_,rfl,rfl,m_ins0 (mapI_lt hS.small),?_⟩
 (refine wpSs_cons.mpr ?_;tm_at "wps")
 refine ⟨_,_,_,rfl,rfl,m_ins0 (mapS_lt hS.small2),?_⟩
 exact UR.cut (ns:=(1 + C / 6 % z)::ns) (ms:=mk::ms) (hS.consA (List.mem_of_getElem? hz) hm hl) rfl rfl (by decide)
theorem un_B (hS:StripIs 9 ns ms) (hm:Mk mk) (hl:ns.length < 30):wpSs P ⟨lk,lq,none⟩ csB (uL sc first many k C mk) (uH ns ms) (Cut none (UR sc first many)) Qr Qx:=by
 unfold csB uL uH
 (refine wpSs_cons.mpr ?_;tm_at "wps")
 refine ⟨by decide,i_last (L:=ns) rfl (Nat.le_of_lt hS.small) (Int.natCast_pos.mp hS.pos) fun z hz=>?_⟩
 tm_at "wps"
 refine ⟨(hS.nums z hz).1,_,_,_,rfl,rfl,m_app (mapI_lt hS.small),?_⟩
 (refine wpSs_cons.mpr ?_;tm_at "wps")
 refine ⟨_,_,_,rfl,rfl,m_app (mapS_lt hS.small2),?_⟩
 exact UR.cut (ns:=ns++[1 + C / 6 % z]) (ms:=ms++[mk]) (hS.snocB hz hm hl) (by rw [List.map_append];rfl) (by rw [List.map_append];rfl) (by decide)
theorem un_C (hq:lq = true) (hS:StripIs 9 ns ms) (hm:Mk mk) (hl:ns.length < 29):wpSs P ⟨lk,lq,none⟩ csC (uL sc first many k C mk) (uH ns ms) (Cut none (UR sc first many)) Qr Qx:=by
 have sA:=mapI_le hS.most
 have sB:=mapS_le (Nat.le_of_lt hS.lm)
 have sa:(ns.map AV.int).length ≤ smallN:=Nat.le_trans sA (by decide)
 have sb:(ms.map AV.str).length ≤ smallN:=Nat.le_trans sB (by decide)
 have hp:=hS.pos
 rw [← List.length_map (as:=ns) AV.int] at hp
 unfold csC uL uH
 (refine wpSs_cons.mpr ?_;tm_at "wps")
 refine ⟨by decide,hq,sa,hp,?_⟩
 generalize hpe:C / 6 % ((ns.map AV.int).length:Int) = p
 have hp0:0 ≤ p:=hpe ▸ Int.emod_nonneg _ (Int.ne_of_gt hp)
 have hp1:p < ns.length:=by have:=hpe ▸ Int.emod_lt_of_pos (C / 6) hp;rwa [List.length_map] at this
 clear hpe hp
 (refine wpSs_cons.mpr ?_;tm_at "wps")
 refine ⟨by decide,i_atI (L:=ns) rfl (Nat.le_of_lt hS.small) hp0 hp1 fun z hz=>?_⟩
 have hz9:=(hS.nums z (List.mem_of_getElem? hz)).1
 tm_at "wps"
 refine ⟨hz9,?_⟩
 generalize hst:C / 60 % z = st
 have hst0:0 ≤ st:=hst ▸ Int.emod_nonneg _ (Int.ne_of_gt hz9)
 have hst1:st < z:=hst ▸ Int.emod_lt_of_pos _ hz9
 clear hst
 (refine wpSs_cons.mpr ?_;tm_at "wps")
 refine ⟨by decide,i_atI (L:=ns) rfl (Nat.le_of_lt hS.small) hp0 hp1 fun z' hz'=>?_⟩
 cases Option.some.inj (hz.symm.trans hz')
 tm_at "wps"
 refine ⟨Int.sub_pos_of_lt hst1,?_⟩
 generalize hsh:1 + C / 420 % (z - st) = sh
 have hsh0:1 ≤ sh:=hsh ▸ Int.le_add_of_nonneg_right (Int.emod_nonneg _ (Int.ne_of_gt (Int.sub_pos_of_lt hst1)))
 have hsh1:sh ≤ z - st:=by have:=Int.emod_lt_of_pos (C / 420) (Int.sub_pos_of_lt hst1);(first | lia | omega)
 clear hsh
 (refine wpSs_cons.mpr ?_;tm_at "wps")
 refine sl_upto rfl sa hp0 (i_atI (L:=ns) rfl (Nat.le_of_lt hS.small) hp0 hp1 fun z' hz'=>?_)
 cases Option.some.inj (hz.symm.trans hz')
 tm_at "wps"
 refine ⟨by decide,cat_n (take_le sA) (by decide),sl_from rfl sa (Int.le_add_one hp0) ⟨cat_le (app_le (n:=3) (take_le sA) (Nat.le_refl 3)) (drop_le sA) (by decide),?_⟩⟩
 (refine wpSs_cons.mpr ?_;tm_at "wps")
 refine sl_upto rfl sb hp0 ?_
 tm_at "wps"
 refine ⟨by decide,⟨by decide,by decide⟩,by decide,i_any rfl (by decide) (Int.emod_nonneg _ (by decide)) (Int.emod_lt_of_pos _ (by decide)) fun w hw=>?_⟩
 obtain ⟨mk2,rfl,hmk2⟩:=mk_of (.inr rfl) (.inl rfl) hw
 tm_at "wps"
 refine ⟨by decide,cat_n (take_le sB) (by decide),sl_from rfl sb hp0 ⟨cat_le (app_le (n:=2) (take_le sB) (Nat.le_refl 2)) (drop_le sB) (by decide),?_⟩⟩
 have e2:(p + 1).toNat = p.toNat + 1:=Int.toNat_add_nat hp0 1
 tm_at "wps"
 exact UR.cut (ns:=ns.take p.toNat++[sh + st,sh,z - st]++ns.drop (p.toNat + 1)) (ms:=ms.take p.toNat++[mk,mk2]++ms.drop p.toNat) (hS.midC (List.mem_of_getElem? hz) hst0 hst1 hsh0 hsh1 (by (first | lia | omega)) hm hmk2 hl) (by rw [e2];simp) (by simp) (by decide)
theorem un_0 (hS:StripIs 9 ns ms):wpSs P ⟨lk,lq,none⟩ [] (uL sc first many k C mk) (uH ns ms) (Cut none (UR sc first many)) Qr Qx:=UR.cut hS rfl rfl (by decide)
theorem un_L (hq:lq = true) (hS:StripIs 9 ns ms) (hm:Mk mk):wpSs P ⟨lk,lq,none⟩ csL (uL sc first many k C mk) (uH ns ms) (Cut none (UR sc first many)) Qr Qx:=by
 show ∃ R:Loc→AH→Prop,_
 refine ⟨UR sc first many,fun loc H h=>Cut.here h,hq,mapI_le (Nat.le_of_lt hS.small),?_⟩
 show if decide (((ns.map AV.int).length:Int) < 29) = true then _ else _
 exact brk (fun h=>un_C hq hS hm (by rw [List.length_map] at h;(first | lia | omega))) fun _=>un_0 hS
theorem un_M (hq:lq = true) (hS:StripIs 9 ns ms) (hm:Mk mk):wpSs P ⟨lk,lq,none⟩ csM (uL sc first many k C mk) (uH ns ms) (Cut none (UR sc first many)) Qr Qx:=by
 show ∃ R:Loc→AH→Prop,_
 refine ⟨UR sc first many,fun loc H h=>Cut.here h,by decide,?_⟩
 show if decide (C % 3 = 1) = true then _ else _
 refine brk (fun _=>⟨hq,mapI_le (Nat.le_of_lt hS.small),?_⟩) fun _=>un_L hq hS hm
 show if decide (((ns.map AV.int).length:Int) < 30) = true then _ else _
 exact brk (fun h=>un_B hS hm (by rw [List.length_map] at h;omega)) fun _=>un_L hq hS hm
theorem un_N {Qn:Loc→AH→Prop} (hq:lq = true) (hS:StripIs 9 ns ms) (hm:Mk mk) (hQ:∀ loc H,UR sc first many loc H→Qn loc H):wpSs P ⟨lk,lq,none⟩ csN (uL sc first many k C mk) (uH ns ms) Qn Qr Qx:=by
 show ∃ R:Loc→AH→Prop,_
 refine ⟨UR sc first many,hQ,by decide,?_⟩
 show if decide (C % 3 = 0) = true then _ else _
 refine brk (fun _=>⟨hq,mapI_le (Nat.le_of_lt hS.small),?_⟩) fun _=>un_M hq hS hm
 show if decide (((ns.map AV.int).length:Int) < 30) = true then _ else _
 exact brk (fun h=>un_A hS hm (by rw [List.length_map] at h;(first | lia | omega))) fun _=>un_M hq hS hm
end
theorem unfolded_ok {P:PC} {l:Lv} {f fc:Nat} {ps rest:List Str} {X:Str→Prop} (F:FnIs P f ps rest (cs_unfolded fc)) (hp:ps.length = 3) (hr:rest.length = 8) (hk:1 < l.k) (hq:l.q = true) {sc:List Int}
  (hc:∀ k:Int,0 ≤ k→k < 100000→CallJ P ⟨l.k - 1,l.q,none⟩ fc [.fl (sc.map AV.int),.int k] IsCell X) {first many:Int} (h0:0 ≤ first) (h1:first < 1000) (h2:0 ≤ many) (h3:many ≤ 33) :
  CallJ P l f [.fl (sc.map AV.int),.int first,.int many] (GivesStrip 9) X:=by
 have hk':0 < l.k - 1:=Nat.sub_pos_of_lt hk
 refine CallJ.ren (F.call (Nat.lt_of_succ_lt hk) (by simp [hp]) ?_)
 rw [hr]
 unfold cs_unfolded
 (refine wpSs_cons.mpr ?_;tm_at "wps")
 refine ⟨hk',call_cell hc h0 (Int.lt_trans h1 (by decide)) fun c _ _=>?_⟩
 tm_at "wps"
 refine ⟨by decide,by decide,?_⟩
 (refine wpSs_cons.mpr ?_;tm_at "wps")
 refine ⟨by decide,?_⟩
 (refine wpSs_cons.mpr ?_;tm_at "wps")
 refine ⟨hq,hq,⟨by decide,by (first | lia | omega),by decide⟩,many.toNat,.rng 0 many 1,fun k v loc H=>v = .rng 0 many 1∧UI sc first many loc H,?_,?_,?_,?_,?_⟩
 ·exact ⟨_,_,_,.inl ⟨rfl,rfl⟩,rfl,rfl,[1 + c % 9],[],⟨rfl,(show 1 ≤ 30 by decide),fun n hn=>by rw [List.mem_singleton.mp hn];(first | lia | omega),fun m hm=>nomatch hm⟩,rfl,rfl⟩
 ·rintro k v loc H hk ⟨rfl,_⟩
  exact ⟨rfl,_,rfl,by simp [rngList1_len]⟩
 ·unfold smallN;(first | lia | omega)
 ·rintro k v loc H its u hk hl ⟨rfl,ns,ms,hS,rfl,rfl⟩ ei eu
  cases ei
  obtain ⟨rfl,hkm⟩:=rngList1_get eu
  unfold csBody
  (refine wpSs_cons.mpr ?_;tm_at "wps")
  refine ⟨hk',by decide,call_cell hc (by (first | lia | omega)) (by (first | lia | omega)) fun c hc0 _=>?_⟩
  tm_at "wps"
  refine ⟨.inr (by decide),?_⟩
  (refine wpSs_cons.mpr ?_;tm_at "wps")
  refine ⟨by decide,⟨by decide,by decide⟩,by decide,i_any rfl (by decide) (Int.emod_nonneg _ (by decide)) (Int.emod_lt_of_pos _ (by decide)) fun w hw=>?_⟩
  obtain ⟨mk,rfl,hmk⟩:=mk_of (.inl rfl) (.inr rfl) hw
  exact un_N hq hS hmk fun loc H ⟨ns,ms,hS,e1,e2⟩=>⟨_,_,H,.inl ⟨e1,rfl⟩,rfl,rfl,ns,ms,hS,rfl,e2⟩
 ·rintro v loc H ⟨rfl,ns,ms,hS,rfl,rfl⟩
  (refine wpSs_cons.mpr ?_;tm_at "wps")
  exact ⟨by decide,[0,1],_,_,RenH.two rfl rfl (by decide) (Rens.ints ns) (Rens.strs ms),.tup (.cons (.ref rfl) (.cons (.ref rfl) .nil)),ns,ms,hS,rfl,rfl⟩
open PySem PyProof.Rows PySem.SeqAt
section
variable {test:AV→(Bool→Prop)→Prop} {el:AV→Nat→(AV→AH→Prop)→Prop}
theorem comp_map (g:AV→AV):∀ {items:List AV} {n:Nat} {K:List AV→AH→Prop},(∀ x ∈ items,∀ k:Bool→Prop,k true→test x k)→(∀ x ∈ items,∀ n k,k (g x) []→el x n k)→K (items.map g) []→compItems test el items n K
 | [],_,_,_,_,h=>h
 | x::r,n,K,ht,he,h=>by
  refine ht x (.head _) _ ?_
  simp only [if_true]
  exact he x (.head _) _ _ (comp_map g (K:=fun vs G=>K (g x::vs) G) (fun y hy=>ht y (.tail _ hy)) (fun y hy=>he y (.tail _ hy)) h)
theorem comp_of {β:Type} (c:β→AV) (Pb:β→Prop):∀ {items:List AV} {n:Nat} {K:List AV→AH→Prop},(∀ x ∈ items,∀ k:Bool→Prop,k true→test x k)→(∀ x ∈ items,∀ n k,(∀ b,Pb b→k (c b) [])→el x n k)→(∀ bs:List β,bs.length = items.length→(∀ b ∈ bs,Pb b)→K (bs.map c) [])→compItems test el items n K
 | [],_,_,_,_,h=>h [] rfl (by simp)
 | x::r,n,K,ht,he,h=>by
  refine ht x (.head _) _ ?_
  simp only [if_true]
  refine he x (.head _) _ _ fun b hb=>?_
  refine comp_of c Pb (K:=fun vs G=>K (c b::vs) G) (fun y hy=>ht y (.tail _ hy)) (fun y hy=>he y (.tail _ hy)) fun bs hl hp=>?_
  exact h (b::bs) (by simp [hl]) (by intro z hz;rcases List.mem_cons.mp hz with rfl | hz;exact hb;exact hp z hz)
theorem comp_lists (g:AV→List AV):∀ {items:List AV} {n:Nat} {K:List AV→AH→Prop},(∀ x ∈ items,∀ k:Bool→Prop,k true→test x k)→(∀ x ∈ items,∀ n k,k (.ref n) [g x]→el x n k)→K ((List.range' n items.length).map AV.ref) (items.map g)→compItems test el items n K
 | [],_,_,_,_,h=>h
 | x::r,n,K,ht,he,h=>by
  refine ht x (.head _) _ ?_
  simp only [if_true]
  exact he x (.head _) _ _ (comp_lists g (n:=n + 1) (K:=fun vs G=>K (.ref n::vs) (g x::G)) (fun y hy=>ht y (.tail _ hy)) (fun y hy=>he y (.tail _ hy)) h)
end
theorem opt_bind0 {x:AV} {k:List (Option AV)→Prop} (h:k [some x]):opt (bindItem 0 x) k:=h
theorem mk_ok {x:Str} (h:Mk x):PyData.strOk x = true:=by rcases h with rfl | rfl<;>decide +kernel
theorem Rds.marks {H:AH} {k:Nat} {ms:List Str} (h:∀ m ∈ ms,Mk m):Rds H k (ms.map AV.str) (ms.map PyData.str):=Rds.ofAll fun x hx=>.str x (mk_ok (h x hx))
theorem call_strip {P:PC} {l:Lv} {f:Nat} {vs:List AV} {H:AH} {Q:AV→AH→Prop} {X:Str→Prop} {top:Int} (hr:Rens [] H vs vs) (hu:CallJ P l f vs (GivesStrip top) X)
  (h:∀ ns ms,StripIs top ns ms→Q (.tup [.ref H.length,.ref (H.length + 1)]) (H++[ns.map AV.int,ms.map AV.str])):CallP P l f vs H Q X:=
 CallP.plain hr hu fun v Hc ⟨ns,ms,hS,e1,e2⟩=>by
  subst e1 e2
  have:=h ns ms hS
  rw [← shifts_ints H.length ns,← shifts_strs H.length ms] at this
  exact this
noncomputable def s3 (fc:Nat):CS:=.ite (.cmp .Eq (.bin .Mod (.var 1) (.const (.int (2)))) (.const (.int (1))))
  [      .assign 4 (.comp (.bin .Add (.call fc [(.var 0),(.bin .Add (.const (.int (3))) (.var 1))]) (.bin .Mult (.const (.int (17))) (.var 1))) [] [0] 0 (.prim .range [(.bin .Add (.const (.int (1))) (.bin .Mod (.bin .FloorDiv (.var 1) (.const (.int (2)))) (.const (.int (7)))))])),
   .assign 2 (.comp (.bin .Add (.const (.int (1))) (.bin .Mod (.bin .FloorDiv (.var 1) (.const (.int (2)))) (.idx (.lst [(.const (.int (2))),(.const (.int (3))),(.const (.int (6))),(.const (.int (9)))]) (.bin .Mod (.bin .FloorDiv (.var 0) (.const (.int (14)))) (.const (.int (4))))))) [] [1] 0 (.var 4)),
   .assign 3 (.comp (.idx (.lst [(.const (.str "hill")),(.const (.str "valley"))]) (.bin .Mod (.var 0) (.const (.int (2))))) [] [] 0 (.slc (.var 4) (.const (.int (1))) (.const .none) (.const .none)))]
  []
noncomputable def s5:CS:=.ite (.and (.cmp .Eq (.bin .Mod (.var 6) (.const (.int (4)))) (.const (.int (1)))) (.cmp .NotEq (.var 3) (.lst [])))
  [      .assign 7 (.bin .Mod (.bin .FloorDiv (.var 6) (.const (.int (4)))) (.prim .len [(.var 3)])),
   .setIdx (.var 3) (.var 7) (.idx (.lst [(.const (.str "hill")),(.const (.str "valley"))]) (.prim .int [(.cmp .Eq (.idx (.var 3) (.var 7)) (.const (.str "hill")))]))]
  []
noncomputable def s6:CS:=.ite (.cmp .Eq (.bin .Mod (.var 6) (.const (.int (4)))) (.const (.int (2))))
  [      .setIdx (.var 2) (.bin .Mod (.bin .FloorDiv (.var 6) (.const (.int (4)))) (.prim .len [(.var 2)])) (.bin .Add (.const (.int (1))) (.bin .Mod (.bin .FloorDiv (.var 6) (.const (.int (120)))) (.const (.int (9)))))]
  []
noncomputable def s8:CS:=.assign 8 (.comp (.bin .Mult (.idx (.lst [(.const (.int (1))),(.const (.int (1))),(.const (.int (1))),(.const (.int (7))),(.const (.int (100)))]) (.bin .Mod (.var 0) (.const (.int (5))))) (.var 1)) [] [5] 0 (.var 2))
noncomputable def s9:CS:=.ite (.cmp .Eq (.bin .Mod (.bin .FloorDiv (.var 5) (.const (.int (5)))) (.const (.int (8)))) (.const (.int (3))))
  [      .setIdx (.var 8) (.bin .Mod (.bin .FloorDiv (.var 5) (.const (.int (40)))) (.prim .len [(.var 8)])) (.idx (.lst [(.const (.int (1000))),(.const (.int (999))),(.bin .Add (.const (.int (1))) (.bin .Mod (.bin .FloorDiv (.var 5) (.const (.int (1200)))) (.const (.int (1000)))))]) (.bin .Mod (.bin .FloorDiv (.var 5) (.const (.int (1200)))) (.const (.int (3)))))]
  []
noncomputable def cs_strip (fc fu:Nat):List CS:=[
 .assign 1 (.call fc [(.var 0),(.const (.int (0)))]),
 .assignT [2,3] (.call fu [(.var 0),(.const (.int (3))),(.idx (.lst [(.bin .Mod (.bin .FloorDiv (.var 1) (.const (.int (2)))) (.const (.int (10)))),(.bin .Mod (.bin .FloorDiv (.var 1) (.const (.int (20)))) (.const (.int (33))))]) (.prim .int [(.cmp .Eq (.bin .Mod (.bin .FloorDiv (.var 1) (.const (.int (660)))) (.const (.int (8)))) (.const (.int (1))))]))]),
 s3 fc,
 .assign 6 (.call fc [(.var 0),(.const (.int (1)))]),
 s5,s6,
 .assign 5 (.call fc [(.var 0),(.const (.int (2)))]),
 s8,s9,
 .ret (.tup [(.var 8),(.var 3)])]
theorem seqS {P:PC} {l:Lv} {c:CS} {r:List CS} {loc:Loc} {H:AH} {Qn:Loc→AH→Prop} {Qr:AV→AH→Prop} {Qx:Str→Loc→AH→Prop} (h:wpS P l c loc H (fun loc' H'=>wpSs P l r loc' H' Qn Qr Qx) Qr Qx):wpSs P l (c::r) loc H Qn Qr Qx:=h
inductive SJ (top:Int) (a0 a1 a2 a3 a6 a8:Option AV) (loc:Loc) (H:AH):Prop
 | mk (ns:_) (ms:_):StripIs top ns ms→loc = [a0,a1,a2,a3,none,none,a6,none,a8]→H = [ns.map AV.int,ms.map AV.str]→SJ top a0 a1 a2 a3 a6 a8 loc H
noncomputable def sFl (sc:List Int):Option AV:=some (.fl (sc.map AV.int))
section
variable {ns:List Int} {ms:List Str} {sc:List Int} {head more cell:Int} {a b:Nat} {H:AH} {o2 o4 o5 o6 o7 o8:Option AV} {g:List AV}
theorem SJ.cut (hS:StripIs 9 ns ms) (ha:H[a]? = some (ns.map AV.int)) (hb:H[b]? = some (ms.map AV.str)) (hne:a ≠ b) :
  Cut none (SJ 9 (sFl sc) (some (.int head)) (some (.ref 0)) (some (.ref 1)) none none) [sFl sc,some (.int head),some (.ref a),some (.ref b),o4,o5,o6,o7,o8] H:=
 ⟨_,_,.inr ⟨[a,b],pin0,RenH.two ha hb hne (Rens.ints ns) (Rens.strs ms),.keep (.fl (Rens.ints sc)) (.keep (.int _) (.keep (.ref rfl) (.keep (.ref rfl) (.drop (.drop (.drop (.drop (.drop .nil))))))))⟩,ns,ms,hS,rfl,rfl⟩
theorem SJ.cut6 (hS:StripIs 9 ns ms) (ha:H[a]? = some (ns.map AV.int)) (hb:H[b]? = some (ms.map AV.str)) (hne:a ≠ b) :
  Cut none (SJ 9 (sFl sc) (some (.int head)) (some (.ref 0)) (some (.ref 1)) (some (.int more)) none) [sFl sc,some (.int head),some (.ref a),some (.ref b),o4,o5,some (.int more),o7,o8] H:=
 ⟨_,_,.inr ⟨[a,b],pin0,RenH.two ha hb hne (Rens.ints ns) (Rens.strs ms),.keep (.fl (Rens.ints sc)) (.keep (.int _) (.keep (.ref rfl) (.keep (.ref rfl) (.drop (.drop (.keep (.int _) (.drop (.drop .nil))))))))⟩,ns,ms,hS,rfl,rfl⟩
theorem SJ.cut8 (hS:StripIs 1000 ns ms) (ha:H[a]? = some (ns.map AV.int)) (hb:H[b]? = some (ms.map AV.str)) (hne:a ≠ b) :
  Cut none (SJ 1000 (sFl sc) none none (some (.ref 1)) none (some (.ref 0))) [sFl sc,some (.int head),o2,some (.ref b),o4,o5,o6,o7,some (.ref a)] H:=
 ⟨_,_,.inr ⟨[a,b],pin0,RenH.two ha hb hne (Rens.ints ns) (Rens.strs ms),.keep (.fl (Rens.ints sc)) (.drop (.drop (.keep (.ref rfl) (.drop (.drop (.drop (.drop (.keep (.ref rfl) .nil))))))))⟩,ns,ms,hS,rfl,rfl⟩
theorem StripIs.setN {top v:Int} {p:Nat} (h:StripIs top ns ms) (hv:1 ≤ v∧v ≤ top):StripIs top (ns.set p v) ms:=
 ⟨by rw [List.length_set];exact h.len,by rw [List.length_set];exact h.most,fun n hn=>(List.mem_or_eq_of_mem_set hn).elim (h.nums n) fun e=>e ▸ hv,h.marks⟩
theorem StripIs.setM {top:Int} {v:Str} {p:Nat} (h:StripIs top ns ms) (hv:Mk v):StripIs top ns (ms.set p v):=
 ⟨by rw [List.length_set];exact h.len,h.most,h.nums,fun n hn=>(List.mem_or_eq_of_mem_set hn).elim (h.marks n) fun e=>e ▸ hv⟩
theorem mod_len {L:List AV} {x:Int} (h:0 < L.length):0 ≤ x % (L.length:Int)∧x % (L.length:Int) < L.length:=⟨Int.emod_nonneg _ (Int.ne_of_gt (Int.natCast_pos.mpr h)),Int.emod_lt_of_pos _ (Int.natCast_pos.mpr h)⟩
theorem int_of {w:AV} {lo hi:Int} {L:List Int} (hL:∀ n ∈ L,lo ≤ n∧n ≤ hi) (h:w ∈ L.map AV.int):∃ m,w = .int m∧lo ≤ m∧m ≤ hi:=by
 obtain ⟨m,hm,rfl⟩:=List.mem_map.mp h
 exact ⟨m,rfl,hL m hm⟩
theorem b01 (p:Bool):(0:Int) ≤ (if p then 1 else 0)∧(if p then 1 else 0:Int) < (2:Nat):=by cases p<;>decide
theorem all2 {p:Int→Prop} {x y:Int} (h1:p x) (h2:p y):∀ n ∈ [x,y],p n:=fun n hn=>(List.mem_cons.mp hn).elim (fun e=>e ▸ h1) fun hn=>List.mem_singleton.mp hn ▸ h2
theorem allc {p:Int→Prop} {x:Int} {L:List Int} (h1:p x) (h2:∀ n ∈ L,p n):∀ n ∈ x::L,p n:=fun n hn=>(List.mem_cons.mp hn).elim (fun e=>e ▸ h1) (h2 n)
theorem emod_le {x n:Int} (h:0 < n) {m:Int} (hm:n ≤ m + 1):0 ≤ x % n∧x % n ≤ m:=⟨Int.emod_nonneg _ (Int.ne_of_gt h),by have:=Int.emod_lt_of_pos x h;(first | lia | omega)⟩
variable {P:PC} {l:Lv} {lk:Nat} {lq:Bool} {X:Str→Prop} {Qn:Loc→AH→Prop} {Qr:AV→AH→Prop} {fc:Nat}
theorem st3_a {i m:Int} (h0:2 ≤ m) (h1:m ≤ 9):0 < m∧1 ≤ 1 + i / 2 % m∧1 + i / 2 % m ≤ 9:=by
 have:=emod_le (x:=i / 2) (n:=m) (by (first | lia | omega)) (m:=8) (by (first | lia | omega))
 (first | lia | omega)
theorem st3 (hq:lq = true) (hk:0 < lk) (hc:∀ k:Int,0 ≤ k→k < 100000→CallJ P ⟨lk,lq,none⟩ fc [.fl (sc.map AV.int),.int k] IsCell X) (hS:StripIs 9 ns ms)
  (hQ:∀ loc H,SJ 9 (sFl sc) (some (.int head)) (some (.ref 0)) (some (.ref 1)) none none loc H→Qn loc H) :
  wpS P ⟨lk,lq,none⟩ (s3 fc) [sFl sc,some (.int head),some (.ref 1),some (.ref 2),none,none,none,none,none] [g,ns.map AV.int,ms.map AV.str] Qn Qr (fun c _ _=>X c):=by
 refine ⟨_,hQ,by decide,brk (fun _=>?_) fun _=>SJ.cut hS rfl rfl (by decide)⟩
 unfold sFl
 (refine wpSs_cons.mpr ?_;tm_at "wps")
 have hN:1 ≤ 1 + head / 2 % 7∧1 + head / 2 % 7 ≤ 7:=by have:=emod_le (x:=head / 2) (n:=7) (by decide) (m:=6) (by decide);(first | lia | omega)
 refine ⟨hq,hq,⟨by decide,by decide⟩,by decide,⟨by decide,by (first | lia | omega),by decide⟩,?_⟩
 generalize 1 + head / 2 % 7 = N at hN ⊢
 have hl:(rngList 0 N 1).length ≤ 7:=by rw [rngList1_len];(first | lia | omega)
 refine ⟨_,_,[some (.fl (sc.map AV.int))],rfl,Nat.le_trans (mapI_le hl) (by decide),Rens.ints _,.cons rfl (.fl (Rens.ints sc)) .nil,comp_of AV.int (fun n=>0 ≤ n) (fun x hx k hk=>opt_bind0 hk) ?_ ?_⟩
 ·intro x hx n k hk1
  obtain ⟨i,hi,rfl⟩:=List.mem_map.mp hx
  rw [rngList1] at hi
  obtain ⟨j,hj,rfl⟩:=List.mem_map.mp hi
  have hj:=List.mem_range.mp hj
  refine opt_bind0 ⟨hk,?_⟩
  tm_at "wps"
  refine call_cell hc (by (first | lia | omega)) (by (first | lia | omega)) fun c hc0 _=>?_
  exact ⟨.inr (by decide),eltK.frz (.int _) (.inr (.int _)) (hk1 _ (by (first | lia | omega)))⟩
 ·intro cs hcs hcp
  have h7:cs.length ≤ 7:=by rw [hcs,List.length_map];exact hl
  rw [List.length_map,rngList1_len] at hcs
  have h1:1 ≤ cs.length:=by (first | lia | omega)
  (refine wpSs_cons.mpr ?_;tm_at "wps")
  refine ⟨hq,_,_,[some (.int head)],rfl,Nat.le_trans (mapI_le h7) (by decide),Rens.ints _,.cons rfl (.int _) .nil,comp_of AV.int (fun n=>1 ≤ n∧n ≤ 9) (fun x hx k hk=>opt_bind0 hk) ?_ ?_⟩
  ·intro x hx n k hk1
   obtain ⟨i,hi,rfl⟩:=List.mem_map.mp hx
   refine opt_bind0 ?_
   tm_at "wps"
   refine ⟨⟨by decide,by decide⟩,by decide,⟨by decide,by decide⟩,by decide,i_any rfl (by decide) (Int.emod_nonneg _ (by decide)) (Int.emod_lt_of_pos _ (by decide)) fun w hw=>?_⟩
   obtain ⟨m,rfl,hm0,hm1⟩:=int_of (L:=[2,3,6,9]) (lo:=2) (hi:=9) (by decide) hw
   obtain ⟨q0,q1⟩:=st3_a (i:=i) hm0 hm1
   exact ⟨q0,eltK.frz (.int _) (.inr (.int _)) (hk1 _ q1)⟩
  ·intro ns' hns hnp
   rw [List.length_map] at hns
   (refine wpSs_cons.mpr ?_;tm_at "wps")
   refine ⟨hq,sl_from rfl (Nat.le_trans (mapI_le h7) (by decide)) (by decide) ?_⟩
   tm_at "wps"
   refine ⟨_,(cs.drop 1).map AV.int,[],rfl,Nat.le_trans (drop_le (mapI_le h7)) (by decide),by rw [List.map_drop];exact List.map_drop ▸ Rens.ints (φ:=[]) (cs.drop 1),.nil,comp_of AV.str Mk (fun x hx k hk=>opt_bind0 hk) ?_ ?_⟩
   ·intro x hx n k hk1
    obtain ⟨i,hi,rfl⟩:=List.mem_map.mp hx
    refine opt_bind0 ?_
    tm_at "wps"
    refine ⟨by decide,by decide,i_any rfl (by decide) (Int.emod_nonneg _ (by decide)) (Int.emod_lt_of_pos _ (by decide)) fun w hw=>?_⟩
    obtain ⟨mk,rfl,hmk⟩:=mk_of (.inl rfl) (.inr rfl) hw
    exact eltK.frz (.str _) (.inr (.str _)) (hk1 _ hmk)
   ·intro ms' hms hmp
    rw [List.length_map,List.length_drop] at hms
    exact SJ.cut (a:=4) (b:=6) (ns:=ns') (ms:=ms') ⟨by rw [hns,hms];exact (Nat.sub_add_cancel h1).symm,Nat.le_trans (Nat.le_of_eq hns) (Nat.le_trans h7 (by decide)),hnp,hmp⟩ rfl rfl (by decide)
theorem st5 (hq:lq = true) (hS:StripIs 9 ns ms) (hQ:∀ loc H,SJ 9 (sFl sc) (some (.int head)) (some (.ref 0)) (some (.ref 1)) (some (.int more)) none loc H→Qn loc H) :
  wpS P ⟨lk,lq,none⟩ s5 [sFl sc,some (.int head),some (.ref 0),some (.ref 1),none,none,some (.int more),none,none] [ns.map AV.int,ms.map AV.str] Qn Qr (fun c _ _=>X c):=by
 refine ⟨_,hQ,by decide,brk (fun _=>⟨by decide,_,_,.ref rfl (Rds.marks hS.marks),.ref rfl .nil,?_⟩) fun _=>SJ.cut6 hS rfl rfl (by decide)⟩
 cases ms with
 | nil=>
  rw [show (PyData.list (List.map PyData.str [])).eqv (PyData.list []) = true from by decide +kernel]
  exact SJ.cut6 hS rfl rfl (by decide)
 | cons m0 mr=>
  rw [show (PyData.list (List.map PyData.str (m0::mr))).eqv (PyData.list []) = false from by simp [PyData.eqv,PyData.eqvAll]]
  have hp:0 < ((m0::mr).map AV.str).length:=Nat.succ_pos _
  have hs:((m0::mr).map AV.str).length ≤ smallN:=mapS_le (Nat.le_of_lt hS.small2)
  generalize m0::mr = ms at hS hp hs ⊢
  obtain ⟨hp0,hp1⟩:=mod_len (x:=more / 4) hp
  tm_at "wps"
  (refine wpSs_cons.mpr ?_;tm_at "wps")
  refine ⟨⟨by decide,by decide⟩,hq,hs,Int.natCast_pos.mpr hp,?_⟩
  generalize more / 4 % ((ms.map AV.str).length:Int) = p at hp0 hp1 ⊢
  (refine wpSs_cons.mpr ?_;tm_at "wps")
  refine ⟨by decide,hq,i_any rfl hs hp0 hp1 fun w hw=>?_⟩
  obtain ⟨z,hz,rfl⟩:=List.mem_map.mp hw
  refine ⟨_,_,.str _ (mk_ok (hS.marks z hz)),.str _ (mk_ok (.inl rfl)),?_⟩
  tm_at "wps"
  refine i_any rfl (by decide) (b01 _).1 (b01 _).2 fun w hw=>?_
  obtain ⟨mk,rfl,hmk⟩:=mk_of (.inl rfl) (.inr rfl) hw
  refine ⟨_,_,_,rfl,rfl,rfl,hp0,hp1,hs,?_⟩
  exact SJ.cut6 (a:=0) (b:=1) (ms:=ms.set p.toNat mk) (hS.setM hmk) rfl (by rw [List.map_set];rfl) (by decide)
theorem st6 (hq:lq = true) (hS:StripIs 9 ns ms) (hQ:∀ loc H,SJ 9 (sFl sc) (some (.int head)) (some (.ref 0)) (some (.ref 1)) none none loc H→Qn loc H) :
  wpS P ⟨lk,lq,none⟩ s6 [sFl sc,some (.int head),some (.ref 0),some (.ref 1),none,none,some (.int more),none,none] [ns.map AV.int,ms.map AV.str] Qn Qr (fun c _ _=>X c):=by
 refine ⟨_,hQ,by decide,brk (fun _=>?_) fun _=>SJ.cut hS rfl rfl (by decide)⟩
 have hp:0 < (ns.map AV.int).length:=by rw [List.length_map];exact Int.natCast_pos.mp hS.pos
 have hs:(ns.map AV.int).length ≤ smallN:=mapI_le (Nat.le_of_lt hS.small)
 obtain ⟨hp0,hp1⟩:=mod_len (x:=more / 4) hp
 (refine wpSs_cons.mpr ?_;tm_at "wps")
 refine ⟨⟨by decide,by decide⟩,by decide,⟨by decide,by decide⟩,hq,hs,Int.natCast_pos.mpr hp,_,_,_,rfl,rfl,rfl,hp0,hp1,hs,?_⟩
 exact SJ.cut (a:=0) (b:=1) (ns:=ns.set _ _) (hS.setN (v:=1 + more / 120 % 9) (by have:=emod_le (x:=more / 120) (n:=9) (by decide) (m:=8) (by decide);(first | lia | omega))) (by rw [List.map_set];rfl) rfl (by decide)
theorem st8 (hq:lq = true) (hS:StripIs 9 ns ms) (hQ:∀ ns',StripIs 1000 ns' ms→Qn [sFl sc,some (.int head),some (.ref 0),some (.ref 1),none,some (.int cell),none,none,some (.ref 2)] [ns.map AV.int,ms.map AV.str,ns'.map AV.int]) :
  wpS P ⟨lk,lq,none⟩ s8 [sFl sc,some (.int head),some (.ref 0),some (.ref 1),none,some (.int cell),none,none,none] [ns.map AV.int,ms.map AV.str] Qn Qr (fun c _ _=>X c):=by
 refine ⟨hq,_,_,[some (.int cell)],rfl,mapI_le (Nat.le_of_lt hS.small),Rens.ints _,.cons rfl (.int _) .nil,comp_of AV.int (fun n=>1 ≤ n∧n ≤ 1000) (fun x hx k hk=>opt_bind0 hk) ?_ ?_⟩
 ·intro x hx n k hk
  obtain ⟨i,hi,rfl⟩:=List.mem_map.mp hx
  have hi':=hS.nums i hi
  refine opt_bind0 ?_
  tm_at "wps"
  refine ⟨by decide,by decide,i_any rfl (by decide) (Int.emod_nonneg _ (by decide)) (Int.emod_lt_of_pos _ (by decide)) fun w hw=>?_⟩
  obtain ⟨m,hm,rfl⟩:=List.mem_map.mp (show w ∈ [1,1,1,7,100].map AV.int from hw)
  replace hm:m = 1 ∨ m = 7 ∨ m = 100:=by simpa using hm
  exact ⟨.inl (by (first | lia | omega)),eltK.frz (.int _) (.inr (.int _)) (hk _ (by rcases hm with rfl | rfl | rfl<;>(first | lia | omega)))⟩
 ·intro fs hfs hfp
  rw [List.length_map] at hfs
  exact hQ fs ⟨hfs.trans hS.len,hfs ▸ hS.most,hfp,hS.marks⟩
theorem st9 (hq:lq = true) {L:List Int} (hS:StripIs 1000 ns ms) (hQ:∀ loc H,SJ 1000 (sFl sc) none none (some (.ref 1)) none (some (.ref 0)) loc H→Qn loc H) :
  wpS P ⟨lk,lq,none⟩ s9 [sFl sc,some (.int head),some (.ref 0),some (.ref 1),none,some (.int cell),none,none,some (.ref 2)] [L.map AV.int,ms.map AV.str,ns.map AV.int] Qn Qr (fun c _ _=>X c):=by
 refine ⟨_,hQ,⟨by decide,by decide⟩,by decide,brk (fun _=>?_) fun _=>SJ.cut8 hS rfl rfl (by decide)⟩
 have hp:0 < (ns.map AV.int).length:=by rw [List.length_map];exact Int.natCast_pos.mp hS.pos
 have hs:(ns.map AV.int).length ≤ smallN:=mapI_le (Nat.le_of_lt hS.small)
 obtain ⟨hp0,hp1⟩:=mod_len (x:=cell / 40) hp
 (refine wpSs_cons.mpr ?_;tm_at "wps")
 refine ⟨⟨by decide,by decide⟩,by decide,by decide,⟨by decide,by decide⟩,by decide,i_any rfl (show 3 ≤ smallN by decide) (Int.emod_nonneg _ (by decide)) (Int.emod_lt_of_pos _ (by decide)) fun w hw=>?_⟩
 have hm:=emod_le (x:=cell / 1200) (n:=1000) (by decide) (m:=999) (by decide)
 obtain ⟨v,rfl,hv⟩:=int_of (L:=[1000,999,1 + cell / 1200 % 1000]) (lo:=1) (hi:=1000) (allc (by decide) (all2 (by decide) (by (first | lia | omega)))) hw
 tm_at "wps"
 refine ⟨⟨by decide,by decide⟩,hq,hs,Int.natCast_pos.mpr hp,_,_,_,rfl,rfl,rfl,hp0,hp1,hs,?_⟩
 exact SJ.cut8 (a:=2) (b:=1) (ns:=ns.set _ _) (hS.setN hv) (by rw [List.map_set];rfl) rfl (by decide)
end
theorem strip_ok {P:PC} {l:Lv} {f fc fu:Nat} {ps rest:List Str} {X:Str→Prop} (F:FnIs P f ps rest (cs_strip fc fu)) (hp:ps.length = 1) (hr:rest.length = 8) (hk:2 < l.k) (hq:l.q = true) {sc:List Int}
  (hc:∀ k:Int,0 ≤ k→k < 100000→CallJ P ⟨l.k - 1,l.q,none⟩ fc [.fl (sc.map AV.int),.int k] IsCell X)
  (hu:∀ first many:Int,0 ≤ first→first < 1000→0 ≤ many→many ≤ 33→CallJ P ⟨l.k - 1,l.q,none⟩ fu [.fl (sc.map AV.int),.int first,.int many] (GivesStrip 9) X) :
  CallJ P l f [.fl (sc.map AV.int)] (GivesStrip 1000) X:=by
 have hk':0 < l.k - 1:=Nat.sub_pos_of_lt (Nat.lt_of_succ_lt hk)
 refine CallJ.ren (F.call (Nat.lt_of_succ_lt (Nat.lt_of_succ_lt hk)) (by simp [hp]) ?_)
 rw [hr]
 unfold cs_strip
 (refine wpSs_cons.mpr ?_;tm_at "wps")
 refine ⟨hk',call_cell hc (by decide) (by decide) fun head _ _=>?_⟩
 (refine wpSs_cons.mpr ?_;tm_at "wps")
 refine ⟨hq,hk',⟨by decide,by decide⟩,by decide,⟨by decide,by decide⟩,by decide,by decide,hq,⟨by decide,by decide⟩,by decide,?_⟩
 refine i_any rfl (show 2 ≤ smallN by decide) (b01 _).1 (b01 _).2 fun w hw=>?_
 obtain ⟨m,rfl,hm0,hm1⟩:=int_of (L:=[head / 2 % 10,head / 20 % 33]) (lo:=0) (hi:=33) (all2 (emod_le (by decide) (by decide)) (emod_le (by decide) (by decide))) hw
 tm_at "wps"
 refine call_strip (.cons (.fl (Rens.ints sc)) (.cons (.int _) (.cons (.int _) .nil))) (hu 3 m (by decide) (by decide) hm0 hm1) fun ns ms hS=>?_
 refine seqS (st3 (lk:=l.k - 1) (lq:=l.q) hq hk' hc hS ?_)
 rintro loc H ⟨ns,ms,hS,rfl,rfl⟩
 unfold sFl
 (refine wpSs_cons.mpr ?_;tm_at "wps")
 refine ⟨hk',call_cell hc (by decide) (by decide) fun more _ _=>?_⟩
 refine seqS (st5 (lk:=l.k - 1) (lq:=l.q) hq hS ?_)
 rintro loc H ⟨ns,ms,hS,rfl,rfl⟩
 refine seqS (st6 (lk:=l.k - 1) (lq:=l.q) hq hS ?_)
 rintro loc H ⟨ns,ms,hS,rfl,rfl⟩
 unfold sFl
 (refine wpSs_cons.mpr ?_;tm_at "wps")
 refine ⟨hk',call_cell hc (by decide) (by decide) fun cell _ _=>?_⟩
 refine seqS (st8 (lk:=l.k - 1) (lq:=l.q) hq hS fun ns' hS'=>?_)
 refine seqS (st9 (lk:=l.k - 1) (lq:=l.q) hq hS' ?_)
 rintro loc H ⟨ns,ms,hS,rfl,rfl⟩
 exact ⟨by decide,[0,1],_,_,RenH.two rfl rfl (by decide) (Rens.ints ns) (Rens.strs ms),.tup (.cons (.ref rfl) (.cons (.ref rfl) .nil)),ns,ms,hS,rfl,rfl⟩
open PySem PyProof.Rows PySem.SeqAt
noncomputable def cs_left (fs fc:Nat):List CS:=[
 .assignT [1,2] (.call fs [(.var 0)]),
 .assign 3 (.call fc [(.var 0),(.const (.int (2)))]),
 .ite (.and (.cmp .Eq (.bin .Mod (.bin .FloorDiv (.var 3) (.const (.int (7)))) (.const (.int (6)))) (.const (.int (1)))) (.cmp .Lt (.prim .len [(.var 1)]) (.const (.int (29)))))
  [      .setIdx (.var 1) (.bin .Mod (.bin .FloorDiv (.var 3) (.const (.int (42)))) (.prim .len [(.var 1)])) (.bin .Add (.const (.int (1001))) (.bin .Mod (.bin .FloorDiv (.var 3) (.const (.int (1300)))) (.const (.int (999)))))]
  [],
 .ret (.tup [(.var 1),(.var 2)])]
theorem StripIs.up {a b:Int} {ns:List Int} {ms:List Str} (h:StripIs a ns ms) (hab:a ≤ b):StripIs b ns ms:=⟨h.len,h.most,fun n hn=>⟨(h.nums n hn).1,Int.le_trans (h.nums n hn).2 hab⟩,h.marks⟩
inductive LJ (sc:List Int) (loc:Loc) (H:AH):Prop
 | mk (ns:_) (ms:_):StripIs 2000 ns ms→loc = [sFl sc,some (.ref 0),some (.ref 1),none]→H = [ns.map AV.int,ms.map AV.str]→LJ sc loc H
theorem LJ.cut {sc ns:List Int} {ms:List Str} {H:AH} {o:Option AV} (hS:StripIs 2000 ns ms) (ha:H[0]? = some (ns.map AV.int)) (hb:H[1]? = some (ms.map AV.str)):Cut none (LJ sc) [sFl sc,some (.ref 0),some (.ref 1),o] H:=
 ⟨_,_,.inr ⟨[0,1],pin0,RenH.two ha hb (by decide) (Rens.ints ns) (Rens.strs ms),.keep (.fl (Rens.ints sc)) (.keep (.ref rfl) (.keep (.ref rfl) (.drop .nil)))⟩,ns,ms,hS,rfl,rfl⟩
theorem left_ok {P:PC} {l:Lv} {f fs fc:Nat} {ps rest:List Str} {X:Str→Prop} (F:FnIs P f ps rest (cs_left fs fc)) (hp:ps.length = 1) (hr:rest.length = 3) (hk:0 < l.k) (hk2:1 < l.k) (hq:l.q = true) {sc:List Int}
  (hc:∀ k:Int,0 ≤ k→k < 100000→CallJ P ⟨l.k - 1,l.q,none⟩ fc [.fl (sc.map AV.int),.int k] IsCell X) (hs:CallJ P ⟨l.k - 1,l.q,none⟩ fs [.fl (sc.map AV.int)] (GivesStrip 1000) X) :
  CallJ P l f [.fl (sc.map AV.int)] (GivesStrip 2000) X:=by
 have hk':0 < l.k - 1:=Nat.sub_pos_of_lt hk2
 refine CallJ.ren (F.call hk (by simp [hp]) ?_)
 rw [hr]
 unfold cs_left
 (refine wpSs_cons.mpr ?_;tm_at "wps")
 refine ⟨hq,hk',call_strip (.cons (.fl (Rens.ints sc)) .nil) hs fun ns ms hS=>?_⟩
 (refine wpSs_cons.mpr ?_;tm_at "wps")
 refine ⟨hk',call_cell hc (by decide) (by decide) fun cell _ _=>?_⟩
 (refine wpSs_cons.mpr ?_;tm_at "wps")
 have hp:0 < (ns.map AV.int).length:=by rw [List.length_map];exact Int.natCast_pos.mp hS.pos
 have hs:(ns.map AV.int).length ≤ smallN:=mapI_le (Nat.le_of_lt hS.small)
 refine ⟨LJ sc,?_,⟨by decide,by decide⟩,by decide,brk (fun _=>⟨hq,hs,brk (fun _=>?_) fun _=>LJ.cut (hS.up (by decide)) rfl rfl⟩) fun _=>LJ.cut (hS.up (by decide)) rfl rfl⟩
 ·rintro loc H ⟨ns,ms,hS,rfl,rfl⟩
  exact ⟨by decide,[0,1],_,_,RenH.two rfl rfl (by decide) (Rens.ints ns) (Rens.strs ms),.tup (.cons (.ref rfl) (.cons (.ref rfl) .nil)),ns,ms,hS,rfl,rfl⟩
 ·obtain ⟨hp0,hp1⟩:=mod_len (x:=cell / 42) hp
  (refine wpSs_cons.mpr ?_;tm_at "wps")
  refine ⟨⟨by decide,by decide⟩,by decide,⟨by decide,by decide⟩,hq,hs,Int.natCast_pos.mpr hp,_,_,_,rfl,rfl,rfl,hp0,hp1,hs,?_⟩
  exact LJ.cut (ns:=ns.set _ _) ((hS.up (by decide)).setN (v:=1001 + cell / 1300 % 999) (by have:=emod_le (x:=cell / 1300) (n:=999) (by decide) (m:=998) (by decide);(first | lia | omega))) (by rw [List.map_set];rfl) rfl
theorem eqv_ints:∀ (l:List Int),PyData.eqvAll (l.map PyData.int) (l.map PyData.int) = true
 | []=>rfl
 | x::r=>by simp [PyData.eqvAll,PyData.eqv,eqv_ints r]
theorem eqv_strs:∀ (l:List Str),PyData.eqvAll (l.map PyData.str) (l.map PyData.str) = true
 | []=>rfl
 | x::r=>by simp [PyData.eqvAll,PyData.eqv,eqv_strs r]
noncomputable def cs_whole:List CS:=[
 .ret (.and (.isin .int (.var 0)) (.not (.isin .bool (.var 0))))]
theorem whole_ok {P:PC} {l:Lv} {f:Nat} {ps rest:List Str} {X:Str→Prop} (F:FnIs P f ps rest cs_whole) (hp:ps.length = 1) (hr:rest.length = 0) (hk:0 < l.k) (n:Int):CallJ P l f [.int n] (fun v H=>v = .bool true∧H = []) X:=by
 refine F.call hk (by simp [hp]) ?_
 rw [hr]
 unfold cs_whole
 (refine wpSs_cons.mpr ?_;tm_at "wps")
 simp [isI_int,isI_bool,isI_str,isI_tup,isI_fl,isI_ref]
noncomputable def cs_is_strip (fw:Nat):List CS:=[
 .ite (.or (.not (.isin .tuple (.var 0))) (.cmp .NotEq (.prim .len [(.var 0)]) (.const (.int (2)))))
  [      .ret (.const (.bool false))]
  [],
 .ite (.or (.not (.isin .list (.idx (.var 0) (.const (.int (0)))))) (.not (.isin .list (.idx (.var 0) (.const (.int (1)))))))
  [      .ret (.const (.bool false))]
  [],
 .ite (.or (.not (.prim .all [(.comp (.call fw [(.var 0)]) [] [] 0 (.idx (.var 0) (.const (.int (0)))))])) (.not (.prim .all [(.comp (.isin .str (.var 0)) [] [] 0 (.idx (.var 0) (.const (.int (1)))))])))
  [      .ret (.const (.bool false))]
  [],
 .ret (.and (.cmp .Eq (.idx (.var 0) (.const (.int (0)))) (.idx (.var 1) (.const (.int (0))))) (.cmp .Eq (.idx (.var 0) (.const (.int (1)))) (.idx (.var 1) (.const (.int (1))))))]
theorem is_strip_ok {P:PC} {l:Lv} {f fw:Nat} {ps rest:List Str} {X:Str→Prop} (F:FnIs P f ps rest (cs_is_strip fw)) (hp:ps.length = 2) (hr:rest.length = 0) (hk:1 < l.k) (hq:l.q = true) (hw:∀ n:Int,CallJ P ⟨l.k - 1,l.q,none⟩ fw [.int n] (fun v H=>v = .bool true∧H = []) X)
  {ns:List Int} {ms:List Str} (hn:ns.length ≤ 1000) (hm:ms.length ≤ 1000) (hok:∀ m ∈ ms,PyData.strOk m = true) :
  CallJ P l f [.tup [.fl (ns.map AV.int),.fl (ms.map AV.str)],.tup [.fl (ns.map AV.int),.fl (ms.map AV.str)]] (fun v _=>v = .bool true) X:=by
 refine F.call (by (first | lia | omega)) (by simp [hp]) ?_
 rw [hr]
 unfold cs_is_strip
 (refine wpSs_cons.mpr ?_;tm_at "wps")
 refine ⟨fun loc H=>loc = [some (.tup [.fl (ns.map AV.int),.fl (ms.map AV.str)]),some (.tup [.fl (ns.map AV.int),.fl (ms.map AV.str)])]∧H = [],?_,?_⟩
 rotate_left
 ·simp [isI_int,isI_bool,isI_str,isI_tup,isI_fl,isI_ref,smallN,hq]
  exact wpSs_nil.mpr (Cut.here ⟨rfl,rfl⟩)
 rintro loc H ⟨rfl,rfl⟩
 (refine wpSs_cons.mpr ?_;tm_at "wps")
 refine ⟨fun loc H=>loc = [some (.tup [.fl (ns.map AV.int),.fl (ms.map AV.str)]),some (.tup [.fl (ns.map AV.int),.fl (ms.map AV.str)])]∧H = [],?_,?_⟩
 rotate_left
 ·simp [isI_int,isI_bool,isI_str,isI_tup,isI_fl,isI_ref,smallN,hq]
  exact wpSs_nil.mpr (Cut.here ⟨rfl,rfl⟩)
 rintro loc H ⟨rfl,rfl⟩
 (refine wpSs_cons.mpr ?_;tm_at "wps")
 refine ⟨fun loc H=>loc = [some (.tup [.fl (ns.map AV.int),.fl (ms.map AV.str)]),some (.tup [.fl (ns.map AV.int),.fl (ms.map AV.str)])]∧H = [],?_,?_⟩
 ·rintro loc H ⟨rfl,rfl⟩
  (refine wpSs_cons.mpr ?_;tm_at "wps")
  refine ⟨_,_,.fl (Rds.ints ns),.fl (Rds.ints ns),?_⟩
  rw [show (PyData.list (ns.map PyData.int)).eqv (PyData.list (ns.map PyData.int)) = true from eqv_ints ns]
  tm_at "wps"
  refine ⟨_,_,.fl (Rds.ofAll fun x hx=>.str x (hok x hx)),.fl (Rds.ofAll fun x hx=>.str x (hok x hx)),?_⟩
  rw [show (PyData.list (ms.map PyData.str)).eqv (PyData.list (ms.map PyData.str)) = true from eqv_strs ms]
 ·refine ⟨hq,hq,_,_,_,rfl,by simp [smallN];(first | lia | omega),Rens.ints ns,.nil,comp_map (fun _=>.bool true) (fun x hx k hk=>opt_bind0 hk) ?_ ?_⟩
  ·intro x hx n k hk'
   obtain ⟨i,hi,rfl⟩:=List.mem_map.mp hx
   refine opt_bind0 ⟨by (first | lia | omega),?_⟩
   tm_at "wps"
   refine CallP.plain (.cons (.int i) .nil) (hw i) ?_
   rintro v Hc ⟨rfl,rfl⟩
   exact eltK.frz (.bool _) (.inr (.bool _)) hk'
  ·refine ⟨ns.map fun _=>true,by simp,?_⟩
   have e1:(ns.map fun _=>true).all id = true:=by simp
   rw [e1]
   tm_at "wps"
   refine ⟨hq,hq,_,_,_,rfl,by simp [smallN];(first | lia | omega),Rens.strs ms,.nil,comp_map (fun _=>.bool true) (fun x hx k hk=>opt_bind0 hk) ?_ ?_⟩
   ·intro x hx n k hk'
    obtain ⟨i,hi,rfl⟩:=List.mem_map.mp hx
    refine opt_bind0 ?_
    tm_at "wps"
    exact eltK.frz (.bool _) (.inr (.bool _)) hk'
   ·refine ⟨ms.map fun _=>true,by simp,?_⟩
    have e1:(ms.map fun _=>true).all id = true:=by simp
    rw [e1]
    tm_at "wps"
    refine wpSs_nil.mpr ⟨_,_,.inr ⟨[],pin0,RenH.nil,?_⟩,rfl,rfl⟩
    refine .keep (.tup (.cons (.fl (Rens.ints ns)) (.cons (.fl (Rens.strs ms)) .nil))) (.keep (.tup (.cons (.fl (Rens.ints ns)) (.cons (.fl (Rens.strs ms)) .nil))) .nil)
open PySem PyProof.Rows PySem.SeqAt
noncomputable def Gives (a:List Int) (b:List Str) (v:AV) (H:AH):Prop:=v = .tup [.ref 0,.ref 1]∧H = [a.map AV.int,b.map AV.str]
theorem tn_sub (b:Int) (i:Nat):(b - (i:Int)).toNat = b.toNat - i:=by
 cases b with
 | ofNat n=>exact Int.toNat_sub n i
 | negSucc n=>exact (Int.toNat_of_nonpos (Int.le_of_lt (Int.lt_of_le_of_lt (Int.sub_le_self _ (Int.natCast_nonneg i)) (Int.negSucc_lt_zero n)))).trans (Nat.zero_sub i).symm
theorem toNat_lt {i:Int} {n:Nat} (h0:0 ≤ i) (h1:i < n):i.toNat < n:=(Int.toNat_lt h0).mpr h1
theorem CallJ.only {P:PC} {l:Lv} {f:Nat} {vs:List AV} {b:Bool} {X:Str→Prop} (h:CallJ P l f vs (fun v _=>v = .bool b) X):CallJ P l f vs (fun v H=>v = .bool b∧H = []) X:=
 CallJ.ren (h.mono fun v H e=>⟨[],[],.bool b,RenH.nil,by subst e;exact .bool b,rfl,rfl⟩)
open PySem PyProof.Rows PySem.SeqAt
theorem m_clear {H:AH} {xs:List AV} (h:xs.length ≤ smallN):opMut H .clear xs [] = some []:=if_pos h
theorem m_rev {H:AH} {xs:List AV} (h:xs.length ≤ smallN):opMut H .reverse xs [] = some xs.reverse:=if_pos h
theorem FnIs.of {P:PC} {f:Nat} {x:Str} {d:DefRec} {ps rest:List Str} {cs:List CS} (hx:P.nt.nm f = some x) (hd:P.defs[f]? = some d)
  (hs:defOk d.scope ps rest = true) (hc:allSome (d.body.map (compS P.nt 40 (fun y=>d.scope.names.lookup y) (ps++rest))) = some cs)
  (hb:∀ xs pm code doc,xs.length = ps.length→bindArgs (methDef d.name x d.params d.body d.scope pm code doc) ⟨xs,[]⟩ = pure (ps.zip xs)):FnIs P f ps rest cs:=⟨x,d,40,hx,hd,hs,hc,hb⟩
theorem bnd1 {d:DefRec} {x:Str} {ps:List Str} (hl:ps.length = 1) (hb:∀ a pm code doc,bindArgs (methDef d.name x d.params d.body d.scope pm code doc) ⟨[a],[]⟩ = pure (ps.zip [a])):∀ xs pm code doc,xs.length = ps.length→bindArgs (methDef d.name x d.params d.body d.scope pm code doc) ⟨xs,[]⟩ = pure (ps.zip xs):=fun xs pm code doc e=>by
 rw [hl] at e
 rcases xs with _ | ⟨a,_ | ⟨b9,r⟩⟩
 ·cases e
 ·exact hb a pm code doc
 ·cases e
theorem bnd2 {d:DefRec} {x:Str} {ps:List Str} (hl:ps.length = 2) (hb:∀ a b pm code doc,bindArgs (methDef d.name x d.params d.body d.scope pm code doc) ⟨[a,b],[]⟩ = pure (ps.zip [a,b])):∀ xs pm code doc,xs.length = ps.length→bindArgs (methDef d.name x d.params d.body d.scope pm code doc) ⟨xs,[]⟩ = pure (ps.zip xs):=fun xs pm code doc e=>by
 rw [hl] at e
 rcases xs with _ | ⟨a,_ | ⟨b,_ | ⟨b9,r⟩⟩⟩
 ·cases e
 ·cases e
 ·exact hb a b pm code doc
 ·cases e
theorem bnd3 {d:DefRec} {x:Str} {ps:List Str} (hl:ps.length = 3) (hb:∀ a b c pm code doc,bindArgs (methDef d.name x d.params d.body d.scope pm code doc) ⟨[a,b,c],[]⟩ = pure (ps.zip [a,b,c])):∀ xs pm code doc,xs.length = ps.length→bindArgs (methDef d.name x d.params d.body d.scope pm code doc) ⟨xs,[]⟩ = pure (ps.zip xs):=fun xs pm code doc e=>by
 rw [hl] at e
 rcases xs with _ | ⟨a,_ | ⟨b,_ | ⟨c,_ | ⟨b9,r⟩⟩⟩⟩
 ·cases e
 ·cases e
 ·cases e
 ·exact hb a b c pm code doc
 ·cases e
theorem bnd4 {d:DefRec} {x:Str} {ps:List Str} (hl:ps.length = 4) (hb:∀ a b c e pm code doc,bindArgs (methDef d.name x d.params d.body d.scope pm code doc) ⟨[a,b,c,e],[]⟩ = pure (ps.zip [a,b,c,e])):∀ xs pm code doc,xs.length = ps.length→bindArgs (methDef d.name x d.params d.body d.scope pm code doc) ⟨xs,[]⟩ = pure (ps.zip xs):=fun xs pm code doc e=>by
 rw [hl] at e
 rcases xs with _ | ⟨a,_ | ⟨b,_ | ⟨c,_ | ⟨c4,_ | ⟨b9,r⟩⟩⟩⟩⟩
 ·cases e
 ·cases e
 ·cases e
 ·cases e
 ·exact hb a b c c4 pm code doc
 ·cases e
section
variable {P:PC} {X:Str→Prop} {sc:List Int} {fc fu fs fl:Nat} {p1 r1 p2 r2 p3 r3 p4 r4:List Str}
theorem cell_all (Fc:FnIs P fc p1 r1 cs_cell_at) (h1:p1.length = 2) (h2:r1.length = 0) (hn:sc.length ≤ 63) {k:Nat} (hk:0 < k):∀ j:Int,0 ≤ j→j < 100000→CallJ P ⟨k,true,none⟩ fc [.fl (sc.map AV.int),.int j] IsCell X:=
 fun _ h0 h3=>cell_at_ok Fc h1 h2 hk rfl hn h0 h3
theorem strip_all (Fc:FnIs P fc p1 r1 cs_cell_at) (Fu:FnIs P fu p2 r2 (cs_unfolded fc)) (Fs:FnIs P fs p3 r3 (cs_strip fc fu)) (h1:p1.length = 2) (h2:r1.length = 0) (h3:p2.length = 3) (h4:r2.length = 8) (h5:p3.length = 1) (h6:r3.length = 8)
  (hn:sc.length ≤ 63) {k:Nat} (hk:4 < k):CallJ P ⟨k,true,none⟩ fs [.fl (sc.map AV.int)] (GivesStrip 1000) X:=
 strip_ok Fs h5 h6 (kl hk (by decide)) rfl (cell_all Fc h1 h2 hn (kd hk (by decide))) fun _ _ a b c d=>unfolded_ok Fu h3 h4 (kd hk (by decide)) rfl (cell_all Fc h1 h2 hn (kd2 hk (by decide))) a b c d
theorem left_all (Fc:FnIs P fc p1 r1 cs_cell_at) (Fu:FnIs P fu p2 r2 (cs_unfolded fc)) (Fs:FnIs P fs p3 r3 (cs_strip fc fu)) (Fl:FnIs P fl p4 r4 (cs_left fs fc)) (h1:p1.length = 2) (h2:r1.length = 0) (h3:p2.length = 3) (h4:r2.length = 8) (h5:p3.length = 1) (h6:r3.length = 8)
  (h7:p4.length = 1) (h8:r4.length = 3) (hn:sc.length ≤ 63) {k:Nat} (hk:6 < k):CallJ P ⟨k,true,none⟩ fl [.fl (sc.map AV.int)] (GivesStrip 2000) X:=
 left_ok Fl h7 h8 (kl hk (by decide)) (kl hk (by decide)) rfl (cell_all Fc h1 h2 hn (kd hk (by decide))) (strip_all Fc Fu Fs h1 h2 h3 h4 h5 h6 hn (kd hk (by decide)))
end
open PySem PyProof.Rows PySem.SeqAt
theorem o_exc {P:PC} {t:Str} {c:Addr} {K:Bool→Prop}:onExc P t (.exc c) K = opt (P.own t c) K:=rfl
noncomputable def cs_sole:List CS:=[
 .assign 2 (.lst [(.isown "BadStrip" (.var 0)),(.isown "BadOrder" (.var 0)),(.isown "NoFold" (.var 0))]),
 .assign 2 (.bin .Add (.var 2) (.lst [(.isown "NothingDone" (.var 0)),(.isown "TooMany" (.var 0)),(.isown "BadText" (.var 0))])),
 .ite (.or (.cmp .NotEq (.meth .count (.var 2) [(.const (.bool true))]) (.const (.int (1)))) (.not (.isown "ValueError" (.var 0))))
  [      .ret (.const (.bool false))]
  [],
 .ret (.cmp .Eq (.idx (.lst [(.const (.str "strip")),(.const (.str "order")),(.const (.str "fold")),(.const (.str "nothing")),(.const (.str "many")),(.const (.str "text"))]) (.meth .index (.var 2) [(.const (.bool true))])) (.var 1))]
structure Kinds (P:PC) (c:Addr) (b0 b1 b2 b3 b4 b5:Bool):Prop where
 k0:P.own "BadStrip" c = some b0
 k1:P.own "BadOrder" c = some b1
 k2:P.own "NoFold" c = some b2
 k3:P.own "NothingDone" c = some b3
 k4:P.own "TooMany" c = some b4
 k5:P.own "BadText" c = some b5
 kv:P.own "ValueError" c = some true
noncomputable def bAV (bs:List Bool):List AV:=bs.map AV.bool
noncomputable def bPD (bs:List Bool):List PyData:=bs.map PyData.bool
theorem sole_ok {P:PC} {l:Lv} {f:Nat} {ps rest:List Str} {X:Str→Prop} (F:FnIs P f ps rest cs_sole) (hp:ps.length = 2) (hr:rest.length = 1) (hk:0 < l.k) {c:Addr} {b0 b1 b2 b3 b4 b5:Bool} (K:Kinds P c b0 b1 b2 b3 b4 b5) {due word:Str} {j:Nat}
  (hc:((bPD [b0,b1,b2,b3,b4,b5]).countP fun e=>e.eqv (.bool true)) = 1) (hi:((bPD [b0,b1,b2,b3,b4,b5]).findIdx? fun e=>e.eqv (.bool true)) = some j) (hd:(["strip","order","fold","nothing","many","text"]:List Str)[j]? = some word) (hs:PyData.strOk due = true) (hs2:PyData.strOk word = true) :
  CallJ P l f [.exc c,.str due] (fun v _=>v = .bool (decide (due = word))) X:=by
 refine F.call hk (by simp [hp]) ?_
 rw [hr]
 unfold cs_sole
 (refine wpSs_cons.mpr ?_;tm_at "wps")
 rw [o_exc,K.k0,opt_some,o_exc,K.k1,opt_some,o_exc,K.k2,opt_some]
 refine ⟨by decide,?_⟩
 (refine wpSs_cons.mpr ?_;tm_at "wps")
 rw [o_exc,K.k3,opt_some,o_exc,K.k4,opt_some,o_exc,K.k5,opt_some]
 refine ⟨by decide,?_⟩
 refine ⟨by decide,?_⟩
 (refine wpSs_cons.mpr ?_;tm_at "wps")
 have rb:∀ H,Rds H 9 (bAV [b0,b1,b2,b3,b4,b5]) (bPD [b0,b1,b2,b3,b4,b5]):=fun H=>Rds.ofAll fun x _=>.bool x
 refine ⟨fun loc H=>loc = [some (.exc c),some (.str due),some (.ref 2)]∧H[2]? = some (bAV [b0,b1,b2,b3,b4,b5])∧H.length = 3,?_,_,_,_,rfl,rb _,.bool true,(by decide:6 ≤ smallN),?_⟩
 ·rintro loc H ⟨rfl,h2,hl⟩
  (refine wpSs_cons.mpr ?_;tm_at "wps")
  have hj:j < 6:=(List.getElem?_eq_some_iff.mp hd).1
  refine ⟨by decide,_,_,_,j,(List.getElem?_append_left (by rw [hl];decide)).trans h2,rb _,.bool true,(by decide:6 ≤ smallN),hi,?_⟩
  refine i_at (vs:=(["strip","order","fold","nothing","many","text"]:List Str).map AV.str) (List.getElem?_concat_length) (by decide) (Int.natCast_nonneg j) (Int.ofNat_lt.mpr hj) (w:=.str word) (by rw [Int.toNat_natCast,List.getElem?_map,hd];rfl) ?_
  refine ⟨_,_,.str _ hs2,.str _ hs,?_⟩
  show AV.bool (word == due) = _
  by_cases h:due = word
  ·subst h;simp
  ·rw [decide_eq_false h,beq_eq_false_iff_ne.mpr (Ne.symm h)]
 ·rw [hc]
  tm_at "wps"
  rw [show decide (((1:Nat):Int) = 1) = true from rfl,o_exc,K.kv]
  exact Cut.here ⟨rfl,rfl,rfl⟩
open PySem PyProof.Rows PySem.SeqAt
noncomputable def cs_isnum:List CS:=[
 .ret (.and (.isin .int (.var 0)) (.and (.not (.isin .bool (.var 0))) (.chain .LtE .LtE (.var 1) (.var 0) (.var 2))))]
noncomputable def Pl:AV→Prop
 | .none=>True
 | .bool _=>True
 | .int _=>True
 | .str x=>PyData.strOk x = true
 | .fl _=>True
 | _=>False
noncomputable def isNum (a b:Int):AV→Bool
 | .int i=>decide (a ≤ i) && decide (i ≤ b)
 | _=>false
theorem isNum_int (a b i:Int):isNum a b (.int i) = (decide (a ≤ i) && decide (i ≤ b)):=rfl
theorem isnum_ok {P:PC} {l:Lv} {f:Nat} {ps rest:List Str} {X:Str→Prop} (F:FnIs P f ps rest cs_isnum) (hp:ps.length = 3) (hr:rest.length = 0) (hk:0 < l.k) {a b:Int} {v:AV} (hv:Pl v) :
  CallJ P l f [v,.int a,.int b] (fun r H=>r = .bool (isNum a b v)∧H = []) X:=by
 refine F.call hk (by simp [hp]) ?_
 rw [hr]
 unfold cs_isnum
 (refine wpSs_cons.mpr ?_;tm_at "wps")
 cases v with
 | none=>exact ⟨rfl,rfl⟩
 | bool=>exact ⟨rfl,rfl⟩
 | str=>exact ⟨rfl,rfl⟩
 | fl=>exact ⟨rfl,rfl⟩
 | int i=>
  show if decide (a ≤ i) = true then opCmp .LtE (.int i) (.int b) [] _ else _
  exact brk (fun h=>⟨by simp [isNum_int,h],rfl⟩) fun h=>⟨by simp [isNum_int,h],rfl⟩
 | _=>exact hv.elim
open PySem PyProof.Rows PySem.SeqAt
section
variable {H:AH} {Q:AV→AH→Prop} {o w:AV} {vs:List AV} {k:Int}
theorem sl_cut {d:Nat} (e:o.items? H = some vs) (hl:vs.length ≤ smallN) (h0:k = -(d:Int)) (h1:1 ≤ d) (h:Q (.ref H.length) (H++[vs.take (vs.length - d)])):opSlc o .none (.int k) .none H Q:=by
 refine opSlc_l e ⟨vs,none,some k,none,e,hl,rfl,rfl,rfl,by simp,?_⟩
 subst h0
 rw [slPick_plain]
 simp only [Option.elim_none,Option.elim_some,List.drop_zero,Nat.sub_zero]
 rw [clipAt_neg _ _ h1]
 exact h
theorem i_pos (j:Nat) (e:o.seq? H = some vs) (hl:vs.length ≤ smallN) (hk:k = (j:Int)) (ew:vs[j]? = some w) (h:Q w H):opIdx o (.int k) H Q:=by
 subst hk
 exact i_at e hl (Int.natCast_nonneg _) (Int.ofNat_lt.mpr (List.getElem?_eq_some_iff.mp ew).1) ew h
theorem i_I {L:List Int} (j:Nat) (e:o.seq? H = some (L.map AV.int)) (hl:L.length ≤ smallN) (hk:k = (j:Int)) (hj:j < L.length) (h:Q (.int (L.getD j 0)) H):opIdx o (.int k) H Q:=
 i_pos j e (by rw [List.length_map];exact hl) hk (w:=.int (L.getD j 0)) (by rw [List.getElem?_map,List.getD_eq_getElem?_getD,List.getElem?_eq_getElem hj];rfl) h
theorem i_S {L:List Str} (j:Nat) (e:o.seq? H = some (L.map AV.str)) (hl:L.length ≤ smallN) (hk:k = (j:Int)) (hj:j < L.length) (h:Q (.str (L.getD j "")) H):opIdx o (.int k) H Q:=
 i_pos j e (by rw [List.length_map];exact hl) hk (w:=.str (L.getD j "")) (by rw [List.getElem?_map,List.getD_eq_getElem?_getD,List.getElem?_eq_getElem hj];rfl) h
theorem i_In {L:List Int} (d:Nat) (e:o.seq? H = some (L.map AV.int)) (hl:L.length ≤ smallN) (h0:k = -(d:Int)) (h1:0 < d) (h2:d ≤ L.length) (h:Q (.int (L.getD (L.length - d) 0)) H):opIdx o (.int k) H Q:=by
 have hj:L.length - d < L.length:=by omega
 exact i_neg (d:=d) e (by rw [List.length_map];exact hl) h0 h1 (by rw [List.length_map];exact h2) (w:=.int (L.getD (L.length - d) 0)) (by rw [List.length_map,List.getElem?_map,List.getD_eq_getElem?_getD,List.getElem?_eq_getElem hj];rfl) h
theorem i_snoc {A:List AV} {y:AV} (e:o.seq? H = some (A++[y])) (hl:(A++[y]).length ≤ smallN) (h:Q y H):opIdx o (.int (-1)) H Q:=
 i_neg (d:=1) e hl rfl (by decide) (by rw [List.length_append];exact Nat.le_add_left 1 A.length) (by rw [List.length_append];exact List.getElem?_concat_length) h
end
theorem strOk_first:PyData.strOk ("first" : Str) = true:=by decide +kernel
theorem strOk_last:PyData.strOk ("last" : Str) = true:=by decide +kernel
theorem strOk_pleat:PyData.strOk ("pleat" : Str) = true:=by decide +kernel
noncomputable def iff1 (b:Bool) (v:AV):List AV:=if b then [v] else []
noncomputable def acc (g:Nat→List AV) (k:Nat):List AV:=(List.range k).flatMap g
theorem acc_succ (g:Nat→List AV) (k:Nat):acc g (k + 1) = acc g k++g k:=by unfold acc;rw [List.range_succ,List.flatMap_append];simp
theorem acc_len {g:Nat→List AV} (h:∀ i,(g i).length ≤ 1):∀ k,(acc g k).length ≤ k
 | 0=>Nat.le_refl 0
 | k + 1=>by rw [acc_succ,List.length_append];exact Nat.add_le_add (acc_len h k) (h k)
theorem iff1_len (b:Bool) (v:AV):(iff1 b v).length ≤ 1:=by cases b<;>simp [iff1]
noncomputable def fOk (ns:List Int) (ms:List Str):Bool:=decide (0 < ms.length) && decide (ns.getD 0 0 ≤ ns.getD 1 0)
noncomputable def lOk (ns:List Int) (ms:List Str):Bool:=decide (0 < ms.length) && decide (ns.getD (ns.length - 1) 0 ≤ ns.getD (ns.length - 2) 0)
noncomputable def pOk (ns:List Int) (ms:List Str) (k:Nat):Bool:=!decide (ms.getD k "" = ms.getD (k + 1) "") && (decide (ns.getD (k + 1) 0 ≤ ns.getD k 0) && decide (ns.getD (k + 1) 0 ≤ ns.getD (k + 2) 0))
noncomputable def fV:AV:=.tup [.str "first"]
noncomputable def lV:AV:=.tup [.str "last"]
noncomputable def pV (k:Nat):AV:=.tup [.str "pleat",.int k]
noncomputable def mvP (ns:List Int) (ms:List Str) (k:Nat):List AV:=iff1 (pOk ns ms k) (pV k)
noncomputable def mvs (ns:List Int) (ms:List Str):List AV:=(iff1 (fOk ns ms) fV++iff1 (lOk ns ms) lV)++acc (mvP ns ms) (ms.length - 1)
noncomputable def stV (ns:List Int) (ms:List Str):AV:=.tup [.fl (ns.map AV.int),.fl (ms.map AV.str)]
theorem mvs_len (ns:List Int) (ms:List Str):(mvs ns ms).length ≤ ms.length + 1 + 1:=by
 unfold mvs
 rw [List.length_append,List.length_append]
 have h1:=iff1_len (fOk ns ms) fV
 have h2:=iff1_len (lOk ns ms) lV
 have h3:=acc_len (g:=mvP ns ms) (fun i=>iff1_len _ _) (ms.length - 1)
 exact Nat.le_trans (Nat.add_le_add (Nat.add_le_add h1 h2) h3) (by rw [Nat.add_comm];exact Nat.add_le_add_right (Nat.sub_le _ _) 2)
theorem c_str {H:AH} {Q:AV→AH→Prop} {a b:Str} (ha:PyData.strOk a = true) (hb:PyData.strOk b = true) (h:Q (.bool (decide (a = b))) H):opCmp .Eq (.str a) (.str b) H Q:=⟨_,_,.str _ ha,.str _ hb,by
 show Q (.bool (a == b)) H
 by_cases q:a = b
 ·subst q;simpa using h
 ·rw [beq_eq_false_iff_ne.mpr q];rwa [decide_eq_false q] at h⟩
theorem c_strn {H:AH} {Q:AV→AH→Prop} {a b:Str} (ha:PyData.strOk a = true) (hb:PyData.strOk b = true) (h:Q (.bool (!decide (a = b))) H):opCmp .NotEq (.str a) (.str b) H Q:=⟨_,_,.str _ ha,.str _ hb,by
 show Q (.bool (!(a == b))) H
 by_cases q:a = b
 ·subst q;simpa using h
 ·rw [beq_eq_false_iff_ne.mpr q];rwa [decide_eq_false q] at h⟩
theorem br_if {b:Bool} {A B:Prop} (h1:b = true→A) (h0:b = false→B):if b = true then A else B:=by cases b<;>simp_all
noncomputable def TurnTo (p:Option Pin) (J:Loc→AH→Prop) (n:Nat) (it:AV) (loc:Loc) (H:AH):Prop:=FNx p n (fun v l H=>v = it∧J l H) loc H
theorem TurnTo.here {p:Option Pin} {J:Loc→AH→Prop} {n:Nat} {it:AV} {loc:Loc} {H:AH} (hl:loc.length = n) (h:J loc H):TurnTo p J n it (loc++[some it]) H:=⟨it,loc,H,.inl ⟨rfl,rfl⟩,hl,rfl,h⟩
theorem for_ok {P:PC} {l:Lv} {x:Nat} {body:List CS} {loc:Loc} {H₁:AH} {Qn:Loc→AH→Prop} {Qr:AV→AH→Prop} {Qx:Str→Loc→AH→Prop} {v:AV} (F:List AV) (J:Nat→Loc→AH→Prop) (hs:F.length ≤ smallN)
  (hF:∀ k loc H,J k loc H→iterOf H v = some F) (h0:TurnTo l.p (J 0) loc.length v (loc++[some v]) H₁)
  (hk:∀ k loc' H' u,loc'.length = loc.length→F[k]? = some u→J k loc' H'→wpSs P l body (loc'.set x (some u)++[some v]) H' (TurnTo l.p (J (k + 1)) loc.length v) Qr (fun e l' H'=>Qx e l'.dropLast H'))
  (hn:∀ loc' H',J F.length loc' H'→Qn loc' H'):∃ (n:Nat) (κ:AV) (Inv:Nat→AV→Loc→AH→Prop),
   FNx l.p loc.length (Inv 0) (loc++[some v]) H₁ ∧
   (∀ k v loc H,k ≤ n→Inv k v loc H→v.ik = κ∧∃ its,iterOf H v = some its∧its.length = n)∧n ≤ smallN ∧
   (∀ k v loc' H its u,k < n→loc'.length = loc.length→Inv k v loc' H→iterOf H v = some its→its[k]? = some u→wpSs P l body (loc'.set x (some u)++[some v]) H
    (FNx l.p loc.length (Inv (k + 1))) Qr (fun c loc₂ H₂=>Qx c loc₂.dropLast H₂)) ∧
   (∀ v loc H,Inv n v loc H→Qn loc H):=by
 refine ⟨F.length,v.ik,fun k w loc H=>w = v∧J k loc H,h0,?_,hs,?_,fun w loc H h=>hn loc H h.2⟩
 ·rintro k w loc H _ ⟨rfl,h⟩
  exact ⟨rfl,F,hF k loc H h,rfl⟩
 ·rintro k w loc' H its u hk' hl ⟨rfl,h⟩ ei eu
  rw [hF k loc' H h] at ei
  cases ei
  exact hk k loc' H u hl eu h
theorem st_for {P:PC} {l:Lv} {x:Nat} {it:CE} {body:List CS} {loc:Loc} {H H₁:AH} {Qn:Loc→AH→Prop} {Qr:AV→AH→Prop} {Qx:Str→Loc→AH→Prop} (v:AV) (F:List AV) (J:Nat→Loc→AH→Prop) (hq:l.q = true) (hit:∀ K:AV→AH→Prop,K v H₁→wpE P l (fun c=>Qx c loc H) it loc H K) (hs:F.length ≤ smallN)
  (hF:∀ k loc H,J k loc H→iterOf H v = some F) (h0:TurnTo l.p (J 0) loc.length v (loc++[some v]) H₁)
  (hk:∀ k loc' H' u,loc'.length = loc.length→F[k]? = some u→J k loc' H'→wpSs P l body (loc'.set x (some u)++[some v]) H' (TurnTo l.p (J (k + 1)) loc.length v) Qr (fun e l' H'=>Qx e l'.dropLast H'))
  (hn:∀ loc' H',J F.length loc' H'→Qn loc' H'):wpS P l (.for1 x it body) loc H Qn Qr Qx:=⟨hq,hit _ (for_ok F J hs hF h0 hk hn)⟩
open PySem PyProof.Rows PySem.SeqAt
noncomputable def mvA:CS:=.ite (.cmp .LtE (.idx (.var 1) (.const (.int (0)))) (.idx (.var 1) (.const (.int (1)))))
  [      .mut .append (.var 3) [(.tup [(.const (.str "first"))])]]
  []
noncomputable def mvB:CS:=.ite (.cmp .LtE (.idx (.var 1) (.neg (.const (.int (1))))) (.idx (.var 1) (.neg (.const (.int (2))))))
  [      .mut .append (.var 3) [(.tup [(.const (.str "last"))])]]
  []
noncomputable def mvC:List CS:=[
   .ite (.cmp .NotEq (.idx (.var 2) (.var 4)) (.idx (.var 2) (.bin .Add (.var 4) (.const (.int (1))))))
    [          .ite (.cmp .LtE (.idx (.var 1) (.bin .Add (.var 4) (.const (.int (1))))) (.prim .min [(.idx (.var 1) (.var 4)),(.idx (.var 1) (.bin .Add (.var 4) (.const (.int (2)))))]))
      [              .mut .append (.var 3) [(.tup [(.const (.str "pleat")),(.var 4)])]]
      []]
    []]
noncomputable def cs_moves:List CS:=[
 .assignT [1,2] (.var 0),
 .assign 3 (.lst []),
 .ite (.cmp .Eq (.prim .len [(.var 2)]) (.const (.int (0))))
  [      .ret (.var 3)]
  [],mvA,mvB,
 .for1 4 (.prim .range [(.bin .Sub (.prim .len [(.var 2)]) (.const (.int (1))))]) mvC,
 .ret (.var 3)]
noncomputable def lmA:CS:=.ite (.and (.cmp .Gt (.prim .len [(.var 1)]) (.const (.int (0)))) (.cmp .LtE (.idx (.var 0) (.const (.int (0)))) (.idx (.var 0) (.const (.int (1))))))
  [      .mut .append (.var 2) [(.tup [(.const (.str "first"))])]]
  []
noncomputable def lmB:CS:=.ite (.and (.cmp .Gt (.prim .len [(.var 1)]) (.const (.int (0)))) (.cmp .LtE (.idx (.var 0) (.neg (.const (.int (1))))) (.idx (.var 0) (.neg (.const (.int (2)))))))
  [      .mut .append (.var 2) [(.tup [(.const (.str "last"))])]]
  []
noncomputable def lmC:List CS:=[
   .ite (.and (.cmp .NotEq (.idx (.var 1) (.bin .Sub (.var 3) (.const (.int (1))))) (.idx (.var 1) (.var 3))) (.and (.cmp .LtE (.idx (.var 0) (.var 3)) (.idx (.var 0) (.bin .Sub (.var 3) (.const (.int (1)))))) (.cmp .LtE (.idx (.var 0) (.var 3)) (.idx (.var 0) (.bin .Add (.var 3) (.const (.int (1))))))))
    [          .mut .append (.var 2) [(.tup [(.const (.str "pleat")),(.bin .Sub (.var 3) (.const (.int (1))))])]]
    []]
noncomputable def cs_lmoves:List CS:=[
 .assign 2 (.lst []),lmA,lmB,
 .for1 3 (.prim .range [(.const (.int (1))),(.prim .len [(.var 1)])]) lmC,
 .ret (.var 2)]
structure GS (ns:List Int) (ms:List Str):Prop where
 len:ns.length = ms.length + 1
 most:ns.length ≤ 30
 marks:∀ m ∈ ms,Mk m
section
variable {P:PC} {l:Lv} {f:Nat} {ps rest:List Str} {X:Str→Prop} {ns:List Int} {ms:List Str} {Qn:Loc→AH→Prop} {Qr:AV→AH→Prop} {Qx:Str→Loc→AH→Prop} {L:List AV} {k:Nat}
theorem GS.sn (g:GS ns ms):ns.length ≤ smallN:=Nat.le_trans g.most (by decide)
theorem GS.sm (g:GS ns ms):ms.length ≤ smallN:=Nat.le_trans (Nat.le_succ _) (Nat.le_trans (Nat.le_of_eq g.len.symm) g.sn)
theorem getD_mem {α:Type} {l:List α} {d:α} {j:Nat} (h:j < l.length):l.getD j d ∈ l:=by rw [List.getD_eq_getElem?_getD,List.getElem?_eq_getElem h];exact List.getElem_mem h
theorem GS.i0 (g:GS ns ms) {i:Nat} (h:i < ms.length):i < ns.length:=g.len ▸ Nat.lt_succ_of_lt h
theorem GS.i1 (g:GS ns ms) {i:Nat} (h:i < ms.length):i + 1 < ns.length:=g.len ▸ Nat.succ_lt_succ h
theorem GS.d1 (g:GS ns ms):1 ≤ ns.length:=g.len ▸ Nat.succ_pos _
theorem GS.i60 (g:GS ns ms):(ms.length:Int) ≤ 1000000:=Int.le_trans (Int.ofNat_le.mpr (Nat.le_trans (Nat.le_succ _) (g.len ▸ g.most))) (by decide)
theorem GS.m30 (g:GS ns ms):ms.length ≤ 30:=Nat.le_trans (Nat.le_succ _) (Nat.le_trans (Nat.le_of_eq g.len.symm) g.most)
theorem GS.r1 (g:GS ns ms):-1000000 ≤ (ms.length:Int) - 1∧(ms.length:Int) - 1 ≤ 1000000:=⟨Int.le_trans (show (-1000000:Int) ≤ 0 - 1 by decide) (Int.sub_le_sub_right (Int.natCast_nonneg _) 1),Int.le_trans (Int.sub_le_self _ (by decide)) g.i60⟩
theorem rk1 {k n:Nat} (h:(k:Int) < (n:Int) - 1):k + 1 < n:=Int.ofNat_lt.mp (Int.add_lt_of_lt_sub_right h)
theorem GS.mkOk (g:GS ns ms) {j:Nat} (h:j < ms.length):PyData.strOk (ms.getD j "") = true:=mk_ok (g.marks _ (getD_mem h))
theorem put1 {b:Bool} {v:AV} {R:Loc→AH→Prop} {p:Option Pin} {lc:Loc} {K1:Prop} (h:∀ H,H = [L++iff1 b v]→R lc H) (h1:b = true→Cut p R lc [L++[v]]→K1):if b = true then K1 else Cut p R lc [L]:=by
 cases b with
 | true=>exact h1 rfl (Cut.here (h _ rfl))
 | false=>exact Cut.here (h _ (by simp [iff1]))
noncomputable def mL (ns:List Int) (ms:List Str) (o:Option AV):Loc:=[some (stV ns ms),some (.fl (ns.map AV.int)),some (.fl (ms.map AV.str)),some (.ref 0),o]
theorem mvA_ok (g:GS ns ms) (h0:0 < ms.length) (hL:L.length < 100) (h:Qn (mL ns ms none) [L++iff1 (fOk ns ms) fV]):wpS P l mvA (mL ns ms none) [L] Qn Qr Qx:=by
 unfold mvA mL
 refine ⟨fun lc H=>lc = mL ns ms none∧H = [L++iff1 (fOk ns ms) fV],fun _ _ ⟨a,b⟩=>a ▸ b ▸ h,?_⟩
 tm_at "wps"
 refine i_I 0 rfl g.sn rfl (g.i0 h0) ?_
 tm_at "wps"
 refine i_I 1 rfl g.sn rfl (g.i1 h0) ?_
 tm_at "wps"
 rw [show decide (ns.getD 0 0 ≤ ns.getD 1 0) = fOk ns ms from by unfold fOk;rw [decide_eq_true h0];rfl]
 refine put1 (fun _ q=>⟨rfl,q⟩) fun hb c=>?_
 (refine wpSs_cons.mpr ?_;tm_at "wps")
 exact ⟨by decide,_,_,_,rfl,rfl,m_app (Nat.lt_of_lt_of_le hL (by decide)),c⟩
theorem mvB_ok (g:GS ns ms) (h0:0 < ms.length) (hL:L.length < 100) (h:Qn (mL ns ms none) [L++iff1 (lOk ns ms) lV]):wpS P l mvB (mL ns ms none) [L] Qn Qr Qx:=by
 unfold mvB mL
 refine ⟨fun lc H=>lc = mL ns ms none∧H = [L++iff1 (lOk ns ms) lV],fun _ _ ⟨a,b⟩=>a ▸ b ▸ h,?_⟩
 tm_at "wps"
 refine i_In 1 rfl g.sn rfl (by decide) g.d1 ?_
 tm_at "wps"
 refine i_In 2 rfl g.sn rfl (by decide) (g.i1 h0) ?_
 tm_at "wps"
 rw [show decide (ns.getD (ns.length - 1) 0 ≤ ns.getD (ns.length - 2) 0) = lOk ns ms from by unfold lOk;rw [decide_eq_true h0];rfl]
 refine put1 (fun _ q=>⟨rfl,q⟩) fun hb c=>?_
 (refine wpSs_cons.mpr ?_;tm_at "wps")
 exact ⟨by decide,_,_,_,rfl,rfl,m_app (Nat.lt_of_lt_of_le hL (by decide)),c⟩
theorem min_le {a b c:Int}:decide (a ≤ if c < b then c else b) = (decide (a ≤ b) && decide (a ≤ c)):=by
 rw [← Bool.decide_and,decide_eq_decide]
 split<;>(first | lia | omega)
theorem i4 {k:Nat} {a:Int} (h:a = k):a + 2 = ((k + 2:Nat):Int):=by subst h;rfl
theorem mvC_ok {it:AV} (hq:l.q = true) (g:GS ns ms) (hk:k + 1 < ms.length) (hL:L.length < 100) (h:∀ H,H = [L++mvP ns ms k]→Qn (mL ns ms (some (.int k))++[some it]) H):wpSs P l mvC (mL ns ms (some (.int k))++[some it]) [L] Qn Qr Qx:=by
 have e1:(k:Int) + 1 = ((k + 1:Nat):Int):=rfl
 unfold mvC mL
 (refine wpSs_cons.mpr ?_;tm_at "wps")
 refine ⟨fun lc H=>lc = mL ns ms (some (.int k))++[some it]∧H = [L++mvP ns ms k],fun _ _ ⟨a,b⟩=>a ▸ h _ b,?_⟩
 refine i_S k rfl g.sm rfl (Nat.lt_of_succ_lt hk) ?_
 tm_at "wps"
 refine i_S (k + 1) rfl g.sm e1 hk (c_strn (g.mkOk (Nat.lt_of_succ_lt hk)) (g.mkOk hk) ?_)
 tm_at "wps"
 cases hm:decide (ms.getD k "" = ms.getD (k + 1) "") with
 | true=>
  exact Cut.here ⟨rfl,by unfold mvP pOk;rw [hm];simp [iff1]⟩
 | false=>
 tm_at "wps"
 refine ⟨fun lc H=>lc = mL ns ms (some (.int k))++[some it]∧H = [L++mvP ns ms k],fun _ _ ⟨a,b⟩=>Cut.here ⟨a,b⟩,?_⟩
 tm_at "wps"
 refine i_I (k + 1) rfl g.sn e1 (g.i0 hk) ?_
 tm_at "wps"
 refine ⟨hq,i_I k rfl g.sn rfl (g.i0 (Nat.lt_of_succ_lt hk)) ?_⟩
 tm_at "wps"
 refine i_I (k + 2) rfl g.sn (i4 rfl) (g.i1 hk) ?_
 tm_at "wps"
 rw [min_le,show (decide (ns.getD (k + 1) 0 ≤ ns.getD k 0) && decide (ns.getD (k + 1) 0 ≤ ns.getD (k + 2) 0)) = pOk ns ms k from by unfold pOk;rw [hm];rfl]
 refine put1 (fun _ q=>⟨rfl,q⟩) fun hb c=>?_
 (refine wpSs_cons.mpr ?_;tm_at "wps")
 exact ⟨by decide,_,_,_,rfl,rfl,m_app (Nat.lt_of_lt_of_le hL (by decide)),c⟩
theorem acc_30 (g:GS ns ms) {j:Nat} (hj:j ≤ ms.length - 1):((iff1 (fOk ns ms) fV++iff1 (lOk ns ms) lV)++acc (mvP ns ms) j).length < 100:=by
 rw [List.length_append,List.length_append]
 have h1:=iff1_len (fOk ns ms) fV
 have h2:=iff1_len (lOk ns ms) lV
 have h3:=acc_len (g:=mvP ns ms) (fun i=>iff1_len _ _) j
 exact Nat.lt_of_le_of_lt (Nat.add_le_add (Nat.add_le_add h1 h2) (Nat.le_trans h3 (Nat.le_trans hj (Nat.le_trans (Nat.sub_le _ _) g.m30)))) (by decide)
theorem mvs_nil (h:ms.length = 0):mvs ns ms = []:=by
 unfold mvs fOk lOk
 rw [h]
 rfl
theorem rng_at {a b:Int} {k:Nat} {u:AV} (e:((rngList a b 1).map AV.int)[k]? = some u):u = .int (a + (k:Int))∧(k:Int) < b - a:=rngList1_get e
theorem moves_ok (F:FnIs P f ps rest cs_moves) (hp:ps.length = 1) (hr:rest.length = 4) (hk:0 < l.k) (hq:l.q = true) (g:GS ns ms):CallJ P l f [stV ns ms] (fun v H=>v = .ref 0∧H = [mvs ns ms]) X:=by
 refine F.call hk (by simp [hp]) ?_
 rw [hr]
 unfold cs_moves
 (refine wpSs_cons.mpr ?_;tm_at "wps")
 refine ⟨hq,?_⟩
 (refine wpSs_cons.mpr ?_;tm_at "wps")
 refine ⟨by decide,?_⟩
 (refine wpSs_cons.mpr ?_;tm_at "wps")
 refine ⟨fun lc H=>lc = mL ns ms none∧H = [[]]∧0 < ms.length,?_,hq,mapS_le g.sm,?_⟩
 rotate_left
 ·rw [List.length_map]
  refine brk (fun h=>⟨rfl,?_⟩) fun h=>Cut.here ⟨rfl,rfl,Nat.pos_of_ne_zero fun q=>h (congrArg Int.ofNat q)⟩
  rw [mvs_nil (Int.ofNat.inj h)]
 rintro lc H ⟨rfl,rfl,h0⟩
 refine mvA_ok g h0 (by decide) (mvB_ok g h0 (Nat.lt_of_le_of_lt (iff1_len _ _) (by decide)) ?_)
 have el:(rngList 0 ((ms.length:Int) - 1) 1).length = ms.length - 1:=by rw [rngList1_len,Int.sub_zero];exact tn_sub ms.length 1
 refine seqS (st_for (.rng 0 ((ms.length:Int) - 1) 1) ((rngList 0 ((ms.length:Int) - 1) 1).map AV.int) (fun k lc H=>(∃ o,lc = mL ns ms o)∧H = [(iff1 (fOk ns ms) fV++iff1 (lOk ns ms) lV)++acc (mvP ns ms) k]) hq (fun K h=>by
  unfold mL
  tm_at "wps"
  rw [List.length_map]
  exact ⟨hq,hq,g.sm,⟨by decide,g.r1,by decide⟩,h⟩) (by rw [List.length_map,el];exact Nat.le_trans (Nat.sub_le _ _) g.sm) (fun _ _ _ _=>rfl) (.here rfl ⟨⟨none,rfl⟩,by rw [show acc (mvP ns ms) 0 = [] from rfl,List.append_nil]⟩) ?_ ?_)
 ·rintro k lc H u - hu ⟨⟨o,rfl⟩,rfl⟩
  obtain ⟨rfl,hk'⟩:=rng_at hu
  rw [Int.zero_add]
  have hk'':=rk1 (Int.sub_zero _ ▸ hk')
  refine mvC_ok hq g hk'' (acc_30 g (Nat.le_sub_one_of_lt (Nat.lt_of_succ_lt hk''))) fun H e=>?_
  subst e
  exact .here rfl ⟨⟨_,rfl⟩,by rw [acc_succ,List.append_assoc]⟩
 ·rintro lc H ⟨⟨o,rfl⟩,rfl⟩
  (refine wpSs_cons.mpr ?_;tm_at "wps")
  exact ⟨rfl,by rw [List.length_map,el];rfl⟩
noncomputable def nL (ns:List Int) (ms:List Str) (o:Option AV):Loc:=[some (.fl (ns.map AV.int)),some (.fl (ms.map AV.str)),some (.ref 0),o]
theorem gt0 {n:Nat}:decide ((0:Int) < ((n:Nat):Int)) = decide (0 < n):=by rw [decide_eq_decide];omega
theorem lmA_ok (hq:l.q = true) (g:GS ns ms) (hL:L.length < 100) (h:Qn (nL ns ms none) [L++iff1 (fOk ns ms) fV]):wpS P l lmA (nL ns ms none) [L] Qn Qr Qx:=by
 unfold lmA nL
 refine ⟨fun lc H=>lc = nL ns ms none∧H = [L++iff1 (fOk ns ms) fV],fun _ _ ⟨a,b⟩=>a ▸ b ▸ h,hq,mapS_le g.sm,?_⟩
 tm_at "wps"
 rw [List.length_map,gt0]
 cases h0:decide (0 < ms.length) with
 | false=>exact Cut.here ⟨rfl,by unfold fOk;rw [h0];simp [iff1]⟩
 | true=>
 have h0':=of_decide_eq_true h0
 tm_at "wps"
 refine i_I 0 rfl g.sn rfl (g.i0 h0') ?_
 tm_at "wps"
 refine i_I 1 rfl g.sn rfl (g.i1 h0') ?_
 tm_at "wps"
 rw [show decide (ns.getD 0 0 ≤ ns.getD 1 0) = fOk ns ms from by unfold fOk;rw [h0];rfl]
 refine put1 (fun _ q=>⟨rfl,q⟩) fun hb c=>?_
 (refine wpSs_cons.mpr ?_;tm_at "wps")
 exact ⟨by decide,_,_,_,rfl,rfl,m_app (Nat.lt_of_lt_of_le hL (by decide)),c⟩
theorem lmB_ok (hq:l.q = true) (g:GS ns ms) (hL:L.length < 100) (h:Qn (nL ns ms none) [L++iff1 (lOk ns ms) lV]):wpS P l lmB (nL ns ms none) [L] Qn Qr Qx:=by
 unfold lmB nL
 refine ⟨fun lc H=>lc = nL ns ms none∧H = [L++iff1 (lOk ns ms) lV],fun _ _ ⟨a,b⟩=>a ▸ b ▸ h,hq,mapS_le g.sm,?_⟩
 tm_at "wps"
 rw [List.length_map,gt0]
 cases h0:decide (0 < ms.length) with
 | false=>exact Cut.here ⟨rfl,by unfold lOk;rw [h0];simp [iff1]⟩
 | true=>
 have h0':=of_decide_eq_true h0
 tm_at "wps"
 refine i_In 1 rfl g.sn rfl (by decide) g.d1 ?_
 tm_at "wps"
 refine i_In 2 rfl g.sn rfl (by decide) (g.i1 h0') ?_
 tm_at "wps"
 rw [show decide (ns.getD (ns.length - 1) 0 ≤ ns.getD (ns.length - 2) 0) = lOk ns ms from by unfold lOk;rw [h0];rfl]
 refine put1 (fun _ q=>⟨rfl,q⟩) fun hb c=>?_
 (refine wpSs_cons.mpr ?_;tm_at "wps")
 exact ⟨by decide,_,_,_,rfl,rfl,m_app (Nat.lt_of_lt_of_le hL (by decide)),c⟩
theorem lmC_ok {it:AV} (g:GS ns ms) (hk:k + 1 < ms.length) (hL:L.length < 100) (h:∀ H,H = [L++mvP ns ms k]→Qn (nL ns ms (some (.int (1 + (k:Int))))++[some it]) H):wpSs P l lmC (nL ns ms (some (.int (1 + (k:Int))))++[some it]) [L] Qn Qr Qx:=by
 have e0:1 + (k:Int) - 1 = (k:Int):=by rw [Int.add_comm];exact Int.add_sub_cancel _ _
 have e1:1 + (k:Int) = ((k + 1:Nat):Int):=Int.add_comm 1 k
 have e2:1 + (k:Int) + 1 = ((k + 2:Nat):Int):=by rw [e1];rfl
 have no:pOk ns ms k = false→[L] = [L++mvP ns ms k]:=fun q=>by unfold mvP;rw [q];simp [iff1]
 unfold lmC nL
 (refine wpSs_cons.mpr ?_;tm_at "wps")
 refine ⟨fun lc H=>lc = nL ns ms (some (.int (1 + (k:Int))))++[some it]∧H = [L++mvP ns ms k],fun _ _ ⟨a,b⟩=>a ▸ h _ b,?_⟩
 refine i_S k rfl g.sm e0 (Nat.lt_of_succ_lt hk) ?_
 tm_at "wps"
 refine i_S (k + 1) rfl g.sm e1 hk (c_strn (g.mkOk (Nat.lt_of_succ_lt hk)) (g.mkOk hk) ?_)
 tm_at "wps"
 cases hm:decide (ms.getD k "" = ms.getD (k + 1) "") with
 | true=>exact Cut.here ⟨rfl,no (by unfold pOk;rw [hm];rfl)⟩
 | false=>
 tm_at "wps"
 refine i_I (k + 1) rfl g.sn e1 (g.i0 hk) ?_
 tm_at "wps"
 refine i_I k rfl g.sn e0 (g.i0 (Nat.lt_of_succ_lt hk)) ?_
 tm_at "wps"
 cases ha:decide (ns.getD (k + 1) 0 ≤ ns.getD k 0) with
 | false=>exact Cut.here ⟨rfl,no (by unfold pOk;rw [hm,ha];rfl)⟩
 | true=>
 tm_at "wps"
 refine i_I (k + 1) rfl g.sn e1 (g.i0 hk) ?_
 tm_at "wps"
 refine i_I (k + 2) rfl g.sn e2 (g.i1 hk) ?_
 tm_at "wps"
 rw [show decide (ns.getD (k + 1) 0 ≤ ns.getD (k + 2) 0) = pOk ns ms k from by unfold pOk;rw [hm,ha];rfl]
 refine put1 (fun _ q=>⟨rfl,q⟩) fun hb c=>?_
 (refine wpSs_cons.mpr ?_;tm_at "wps")
 rw [e0]
 exact ⟨by decide,_,_,_,rfl,rfl,m_app (Nat.lt_of_lt_of_le hL (by decide)),c⟩
theorem lmoves_ok (F:FnIs P f ps rest cs_lmoves) (hp:ps.length = 2) (hr:rest.length = 2) (hk:0 < l.k) (hq:l.q = true) (g:GS ns ms):CallJ P l f [.fl (ns.map AV.int),.fl (ms.map AV.str)] (fun v H=>v = .ref 0∧H = [mvs ns ms]) X:=by
 refine F.call hk (by simp [hp]) ?_
 rw [hr]
 unfold cs_lmoves
 (refine wpSs_cons.mpr ?_;tm_at "wps")
 refine ⟨by decide,?_⟩
 refine lmA_ok hq g (by decide) (lmB_ok hq g (Nat.lt_of_le_of_lt (iff1_len _ _) (by decide)) ?_)
 have el:(rngList 1 (ms.length:Int) 1).length = ms.length - 1:=by rw [rngList1_len];exact tn_sub ms.length 1
 refine seqS (st_for (.rng 1 (ms.length:Int) 1) ((rngList 1 (ms.length:Int) 1).map AV.int) (fun k lc H=>(∃ o,lc = nL ns ms o)∧H = [(iff1 (fOk ns ms) fV++iff1 (lOk ns ms) lV)++acc (mvP ns ms) k]) hq (fun K h=>by
  unfold nL
  tm_at "wps"
  rw [List.length_map]
  exact ⟨hq,hq,g.sm,⟨by decide,⟨Int.le_trans (by decide) (Int.natCast_nonneg _),g.i60⟩,by decide⟩,h⟩) (by rw [List.length_map,el];exact Nat.le_trans (Nat.sub_le _ _) g.sm) (fun _ _ _ _=>rfl) (.here rfl ⟨⟨none,rfl⟩,by rw [show acc (mvP ns ms) 0 = [] from rfl,List.append_nil]⟩) ?_ ?_)
 ·rintro k lc H u - hu ⟨⟨o,rfl⟩,rfl⟩
  obtain ⟨rfl,hk'⟩:=rng_at hu
  have hk'':=rk1 hk'
  refine lmC_ok g hk'' (acc_30 g (Nat.le_sub_one_of_lt (Nat.lt_of_succ_lt hk''))) fun H e=>?_
  subst e
  exact .here rfl ⟨⟨_,rfl⟩,by rw [acc_succ,List.append_assoc]⟩
 ·rintro lc H ⟨⟨o,rfl⟩,rfl⟩
  (refine wpSs_cons.mpr ?_;tm_at "wps")
  exact ⟨rfl,by rw [List.length_map,el];rfl⟩
end
open PySem PyProof.Rows PySem.SeqAt
inductive MK:AV→Prop
 | f:MK fV
 | l:MK lV
 | p (k:Nat):MK (pV k)
noncomputable def mD:AV→PyData
 | .tup [.str a]=>.tuple [.str a]
 | .tup [.str a,.int k]=>.tuple [.str a,.int k]
 | _=>.none
theorem mD_f:mD fV = .tuple [.str "first"]:=rfl
theorem mD_l:mD lV = .tuple [.str "last"]:=rfl
theorem mD_p (k:Nat):mD (pV k) = .tuple [.str "pleat",.int k]:=rfl
theorem MK.rd {v:AV} (h:MK v) {H:AH} {k:Nat}:Rd H (k + 1) v (mD v):=by
 induction h with
 | f=>exact .tup (.cons (.str _ strOk_first) .nil)
 | l=>exact .tup (.cons (.str _ strOk_last) .nil)
 | p j=>exact .tup (.cons (.str _ strOk_pleat) (.cons (.int _) .nil))
theorem MK.fv {v:AV} (h:MK v):FV v:=fun φ H=>by
 induction h with
 | f=>exact .tup (.cons (.str _) .nil)
 | l=>exact .tup (.cons (.str _) .nil)
 | p j=>exact .tup (.cons (.str _) (.cons (.int _) .nil))
theorem MK.nofl {v:AV} (h:MK v):NoFl v:=by
 induction h with
 | f=>exact .tup (.cons (.str _) .nil)
 | l=>exact .tup (.cons (.str _) .nil)
 | p j=>exact .tup (.cons (.str _) (.cons (.int _) .nil))
theorem MK.refl {v:AV} (h:MK v):(mD v).eqv (mD v) = true:=by
 induction h<;>simp [mD_f,mD_l,mD_p,PyData.eqv,PyData.eqvAll]
theorem MK.eq {v w:AV} (h:MK v) (h':MK w) (e:(mD v).eqv (mD w) = true):v = w:=by
 have n1:((("first" : Str)) == ("last" : Str)) = false:=by decide
 have n2:((("last" : Str)) == ("first" : Str)) = false:=by decide
 induction h<;>induction h'<;>simp [mD_f,mD_l,mD_p,PyData.eqv,PyData.eqvAll,n1,n2] at e ⊢
 exact congrArg (fun i=>AV.tup [.str "pleat",.int i]) e
section
variable {ns:List Int} {ms:List Str} {v w:AV}
theorem mem_iff1 {b:Bool} (h:v ∈ iff1 b w):b = true∧v = w:=by
 cases b with
 | false=>cases h
 | true=>exact ⟨rfl,List.mem_singleton.mp h⟩
theorem mvs_mem (h:v ∈ mvs ns ms):(v = fV∧fOk ns ms = true) ∨ (v = lV∧lOk ns ms = true) ∨ ∃ k,v = pV k∧k < ms.length - 1∧pOk ns ms k = true:=by
 rcases List.mem_append.mp h with h | h
 ·rcases List.mem_append.mp h with h | h
  ·exact .inl ⟨(mem_iff1 h).2,(mem_iff1 h).1⟩
  ·exact .inr (.inl ⟨(mem_iff1 h).2,(mem_iff1 h).1⟩)
 ·obtain ⟨k,hk,h⟩:=List.mem_flatMap.mp h
  exact .inr (.inr ⟨k,(mem_iff1 h).2,List.mem_range.mp hk,(mem_iff1 h).1⟩)
theorem mvs_mk (h:v ∈ mvs ns ms):MK v:=by
 rcases mvs_mem h with ⟨rfl,_⟩ | ⟨rfl,_⟩ | ⟨k,rfl,_⟩
 ·exact .f
 ·exact .l
 ·exact .p k
theorem Rds.mvs {H:AH} {k:Nat} {L:List AV} (h:∀ m ∈ L,MK m):Rds H (k + 1) L (L.map mD):=by
 have:=Rds.ofAll (H:=H) (k:=k + 1) (f:=id) (g:=mD) (l:=L) fun x hx=>(h x hx).rd
 rwa [List.map_id] at this
noncomputable def inM (ns:List Int) (ms:List Str) (d:PyData):Bool:=((mvs ns ms).map mD).any fun e=>e.eqv d
theorem inM_yes (h:v ∈ mvs ns ms):inM ns ms (mD v) = true:=List.any_eq_true.mpr ⟨mD v,List.mem_map.mpr ⟨v,h,rfl⟩,(mvs_mk h).refl⟩
theorem inM_no {d:PyData} (h:∀ m ∈ mvs ns ms,(mD m).eqv d = false):inM ns ms d = false:=List.any_eq_false.mpr fun e he=>by
 obtain ⟨m,hm,rfl⟩:=List.mem_map.mp he
 rw [h m hm];simp
theorem inM_mk (hv:MK v) (h:v ∉ mvs ns ms):inM ns ms (mD v) = false:=inM_no fun m hm=>by
 cases q:(mD m).eqv (mD v) with
 | false=>rfl
 | true=>exact absurd ((mvs_mk hm).eq hv q ▸ hm) h
end
theorem CallJ.pure {P:PC} {l:Lv} {f:Nat} {vs:List AV} {v0:AV} {X:Str→Prop} (hv:FV v0) (h:CallJ P l f vs (fun v _=>v = v0) X):CallJ P l f vs (fun v H=>v = v0∧H = []) X:=
 CallJ.ren (h.mono fun v H e=>by subst e;exact ⟨[],[],v,RenH.nil,hv _ _,rfl,rfl⟩)
noncomputable def ct1 (fm:Nat):CE:=.or (.not (.isin .tuple (.var 1))) (.or (.not (.chain .LtE .LtE (.const (.int (1))) (.prim .len [(.var 1)]) (.const (.int (2))))) (.cmp .NotIn (.var 1) (.call fm [(.var 0)])))
noncomputable def ct2 (fi:Nat):CE:=.and (.cmp .Eq (.prim .len [(.var 1)]) (.const (.int (2)))) (.not (.call fi [(.idx (.var 1) (.const (.int (1)))),(.const (.int (0))),(.prim .len [(.idx (.var 0) (.const (.int (1))))])]))
noncomputable def cs_need_move (fm fi:Nat):List CS:=[.ite (ct1 fm) [.raise ""] [],.ite (ct2 fi) [.raise ""] []]
theorem call_mvs {P:PC} {l:Lv} {f:Nat} {ns:List Int} {ms:List Str} {X:Str→Prop} {vs:List AV} {H:AH} {Q:AV→AH→Prop} (hr:Rens [] H vs vs) (hc:CallJ P l f vs (fun v H=>v = .ref 0∧H = [mvs ns ms]) X) (h:Q (.ref H.length) (H++[mvs ns ms])):CallP P l f vs H Q X:=
 CallP.plain hr hc fun v Hc ⟨e1,e2⟩=>by
  subst e1 e2
  have:AV.shifts H.length (mvs ns ms) = mvs ns ms:=by
   rw [AV.shifts_eq]
   exact (List.map_congr_left (g:=id) fun a ha=>((mvs_mk ha).fv [] []).noref _).trans (List.map_id _)
  simpa [sh_ref,this] using h
section
variable {P:PC} {l:Lv} {f fm fi:Nat} {ps rest:List Str} {X:Str→Prop} {ns:List Int} {ms:List Str} {v:AV} {Q:AV→AH→Prop} {us:List AV} {d:PyData} {c:Addr}
theorem st_ren:Rens [] ([]:AH) [stV ns ms] [stV ns ms]:=.cons (.tup (.cons (.fl (Rens.ints _)) (.cons (.fl (Rens.strs _)) .nil))) .nil
theorem ct1_tup (hk:0 < l.k) (hq:l.q = true) (hm:CallJ P l fm [stV ns ms] (fun v H=>v = .ref 0∧H = [mvs ns ms]) X) (h1:us.length = 1 ∨ us.length = 2) (hd:Rd [mvs ns ms] 9 (.tup us) d) (h:Q (.bool (!inM ns ms d)) [mvs ns ms]) :
  wpE P l X (ct1 fm) [some (stV ns ms),some (.tup us)] [] Q:=by
 unfold ct1
 tm_at "wps"
 rw [show isInst .tuple (.tup us) = true from rfl]
 tm_at "wps"
 refine ⟨hq,Nat.le_trans (show us.length ≤ 2 by (first | lia | omega)) (by decide),?_⟩
 have e1:decide ((1:Int) ≤ us.length) = true:=decide_eq_true (by (first | lia | omega))
 have e2:decide (((us.length:Nat):Int) ≤ 2) = true:=decide_eq_true (by (first | lia | omega))
 rw [e1]
 tm_at "wps"
 rw [e2]
 tm_at "wps"
 refine ⟨hk,call_mvs st_ren hm ⟨_,_,_,hd,rfl,Rds.mvs (k:=8) fun m hm=>mvs_mk hm,h⟩⟩
theorem need_ok (F:FnIs P f ps rest (cs_need_move fm fi)) (hp:ps.length = 2) (hr:rest.length = 0) (hk:1 < l.k) (hq:l.q = true) (g:GS ns ms) (hv:v ∈ mvs ns ms) (hm:CallJ P ⟨l.k - 1,l.q,none⟩ fm [stV ns ms] (fun v H=>v = .ref 0∧H = [mvs ns ms]) X)
  (hi:∀ a b:Int,∀ v,Pl v→CallJ P ⟨l.k - 1,l.q,none⟩ fi [v,.int a,.int b] (fun r H=>r = .bool (isNum a b v)∧H = []) X):CallJ P l f [stV ns ms,v] (fun r H=>r = .none∧H = []) X:=by
 refine CallJ.pure (fun _ _=>.none) (F.call (Nat.lt_trans (by decide) hk) (by rw [hp];rfl) ?_)
 rw [hr]
 unfold cs_need_move
 refine seqS ⟨fun lc H=>lc = [some (stV ns ms),some v]∧H = [],?_,?_⟩
 ·rintro lc H ⟨rfl,rfl⟩
  refine seqS ⟨fun _ _=>True,fun _ _ _=>rfl,?_⟩
  rcases mvs_mem hv with ⟨rfl,_⟩ | ⟨rfl,_⟩ | ⟨k,rfl,hk',_⟩
  ·unfold ct2 fV;tm_at "wps";exact ⟨hq,by decide,Cut.here trivial⟩
  ·unfold ct2 lV;tm_at "wps";exact ⟨hq,by decide,Cut.here trivial⟩
  ·unfold ct2 pV stV
   tm_at "wps"
   refine ⟨hq,by decide,Nat.sub_pos_of_lt hk,hq,?_,CallP.plain (.cons (.int _) (.cons (.int _) (.cons (.int _) .nil))) (hi 0 _ (.int k) trivial) ?_⟩
   ·rw [List.length_map];exact g.sm
   ·rintro r Hc ⟨rfl,rfl⟩
    have:isNum 0 ((List.map AV.str ms).length:Nat) (.int (k:Int)) = true:=by
     rw [List.length_map]
     show (decide ((0:Int) ≤ k) && decide ((k:Int) ≤ ms.length)) = true
     rw [decide_eq_true (by omega),decide_eq_true (by omega)];rfl
    rw [this]
    exact Cut.here trivial
 ·have hy:=inM_yes hv
  have fin:∀ us,v = .tup us→us.length = 1 ∨ us.length = 2→wpE P ⟨l.k - 1,l.q,none⟩ X (ct1 fm) [some (stV ns ms),some v] [] fun v_1 H₁=>onBool v_1 fun t=>if t = true then wpSs P ⟨l.k - 1,l.q,none⟩ [.raise ""] [some (stV ns ms),some v] H₁ (Cut none fun lc H=>lc = [some (stV ns ms),some v]∧H = []) (fun v _=>v = .none) (fun c _ _=>X c) else wpSs P ⟨l.k - 1,l.q,none⟩ [] [some (stV ns ms),some v] H₁ (Cut none fun lc H=>lc = [some (stV ns ms),some v]∧H = []) (fun v _=>v = .none) (fun c _ _=>X c):=fun us e hl=>by
   have hd:=(mvs_mk hv).rd (H:=[mvs ns ms]) (k:=8)
   rw [e] at hd hy ⊢
   refine ct1_tup (Nat.sub_pos_of_lt hk) hq hm hl hd ?_
   rw [hy]
   exact ⟨_,_,.inr ⟨[],pin0,RenH.nil,.keep (.tup (.cons (.fl (Rens.ints _)) (.cons (.fl (Rens.strs _)) .nil))) (.keep (e ▸ (mvs_mk hv).fv _ _) .nil)⟩,rfl,rfl⟩
  rcases mvs_mem hv with ⟨e,_⟩ | ⟨e,_⟩ | ⟨k,e,_,_⟩
  ·exact fin _ e (.inl rfl)
  ·exact fin _ e (.inl rfl)
  ·exact fin _ e (.inr rfl)
end
open PySem PyProof.Rows PySem.SeqAt
noncomputable def ld (u p:List Int) (m:Str):List Int:=if m = "valley" then u++p.reverse else p.reverse++u
noncomputable def ld3 (p q r:List Int) (m:Str):List Int:=if m = "valley" then (p++q.reverse)++r else (r++q.reverse)++p
inductive MS:List Int→List Str→List (List Int)→AV→List Int→List Str→List (List Int)→Prop
 | first {x:Int} {ns:List Int} {m:Str} {ms:List Str} {p q:List Int} {pl:List (List Int)}:MS (x::ns) (m::ms) (p::q::pl) fV ns ms (ld q p m::pl)
 | last {x:Int} {ns:List Int} {m:Str} {ms:List Str} {p q:List Int} {pl:List (List Int)}:MS (ns++[x]) (ms++[m]) (pl++[q,p]) lV ns ms (pl++[ld q p m])
 | pleat {A B:List Int} {x y z:Int} {C D:List Str} {u w:Str} {E F:List (List Int)} {p q r:List Int}:A.length = C.length→E.length = C.length →
   MS (A++x::y::z::B) (C++u::w::D) (E++p::q::r::F) (pV C.length) (A++(x - y + z)::B) (C++D) (E++ld3 p q r u::F)
theorem MS.mk {ns ns':List Int} {ms ms':List Str} {pl pl':List (List Int)} {v:AV} (h:MS ns ms pl v ns' ms' pl'):MK v:=by
 induction h with
 | first=>exact .f
 | last=>exact .l
 | pleat=>exact .p _
noncomputable def SR (ns:List Int) (ms:List Str) (v:AV) (H:AH):Prop:=RenQ (Gives ns ms) v H
theorem SR.two {H:AH} {a b:Nat} {xs:List Int} {ys:List Str} {L M:List AV} (ha:H[a]? = some L) (hb:H[b]? = some M) (e1:L = xs.map AV.int) (e2:M = ys.map AV.str) (hne:a ≠ b):SR xs ys (.tup [.ref a,.ref b]) H:=by
 subst e1 e2
 exact ⟨[a,b],_,_,RenH.two ha hb hne (Rens.ints xs) (Rens.strs ys),.tup (.cons (.ref rfl) (.cons (.ref rfl) .nil)),rfl,rfl⟩
theorem mid_get {α:Type} {a c:List α} (j:Nat):(a++c)[a.length + j]? = c[j]?:=by
 rw [List.getElem?_append_right (Nat.le_add_right _ _),Nat.add_sub_cancel_left]
theorem mid_at {α:Type} {a c:List α} {n:Nat} (j:Nat) (h:a.length = n):(a++c)[n + j]? = c[j]?:=h ▸ mid_get j
theorem take_at {α:Type} {a c:List α} {n:Nat} (h:a.length = n):(a++c).take n = a:=List.take_left' h
theorem drop_at {α:Type} {a c:List α} {n j:Nat} (h:a.length = n):(a++c).drop (n + j) = c.drop j:=by rw [← List.drop_drop,← h,List.drop_left]
theorem snoc_take {α:Type} {a:List α} {x:α}:(a++[x]).take ((a++[x]).length - 1) = a:=by rw [List.length_append];exact List.take_left' rfl
theorem mapI_app {a b:List Int}:(a++b).map AV.int = a.map AV.int++b.map AV.int:=List.map_append
theorem mapS_app {a b:List Str}:(a++b).map AV.str = a.map AV.str++b.map AV.str:=List.map_append
theorem n0:decide ((("last" : Str)) = "first") = false:=by decide
theorem n1:decide ((("pleat" : Str)) = "first") = false:=by decide
theorem n2:decide ((("pleat" : Str)) = "last") = false:=by decide
theorem ff:decide ((("first" : Str)) = "first") = true:=by decide
theorem ll:decide ((("last" : Str)) = "last") = true:=by decide
noncomputable def pleatE (i j k e:Nat):CE:=.tup [(.bin .Add (.bin .Add (.slc (.var i) (.const .none) (.var k) (.const .none)) (.lst [(.var e)])) (.slc (.var i) (.bin .Add (.var k) (.const (.int (3)))) (.const .none) (.const .none))),(.bin .Add (.slc (.var j) (.const .none) (.var k) (.const .none)) (.slc (.var j) (.bin .Add (.var k) (.const (.int (2)))) (.const .none) (.const .none)))]
noncomputable def tkA:List CS:=[.ret (.tup [(.slc (.var 2) (.const (.int (1))) (.const .none) (.const .none)),(.slc (.var 3) (.const (.int (1))) (.const .none) (.const .none))])]
noncomputable def tkB:List CS:=[.ret (.tup [(.slc (.var 2) (.const .none) (.neg (.const (.int (1)))) (.const .none)),(.slc (.var 3) (.const .none) (.neg (.const (.int (1)))) (.const .none))])]
noncomputable def tkC:List CS:=[
 .assign 4 (.idx (.var 1) (.const (.int (1)))),
 .assign 5 (.bin .Add (.bin .Sub (.idx (.var 2) (.var 4)) (.idx (.var 2) (.bin .Add (.var 4) (.const (.int (1)))))) (.idx (.var 2) (.bin .Add (.var 4) (.const (.int (2)))))),
 .ret (pleatE 2 3 4 5)]
noncomputable def cs_taken (fn:Nat):List CS:=
 .expr (.call fn [(.var 0),(.var 1)]) ::
 .assignT [2,3] (.var 0) ::
 .ite (.cmp .Eq (.idx (.var 1) (.const (.int (0)))) (.const (.str "first"))) tkA [] ::
 .ite (.cmp .Eq (.idx (.var 1) (.const (.int (0)))) (.const (.str "last"))) tkB []::tkC
noncomputable def bhA:List CS:=[.ret (.tup [(.slc (.var 0) (.const (.int (1))) (.const .none) (.const .none)),(.slc (.var 1) (.const (.int (1))) (.const .none) (.const .none))])]
noncomputable def bhB:List CS:=[.ret (.tup [(.slc (.var 0) (.const .none) (.neg (.const (.int (1)))) (.const .none)),(.slc (.var 1) (.const .none) (.neg (.const (.int (1)))) (.const .none))])]
noncomputable def bhC:List CS:=[
 .assign 3 (.idx (.var 2) (.const (.int (1)))),
 .assign 4 (.bin .Sub (.bin .Add (.idx (.var 0) (.var 3)) (.idx (.var 0) (.bin .Add (.var 3) (.const (.int (2)))))) (.idx (.var 0) (.bin .Add (.var 3) (.const (.int (1)))))),
 .ret (pleatE 0 1 3 4)]
noncomputable def cs_behind:List CS:=
 .ite (.cmp .Eq (.var 2) (.tup [(.const (.str "first"))])) bhA [] ::
 .ite (.cmp .Eq (.var 2) (.tup [(.const (.str "last"))])) bhB []::bhC
theorem Rens.one {φ:List Nat} {H:AH} {v w:AV} {a b:List AV} (r:Rens φ H (v::a) (w::b)):Ren φ H v w:=by cases r;assumption
section
variable {P:PC} {l:Lv} {f:Nat} {ps rest:List Str} {X:Str→Prop} {ns ns':List Int} {ms ms':List Str} {pl pl':List (List Int)} {v:AV} {H:AH} {Q:AV→AH→Prop} {Qn:Loc→AH→Prop} {Qr:AV→AH→Prop} {Qx:Str→Loc→AH→Prop}
theorem eq_mk {w:AV} (h:MK v) (hw:MK w) (h1:v = w→Q (.bool true) H) (h2:v ≠ w→Q (.bool false) H):eqOf v w H fun c=>Q (.bool c) H:=⟨_,_,h.rd (k:=8),hw.rd (k:=8),by
 cases q:(mD v).eqv (mD w) with
 | true=>exact h1 (h.eq hw q)
 | false=>exact h2 fun e=>by rw [e,hw.refl] at q;cases q⟩
theorem eq_fV (h:MK v) (h1:v = fV→Q (.bool true) H) (h2:v ≠ fV→Q (.bool false) H):opCmp .Eq v (.tup [.str "first"]) H Q:=by
 have:=eq_mk h .f h1 h2
 cases h<;>exact this
theorem eq_lV (h:MK v) (h1:v = lV→Q (.bool true) H) (h2:v ≠ lV→Q (.bool false) H):opCmp .Eq v (.tup [.str "last"]) H Q:=by
 have:=eq_mk h .l h1 h2
 cases h<;>exact this
theorem ne_lf:lV ≠ fV:=fun e=>by cases e
theorem ne_pf (k:Nat):pV k ≠ fV:=fun e=>by cases e
theorem ne_pl (k:Nat):pV k ≠ lV:=fun e=>by cases e
theorem le90 {L:List AV} {n:Nat} (h:L.length = n) (hn:n ≤ 30):L.length ≤ 90:=h ▸ Nat.le_trans hn (by decide)
theorem add90 {a b:List AV} (ha:a.length ≤ 90) (hb:b.length ≤ 90):a.length + b.length ≤ smallN:=Nat.le_trans (Nat.add_le_add ha hb) (by decide)
theorem small90 {a:List AV} (ha:a.length ≤ 90):a.length ≤ smallN:=Nat.le_trans ha (by decide)
theorem app1_le {a:List AV} {x:AV} (ha:a.length ≤ 30):(a++[x]).length ≤ 90:=by rw [List.length_append];exact Nat.add_le_add_right (Nat.le_trans ha (by decide:30 ≤ 89)) 1
theorem pleatE_ok {i j k e:Nat} {loc:Loc} {A B:List Int} {x y z c:Int} {C D:List Str} {u w:Str} (hi:loc[i]?.join = some (.fl ((A++x::y::z::B).map AV.int))) (hj:loc[j]?.join = some (.fl ((C++u::w::D).map AV.str))) (hk:loc[k]?.join = some (.int C.length)) (he:loc[e]?.join = some (.int c))
  (g:GS (A++x::y::z::B) (C++u::w::D)) (hA:A.length = C.length) (hc:c = x - y + z):wpE P l X (pleatE i j k e) loc [] (SR (A++(x - y + z)::B) (C++D)):=by
 subst hc
 have lA:(A.map AV.int).length = C.length:=by rw [List.length_map];exact hA
 have lC:(C.map AV.str).length = C.length:=List.length_map _
 have eI:(A++x::y::z::B).map AV.int = A.map AV.int++.int x::.int y::.int z::B.map AV.int:=mapI_app
 have eS:(C++u::w::D).map AV.str = C.map AV.str++.str u::.str w::D.map AV.str:=mapS_app
 have t1:=mapI_le g.sn
 have t2:=mapS_le g.sm
 have m1:=g.most
 have m2:=g.len
 rw [List.length_append,List.length_cons,List.length_cons,List.length_cons] at m1
 rw [List.length_append,List.length_append,List.length_cons,List.length_cons,List.length_cons,List.length_cons,List.length_cons] at m2
 rw [eI] at t1 hi
 rw [eS] at t2 hj
 have bA:(A.map AV.int).length ≤ 30:=by rw [List.length_map];exact Nat.le_trans (Nat.le_add_right _ _) m1
 have bB:(B.map AV.int).length ≤ 90:=le90 (List.length_map _) (by (first | lia | omega))
 have bC:(C.map AV.str).length ≤ 90:=le90 lC (hA ▸ Nat.le_trans (Nat.le_add_right _ _) m1)
 have bD:(D.map AV.str).length ≤ 90:=le90 (List.length_map _) (by (first | lia | omega))
 unfold pleatE
 tm_at "wps"
 rw [hi,hj,hk,he]
 tm_at "wps"
 refine sl_upto rfl t1 (Int.natCast_nonneg _) ?_
 rw [show (A.map AV.int++AV.int x::.int y::.int z::B.map AV.int).take (Int.toNat (C.length:Nat)) = A.map AV.int from take_at lA]
 refine ⟨by decide,add90 (b:=[AV.none]) (Nat.le_trans bA (by decide)) (by decide),sl_from rfl t1 (Int.add_nonneg (Int.natCast_nonneg _) (by decide)) ?_⟩
 rw [show (A.map AV.int++AV.int x::.int y::.int z::B.map AV.int).drop (Int.toNat ((C.length:Nat) + 3)) = B.map AV.int from drop_at (j:=3) lA]
 refine ⟨add90 (app1_le bA) bB,sl_upto rfl t2 (Int.natCast_nonneg _) ?_⟩
 rw [show (C.map AV.str++AV.str u::.str w::D.map AV.str).take (Int.toNat (C.length:Nat)) = C.map AV.str from take_at lC]
 refine sl_from rfl t2 (Int.add_nonneg (Int.natCast_nonneg _) (by decide)) ?_
 rw [show (C.map AV.str++AV.str u::.str w::D.map AV.str).drop (Int.toNat ((C.length:Nat) + 2)) = D.map AV.str from drop_at (j:=2) lC]
 refine ⟨add90 bC bD,by decide,?_⟩
 exact SR.two (a:=4) (b:=7) rfl rfl (by rw [mapI_app,List.append_assoc];rfl) mapS_app.symm (by decide)
theorem behind_ok (F:FnIs P f ps rest cs_behind) (hp:ps.length = 3) (hr:rest.length = 2) (hk:0 < l.k) (g:GS ns ms) (m:MS ns ms pl v ns' ms' pl'):CallJ P l f [.fl (ns.map AV.int),.fl (ms.map AV.str),v] (Gives ns' ms') X:=by
 refine CallJ.ren (F.call hk (by rw [hp];rfl) ?_)
 rw [hr]
 have s1:=g.sn
 have s2:=g.sm
 show wpSs P _ cs_behind _ _ _ (SR ns' ms') _
 unfold cs_behind
 induction m with
 | first=>
  refine ⟨fun _ _=>False,fun _ _ h=>h.elim,by decide,eq_fV .f (fun _=>?_) fun h=>(h rfl).elim⟩
  unfold bhA
  (refine wpSs_cons.mpr ?_;tm_at "wps")
  refine sl_from rfl (mapI_le s1) (by decide) (sl_from rfl (mapS_le s2) (by decide) ⟨by decide,?_⟩)
  exact SR.two (a:=0) (b:=1) rfl rfl rfl rfl (by decide)
 | last=>
  have t1:=mapI_le s1
  have t2:=mapS_le s2
  rw [mapI_app] at t1 ⊢
  rw [mapS_app] at t2 ⊢
  refine ⟨_,fun _ _ h=>h,by decide,eq_fV .l (fun h=>absurd h ne_lf) fun _=>Cut.here ?_⟩
  refine ⟨fun _ _=>False,fun _ _ h=>h.elim,by decide,eq_lV .l (fun _=>?_) fun h=>(h rfl).elim⟩
  unfold bhB
  (refine wpSs_cons.mpr ?_;tm_at "wps")
  refine sl_cut (d:=1) rfl t1 rfl (by decide) (sl_cut (d:=1) rfl t2 rfl (by decide) ⟨by decide,?_⟩)
  exact SR.two (a:=0) (b:=1) rfl rfl snoc_take snoc_take (by decide)
 | pleat hA hE=>
  rename_i A B x y z C D u w E F p q r
  refine ⟨_,fun _ _ h=>h,by decide,eq_fV (.p _) (fun h=>absurd h (ne_pf _)) fun _=>Cut.here ?_⟩
  refine ⟨_,fun _ _ h=>h,by decide,eq_lV (.p _) (fun h=>absurd h (ne_pl _)) fun _=>Cut.here ?_⟩
  have lA:(A.map AV.int).length = C.length:=by rw [List.length_map];exact hA
  have eI:(A++x::y::z::B).map AV.int = A.map AV.int++.int x::.int y::.int z::B.map AV.int:=mapI_app
  have t1:=mapI_le s1
  rw [eI] at t1
  unfold bhC pV
  (refine wpSs_cons.mpr ?_;tm_at "wps")
  (refine wpSs_cons.mpr ?_;tm_at "wps")
  refine i_pos C.length (congrArg some eI) t1 rfl (mid_at 0 lA) (i_pos (C.length + 2) (congrArg some eI) t1 (i4 rfl) (mid_at 2 lA) ?_)
  tm_at "wps"
  refine i_pos (C.length + 1) (congrArg some eI) t1 rfl (mid_at 1 lA) ?_
  (refine wpSs_cons.mpr ?_;tm_at "wps")
  exact pleatE_ok (c:=x + z - y) rfl rfl rfl rfl g hA (by (first | lia | omega))
theorem taken_ok {fn:Nat} (F:FnIs P f ps rest (cs_taken fn)) (hp:ps.length = 2) (hr:rest.length = 4) (hk:1 < l.k) (hq:l.q = true) (g:GS ns ms) (m:MS ns ms pl v ns' ms' pl') (hn:CallJ P ⟨l.k - 1,l.q,none⟩ fn [stV ns ms,v] (fun r H=>r = .none∧H = []) X):CallJ P l f [stV ns ms,v] (Gives ns' ms') X:=by
 refine CallJ.ren (F.call (Nat.lt_trans (by decide) hk) (by rw [hp];rfl) ?_)
 rw [hr]
 have s1:=g.sn
 have s2:=g.sm
 show wpSs P _ (cs_taken fn) _ _ _ (SR ns' ms') _
 unfold cs_taken
 (refine wpSs_cons.mpr ?_;tm_at "wps")
 refine ⟨Nat.sub_pos_of_lt hk,CallP.plain (.cons (st_ren.one) (.cons (m.mk.fv _ _) .nil)) hn ?_⟩
 rintro _ _ ⟨rfl,rfl⟩
 unfold stV
 (refine wpSs_cons.mpr ?_;tm_at "wps")
 refine ⟨hq,?_⟩
 induction m with
 | first=>
  unfold fV
  (refine wpSs_cons.mpr ?_;tm_at "wps")
  refine ⟨fun _ _=>False,fun _ _ h=>h.elim,i_pos 0 rfl (by decide) rfl rfl (c_str strOk_first strOk_first ?_)⟩
  rw [ff]
  unfold tkA
  (refine wpSs_cons.mpr ?_;tm_at "wps")
  refine sl_from rfl (mapI_le s1) (by decide) (sl_from rfl (mapS_le s2) (by decide) ⟨by decide,?_⟩)
  exact SR.two (a:=0) (b:=1) rfl rfl rfl rfl (by decide)
 | last=>
  have t1:=mapI_le s1
  have t2:=mapS_le s2
  rw [mapI_app] at t1 ⊢
  rw [mapS_app] at t2 ⊢
  unfold lV
  (refine wpSs_cons.mpr ?_;tm_at "wps")
  refine ⟨_,fun _ _ h=>h,i_pos 0 rfl (by decide) rfl rfl (c_str strOk_last strOk_first ?_)⟩
  rw [n0]
  refine Cut.here ?_
  (refine wpSs_cons.mpr ?_;tm_at "wps")
  refine ⟨fun _ _=>False,fun _ _ h=>h.elim,i_pos 0 rfl (by decide) rfl rfl (c_str strOk_last strOk_last ?_)⟩
  rw [ll]
  unfold tkB
  (refine wpSs_cons.mpr ?_;tm_at "wps")
  refine sl_cut (d:=1) rfl t1 rfl (by decide) (sl_cut (d:=1) rfl t2 rfl (by decide) ⟨by decide,?_⟩)
  exact SR.two (a:=0) (b:=1) rfl rfl snoc_take snoc_take (by decide)
 | pleat hA hE=>
  rename_i A B x y z C D u w E F p q r
  have lA:(A.map AV.int).length = C.length:=by rw [List.length_map];exact hA
  have eI:(A++x::y::z::B).map AV.int = A.map AV.int++.int x::.int y::.int z::B.map AV.int:=mapI_app
  have t1:=mapI_le s1
  rw [eI] at t1
  unfold pV
  (refine wpSs_cons.mpr ?_;tm_at "wps")
  refine ⟨_,fun _ _ h=>h,c_str strOk_pleat strOk_first ?_⟩
  rw [n1]
  refine Cut.here ?_
  (refine wpSs_cons.mpr ?_;tm_at "wps")
  refine ⟨_,fun _ _ h=>h,c_str strOk_pleat strOk_last ?_⟩
  rw [n2]
  refine Cut.here ?_
  unfold tkC
  (refine wpSs_cons.mpr ?_;tm_at "wps")
  (refine wpSs_cons.mpr ?_;tm_at "wps")
  refine i_pos C.length (congrArg some eI) t1 rfl (mid_at 0 lA) (i_pos (C.length + 1) (congrArg some eI) t1 rfl (mid_at 1 lA) ?_)
  tm_at "wps"
  refine i_pos (C.length + 2) (congrArg some eI) t1 (i4 rfl) (mid_at 2 lA) ?_
  (refine wpSs_cons.mpr ?_;tm_at "wps")
  exact pleatE_ok rfl rfl rfl rfl g hA rfl
end
open PySem PyProof.Rows PySem.SeqAt
noncomputable def pilesAV (pl:List (List Int)):List AV:=pl.map fun r=>.fl (r.map AV.int)
theorem rens_piles {φ:List Nat} {H:AH} (pl:List (List Int)):Rens φ H (pilesAV pl) (pilesAV pl):=Rens.ofAll fun r _=>.fl (Rens.ints r)
theorem piles_len (pl:List (List Int)):(pilesAV pl).length = pl.length:=by simp [pilesAV]
theorem piles_app (a b:List (List Int)):pilesAV (a++b) = pilesAV a++pilesAV b:=List.map_append
theorem FVs.piles {pl:List (List Int)}:FVs (pilesAV pl):=fun v hv=>by obtain ⟨r,_,rfl⟩:=List.mem_map.mp hv;exact FVs.ints.fl
noncomputable def PR (pl:List (List Int)) (v:AV) (H:AH):Prop:=RenQ (fun v' H'=>v' = .ref 0∧H' = [pilesAV pl]) v H
theorem PR.mid {H:AH} {n:Nat} {a b:List (List Int)} {q:List Int} {w:AV} {L:List AV} (en:H[n]? = some L) (eL:L = pilesAV a++w::pilesAV b) (hw:Ren [n] H w (.fl (q.map AV.int))):PR (a++q::b) (.ref n) H:=by
 subst eL
 exact ⟨[n],[pilesAV (a++q::b)],.ref 0,RenH.one en (by rw [piles_app];exact (rens_piles a).app (.cons hw (rens_piles b))),.ref rfl,rfl,rfl⟩
theorem rensI {φ:List Nat} {H:AH} {L:List AV} {L':List Int} (e:L = L'.map AV.int):Rens φ H L (L'.map AV.int):=by rw [e];exact Rens.ints L'
theorem mapR {l:List Int}:l.reverse.map AV.int = (l.map AV.int).reverse:=List.map_reverse
structure GP (pl:List (List Int)):Prop where
 most:pl.length ≤ 30
 each:∀ p ∈ pl,p.length ≤ 30
noncomputable def cs_laid:List CS:=[
 .ite (.cmp .Eq (.var 2) (.const (.str "valley")))
  [      .ret (.bin .Add (.var 0) (.slc (.var 1) (.const .none) (.const .none) (.neg (.const (.int (1))))))]
  [],
 .ret (.bin .Add (.slc (.var 1) (.const .none) (.const .none) (.neg (.const (.int (1))))) (.var 0))]
noncomputable def lbC:List CS:=[
 .assign 4 (.idx (.var 2) (.const (.int (1)))),
 .ite (.cmp .Eq (.idx (.var 3) (.var 4)) (.const (.str "valley")))
  [      .assign 5 (.bin .Add (.bin .Add (.idx (.var 1) (.var 4)) (.slc (.idx (.var 1) (.bin .Add (.var 4) (.const (.int (1))))) (.const .none) (.const .none) (.neg (.const (.int (1)))))) (.idx (.var 1) (.bin .Add (.var 4) (.const (.int (2))))))]
  [      .assign 5 (.bin .Add (.bin .Add (.idx (.var 1) (.bin .Add (.var 4) (.const (.int (2))))) (.slc (.idx (.var 1) (.bin .Add (.var 4) (.const (.int (1))))) (.const .none) (.const .none) (.neg (.const (.int (1)))))) (.idx (.var 1) (.var 4)))],
 .ret (.bin .Add (.bin .Add (.slc (.var 1) (.const .none) (.var 4) (.const .none)) (.lst [(.var 5)])) (.slc (.var 1) (.bin .Add (.var 4) (.const (.int (3)))) (.const .none) (.const .none)))]
noncomputable def cs_layers_behind (fl:Nat):List CS:=
 .assign 3 (.idx (.var 0) (.const (.int (1)))) ::
 .ite (.cmp .Eq (.idx (.var 2) (.const (.int (0)))) (.const (.str "first")))
  [      .ret (.bin .Add (.lst [(.call fl [(.idx (.var 1) (.const (.int (1)))),(.idx (.var 1) (.const (.int (0)))),(.idx (.var 3) (.const (.int (0))))])]) (.slc (.var 1) (.const (.int (2))) (.const .none) (.const .none)))]
  [] ::
 .ite (.cmp .Eq (.idx (.var 2) (.const (.int (0)))) (.const (.str "last")))
  [      .ret (.bin .Add (.slc (.var 1) (.const .none) (.neg (.const (.int (2)))) (.const .none)) (.lst [(.call fl [(.idx (.var 1) (.neg (.const (.int (2))))),(.idx (.var 1) (.neg (.const (.int (1))))),(.idx (.var 3) (.neg (.const (.int (1)))))])]))]
  []::lbC
section
variable {P:PC} {l:Lv} {f:Nat} {ps rest:List Str} {X:Str→Prop} {ns ns':List Int} {ms ms':List Str} {pl pl':List (List Int)} {v:AV} {H:AH} {Q:AV→AH→Prop} {Qn:Loc→AH→Prop} {Qr:AV→AH→Prop} {Qx:Str→Loc→AH→Prop} {u p:List Int} {m:Str}
theorem ints90 {a:List Int} (ha:a.length ≤ 30):(a.map AV.int).length ≤ 90:=by rw [List.length_map];exact Nat.le_trans ha (by decide)
theorem rev90 {a:List Int} (ha:a.length ≤ 30):(a.map AV.int).reverse.length ≤ 90:=by rw [List.length_reverse];exact ints90 ha
theorem piles90 {a:List (List Int)} (ha:a.length ≤ 30):(pilesAV a).length ≤ 90:=by rw [piles_len];exact Nat.le_trans ha (by decide)
theorem laid_ok (F:FnIs P f ps rest cs_laid) (hp:ps.length = 3) (hr:rest.length = 0) (hk:0 < l.k) (hm:Mk m) (h1:u.length ≤ 30) (h2:p.length ≤ 30):CallJ P l f [.fl (u.map AV.int),.fl (p.map AV.int),.str m] (fun v H=>v = .ref 0∧H = [(ld u p m).map AV.int]) X:=by
 refine CallJ.ren (F.call hk (by rw [hp];rfl) ?_)
 rw [hr]
 unfold cs_laid
 (refine wpSs_cons.mpr ?_;tm_at "wps")
 refine ⟨_,fun _ _ h=>h,c_str (mk_ok hm) (mk_ok (.inr rfl)) (brk (fun h=>?_) fun h=>Cut.here ?_)⟩
 ·(refine wpSs_cons.mpr ?_;tm_at "wps")
  refine sl_rev rfl (small90 (ints90 h2)) ⟨add90 (ints90 h1) (rev90 h2),?_⟩
  exact ⟨[1],_,.ref 0,RenH.one rfl (rensI (by unfold ld;rw [if_pos h,mapI_app,mapR])),.ref rfl,rfl,rfl⟩
 ·(refine wpSs_cons.mpr ?_;tm_at "wps")
  refine sl_rev rfl (small90 (ints90 h2)) ⟨add90 (rev90 h2) (ints90 h1),?_⟩
  exact ⟨[1],_,.ref 0,RenH.one rfl (rensI (by unfold ld;rw [if_neg h,mapI_app,mapR])),.ref rfl,rfl,rfl⟩
theorem call_laid {fl:Nat} (hc:CallJ P l fl [.fl (u.map AV.int),.fl (p.map AV.int),.str m] (fun v H=>v = .ref 0∧H = [(ld u p m).map AV.int]) X) (h:Q (.ref H.length) (H++[(ld u p m).map AV.int])):CallP P l fl [.fl (u.map AV.int),.fl (p.map AV.int),.str m] H Q X:=
 CallP.plain (.cons (.fl (Rens.ints _)) (.cons (.fl (Rens.ints _)) (.cons (.str _) .nil))) hc fun v Hc ⟨e1,e2⟩=>by
  subst e1 e2
  simpa [sh_ref] using h
theorem GP.sm (g:GP pl):(pilesAV pl).length ≤ smallN:=small90 (piles90 g.most)
theorem lb_first {fl:Nat} {x:Int} {q:List Int} (hk:1 < l.k) (g:GS (x::ns') (m::ms')) (gp:GP (p::q::pl)) (F:FnIs P f ps rest (cs_layers_behind fl)) (hp:ps.length = 3) (hr:rest.length = 3)
  (hl:CallJ P ⟨l.k - 1,l.q,none⟩ fl [.fl (q.map AV.int),.fl (p.map AV.int),.str m] (fun v H=>v = .ref 0∧H = [(ld q p m).map AV.int]) X):CallJ P l f [stV (x::ns') (m::ms'),.fl (pilesAV (p::q::pl)),fV] (fun v H=>v = .ref 0∧H = [pilesAV (ld q p m::pl)]) X:=by
 refine CallJ.ren (F.call (Nat.lt_trans (by decide) hk) (by rw [hp];rfl) ?_)
 rw [hr]
 show wpSs P _ (cs_layers_behind fl) _ _ _ (PR _) _
 unfold cs_layers_behind stV fV
 have hs:=gp.sm
 (refine wpSs_cons.mpr ?_;tm_at "wps")
 (refine wpSs_cons.mpr ?_;tm_at "wps")
 refine ⟨fun _ _=>False,fun _ _ h=>h.elim,i_pos 0 rfl (by decide) rfl rfl (c_str strOk_first strOk_first ?_)⟩
 rw [ff]
 (refine wpSs_cons.mpr ?_;tm_at "wps")
 refine ⟨Nat.sub_pos_of_lt hk,i_pos 1 rfl hs rfl rfl (i_pos 0 rfl hs rfl rfl (i_pos 0 rfl (mapS_le g.sm) rfl rfl (call_laid hl ⟨by decide,sl_from rfl hs (by decide) ⟨add90 (by decide) (piles90 (a:=pl) ?_),?_⟩⟩)))⟩
 ·exact Nat.le_trans (Nat.le_add_right _ 2) gp.most
 ·exact PR.mid (n:=3) (a:=[]) (b:=pl) rfl rfl (.frz (by decide) rfl (Rens.ints _))
theorem i_m1 {o x y:AV} {A:List AV} (e:o.seq? H = some (A++[x,y])) (hl:(A++[x,y]).length ≤ smallN) (h:Q y H):opIdx o (.int (-1)) H Q:=
 i_neg (d:=1) e hl rfl (by decide) (by rw [List.length_append];exact Nat.le_add_left 1 (A.length + 1)) (by rw [List.length_append];exact mid_get 1) h
theorem i_m2 {o x y:AV} {A:List AV} (e:o.seq? H = some (A++[x,y])) (hl:(A++[x,y]).length ≤ smallN) (h:Q x H):opIdx o (.int (-2)) H Q:=
 i_neg (d:=2) e hl rfl (by decide) (by rw [List.length_append];exact Nat.le_add_left 2 A.length) (by rw [List.length_append];exact mid_get 0) h
theorem take_two {α:Type} {A:List α} {x y:α}:(A++[x,y]).take ((A++[x,y]).length - 2) = A:=by
 rw [List.length_append];exact List.take_left' rfl
theorem lb_last {fl:Nat} {x:Int} {q:List Int} (hk:1 < l.k) (g:GS (ns'++[x]) (ms'++[m])) (gp:GP (pl++[q,p])) (F:FnIs P f ps rest (cs_layers_behind fl)) (hp:ps.length = 3) (hr:rest.length = 3)
  (hl:CallJ P ⟨l.k - 1,l.q,none⟩ fl [.fl (q.map AV.int),.fl (p.map AV.int),.str m] (fun v H=>v = .ref 0∧H = [(ld q p m).map AV.int]) X):CallJ P l f [stV (ns'++[x]) (ms'++[m]),.fl (pilesAV (pl++[q,p])),lV] (fun v H=>v = .ref 0∧H = [pilesAV (pl++[ld q p m])]) X:=by
 refine CallJ.ren (F.call (Nat.lt_trans (by decide) hk) (by rw [hp];rfl) ?_)
 rw [hr]
 show wpSs P _ (cs_layers_behind fl) _ _ _ (PR _) _
 have hs:=gp.sm
 have hm:=mapS_le g.sm
 rw [piles_app] at hs ⊢
 rw [mapS_app] at hm
 unfold cs_layers_behind stV lV
 rw [mapS_app]
 (refine wpSs_cons.mpr ?_;tm_at "wps")
 (refine wpSs_cons.mpr ?_;tm_at "wps")
 refine ⟨_,fun _ _ h=>h,i_pos 0 rfl (by decide) rfl rfl (c_str strOk_last strOk_first ?_)⟩
 rw [n0]
 refine Cut.here ?_
 (refine wpSs_cons.mpr ?_;tm_at "wps")
 refine ⟨fun _ _=>False,fun _ _ h=>h.elim,i_pos 0 rfl (by decide) rfl rfl (c_str strOk_last strOk_last ?_)⟩
 rw [ll]
 (refine wpSs_cons.mpr ?_;tm_at "wps")
 refine sl_cut (d:=2) rfl hs rfl (by decide) ⟨Nat.sub_pos_of_lt hk,i_m2 rfl hs (i_m1 rfl hs (i_snoc rfl hm (call_laid hl ⟨by decide,?_⟩)))⟩
 have et:(pilesAV pl++pilesAV [q,p]).take ((pilesAV pl++pilesAV [q,p]).length - 2) = pilesAV pl:=take_two
 have e30:pl.length ≤ 30:=Nat.le_trans (by rw [List.length_append];exact Nat.le_add_right _ _) gp.most
 refine ⟨add90 (b:=[AV.none]) (by rw [et];exact piles90 e30) (by decide),?_⟩
 exact PR.mid (n:=3) (a:=pl) (b:=[]) rfl (by rw [et];rfl) (Ren.frz (j:=1) (by decide) rfl (Rens.ints _))
theorem three90 {a b c:List AV} (ha:a.length ≤ 90) (hb:b.length ≤ 90) (hc:c.length ≤ 90):(a++b).length + c.length ≤ smallN:=by
 rw [List.length_append]
 exact Nat.le_trans (Nat.add_le_add (Nat.add_le_add ha hb) hc) (by decide)
theorem cat90 {a:List AV} {x:AV} {b:List AV} (ha:a.length ≤ 90) (hb:b.length ≤ 90):(a++[x]).length + b.length ≤ smallN:=by
 rw [List.length_append]
 exact Nat.le_trans (Nat.add_le_add (Nat.add_le_add ha (Nat.le_refl 1)) hb) (by decide)
theorem GP.mid {E G:List (List Int)} {p q r:List Int} (g:GP (E++p::q::r::G)):E.length ≤ 30∧G.length ≤ 30∧p.length ≤ 30∧q.length ≤ 30∧r.length ≤ 30:=by
 have h:=g.most
 rw [List.length_append,List.length_cons,List.length_cons,List.length_cons] at h
 exact ⟨Nat.le_trans (Nat.le_add_right _ _) h,by (first | lia | omega),g.each p (by simp),g.each q (by simp),g.each r (by simp)⟩
theorem lb_pleat {fl:Nat} {A B:List Int} {x y z:Int} {C D:List Str} {u w:Str} {E G:List (List Int)} {p q r:List Int} (hk:1 < l.k) (g:GS (A++x::y::z::B) (C++u::w::D)) (hE:E.length = C.length) (gp:GP (E++p::q::r::G)) (F:FnIs P f ps rest (cs_layers_behind fl)) (hp:ps.length = 3) (hr:rest.length = 3) :
  CallJ P l f [stV (A++x::y::z::B) (C++u::w::D),.fl (pilesAV (E++p::q::r::G)),pV C.length] (fun v H=>v = .ref 0∧H = [pilesAV (E++ld3 p q r u::G)]) X:=by
 refine CallJ.ren (F.call (Nat.lt_trans (by decide) hk) (by rw [hp];rfl) ?_)
 rw [hr]
 show wpSs P _ (cs_layers_behind fl) _ _ _ (PR _) _
 have hs:=gp.sm
 have hm:=mapS_le g.sm
 obtain ⟨b1,b2,b3,b4,b5⟩:=gp.mid
 have eP:pilesAV (E++p::q::r::G) = pilesAV E++.fl (p.map AV.int)::.fl (q.map AV.int)::.fl (r.map AV.int)::pilesAV G:=piles_app _ _
 have eS:(C++u::w::D).map AV.str = C.map AV.str++.str u::.str w::D.map AV.str:=mapS_app
 have lE:(pilesAV E).length = C.length:=(piles_len E).trans hE
 have mu:Mk u:=g.marks u (by simp)
 rw [eP] at hs ⊢
 rw [eS] at hm
 unfold cs_layers_behind stV pV
 rw [eS]
 (refine wpSs_cons.mpr ?_;tm_at "wps")
 (refine wpSs_cons.mpr ?_;tm_at "wps")
 refine ⟨_,fun _ _ h=>h,c_str strOk_pleat strOk_first ?_⟩
 rw [n1]
 refine Cut.here ?_
 (refine wpSs_cons.mpr ?_;tm_at "wps")
 refine ⟨_,fun _ _ h=>h,c_str strOk_pleat strOk_last ?_⟩
 rw [n2]
 refine Cut.here ?_
 unfold lbC
 (refine wpSs_cons.mpr ?_;tm_at "wps")
 (refine wpSs_cons.mpr ?_;tm_at "wps")
 refine ⟨fun lc H=>∃ o3 H1,lc = [some (.tup [.fl ((A++x::y::z::B).map AV.int),o3]),some (.fl (pilesAV E++.fl (p.map AV.int)::.fl (q.map AV.int)::.fl (r.map AV.int)::pilesAV G)),some (.tup [.str "pleat",.int C.length]),some o3,some (.int C.length),some (.ref 2)]∧H = H1++[(ld3 p q r u).map AV.int]∧H1.length = 2,?_,i_pos C.length rfl hm rfl (mid_at 0 (List.length_map _)) (c_str (mk_ok mu) (mk_ok (.inr rfl)) (brk (fun h=>?_) fun h=>?_))⟩
 ·rintro lc H ⟨o3,H1,rfl,rfl,hl1⟩
  obtain ⟨X1,X2,rfl⟩:∃ a b,H1 = [a,b]:=by
   match H1,hl1 with
   | [a,b],_=>exact ⟨a,b,rfl⟩
  (refine wpSs_cons.mpr ?_;tm_at "wps")
  refine sl_upto rfl hs (Int.natCast_nonneg _) ?_
  rw [show (pilesAV E++AV.fl (p.map AV.int)::.fl (q.map AV.int)::.fl (r.map AV.int)::pilesAV G).take (Int.toNat (C.length:Nat)) = pilesAV E from take_at lE]
  refine ⟨by decide,add90 (b:=[AV.none]) (piles90 b1) (by decide),sl_from rfl hs (Int.add_nonneg (Int.natCast_nonneg _) (by decide)) ?_⟩
  rw [show (pilesAV E++AV.fl (p.map AV.int)::.fl (q.map AV.int)::.fl (r.map AV.int)::pilesAV G).drop (Int.toNat ((C.length:Nat) + 3)) = pilesAV G from drop_at (j:=3) lE]
  refine ⟨cat90 (piles90 b1) (piles90 b2),?_⟩
  exact PR.mid (n:=7) (a:=E) (b:=G) rfl (List.append_assoc _ _ _) (.frz (by decide) rfl (Rens.ints _))
 ·(refine wpSs_cons.mpr ?_;tm_at "wps")
  refine i_pos C.length rfl hs rfl (mid_at 0 lE) (i_pos (C.length + 1) rfl hs rfl (mid_at 1 lE) (sl_rev rfl (small90 (ints90 b4)) ⟨add90 (ints90 b3) (rev90 b4),i_pos (C.length + 2) rfl hs (i4 rfl) (mid_at 2 lE) ⟨three90 (ints90 b3) (rev90 b4) (ints90 b5),?_⟩⟩))
  exact Cut.here ⟨_,[_,_],rfl,by unfold ld3;rw [if_pos h,mapI_app,mapI_app,mapR];rfl,rfl⟩
 ·(refine wpSs_cons.mpr ?_;tm_at "wps")
  refine i_pos (C.length + 2) rfl hs (i4 rfl) (mid_at 2 lE) (i_pos (C.length + 1) rfl hs rfl (mid_at 1 lE) (sl_rev rfl (small90 (ints90 b4)) ⟨add90 (ints90 b5) (rev90 b4),i_pos C.length rfl hs rfl (mid_at 0 lE) ⟨three90 (ints90 b5) (rev90 b4) (ints90 b3),?_⟩⟩))
  exact Cut.here ⟨_,[_,_],rfl,by unfold ld3;rw [if_neg h,mapI_app,mapI_app,mapR];rfl,rfl⟩
theorem layers_behind_ok {fl:Nat} (F:FnIs P f ps rest (cs_layers_behind fl)) (hp:ps.length = 3) (hr:rest.length = 3) (hk:1 < l.k) (g:GS ns ms) (gp:GP pl) (mv:MS ns ms pl v ns' ms' pl')
  (hl:∀ (u p:List Int) (m:Str),Mk m→u.length ≤ 30→p.length ≤ 30→CallJ P ⟨l.k - 1,l.q,none⟩ fl [.fl (u.map AV.int),.fl (p.map AV.int),.str m] (fun v H=>v = .ref 0∧H = [(ld u p m).map AV.int]) X) :
  CallJ P l f [stV ns ms,.fl (pilesAV pl),v] (fun v H=>v = .ref 0∧H = [pilesAV pl']) X:=by
 induction mv with
 | first=>exact lb_first hk g gp F hp hr (hl _ _ _ (g.marks _ (.head _)) (gp.each _ (.tail _ (.head _))) (gp.each _ (.head _)))
 | last=>exact lb_last hk g gp F hp hr (hl _ _ _ (g.marks _ (by simp)) (gp.each _ (by simp)) (gp.each _ (by simp)))
 | pleat hA hE=>exact lb_pleat hk g hE gp F hp hr
end
open PySem PyProof.Rows PySem.SeqAt
noncomputable def cs_pl1:List CS:=[
   .assign 3 (.slc (.idx (.var 0) (.const (.int (0)))) (.const .none) (.const .none) (.neg (.const (.int (1))))),
   .ret (.bin .Add (.lst [(.idx (.lst [(.bin .Add (.var 3) (.idx (.var 0) (.const (.int (1))))),(.bin .Add (.idx (.var 0) (.const (.int (1)))) (.var 3))]) (.prim .int [(.cmp .Eq (.idx (.var 1) (.const (.int (0)))) (.const (.str "valley")))]))]) (.slc (.var 0) (.const (.int (2))) (.const .none) (.const .none)))]
noncomputable def cs_pl2:List CS:=[
   .assign 3 (.slc (.idx (.var 0) (.neg (.const (.int (1))))) (.const .none) (.const .none) (.neg (.const (.int (1))))),
   .ret (.bin .Add (.slc (.var 0) (.const .none) (.neg (.const (.int (2)))) (.const .none)) (.lst [(.idx (.lst [(.bin .Add (.var 3) (.idx (.var 0) (.neg (.const (.int (2)))))),(.bin .Add (.idx (.var 0) (.neg (.const (.int (2))))) (.var 3))]) (.prim .int [(.cmp .Eq (.idx (.var 1) (.neg (.const (.int (1))))) (.const (.str "valley")))]))]))]
noncomputable def cs_pl4:List CS:=[
 .ret (.bin .Add (.bin .Add (.slc (.var 0) (.const .none) (.var 4) (.const .none)) (.lst [(.bin .Add (.bin .Add (.idx (.var 5) (.const (.int (0)))) (.idx (.var 5) (.const (.int (1))))) (.idx (.var 5) (.const (.int (2)))))])) (.slc (.var 0) (.bin .Add (.var 4) (.const (.int (3)))) (.const .none) (.const .none)))]
noncomputable def cs_pl3:List CS:=
 .assign 4 (.idx (.var 2) (.const (.int (1)))) ::
 .assign 5 (.lst [(.idx (.var 0) (.var 4)),(.slc (.idx (.var 0) (.bin .Add (.var 4) (.const (.int (1))))) (.const .none) (.const .none) (.neg (.const (.int (1))))),(.idx (.var 0) (.bin .Add (.var 4) (.const (.int (2)))))]) ::
 .ite (.cmp .Eq (.idx (.var 1) (.var 4)) (.const (.str "hill")))
  [      .mut .reverse (.var 5) []]
  []::cs_pl4
noncomputable def cs_piled:List CS:=
 .ite (.cmp .Eq (.var 2) (.tup [(.const (.str "first"))])) cs_pl1 [] ::
 .ite (.cmp .Eq (.var 2) (.tup [(.const (.str "last"))])) cs_pl2 []::cs_pl3
section
variable {P:PC} {l:Lv} {f:Nat} {ps rest:List Str} {X:Str→Prop} {ns ns':List Int} {ms ms':List Str} {pl pl':List (List Int)} {v:AV} {H:AH} {Q:AV→AH→Prop} {Qn:Loc→AH→Prop} {Qx:Str→Loc→AH→Prop} {p q:List Int} {m:Str}
theorem i_if {o x y:AV} {c:Bool} (e:o.seq? H = some [x,y]) (h1:c = false→Q x H) (h2:c = true→Q y H):opIdx o (.int (if c = true then 1 else 0)) H Q:=by
 cases c with
 | false=>exact i_pos 0 e (by show 2 ≤ smallN;decide) rfl rfl (h1 rfl)
 | true=>exact i_pos 1 e (by show 2 ≤ smallN;decide) rfl rfl (h2 rfl)
theorem pl_first (hq:l.q = true) (hs:(m::ms').length ≤ smallN) (hm:Mk m) (gp:GP (p::q::pl)) :
  wpSs P l cs_pl1 [some (.fl (pilesAV (p::q::pl))),some (.fl ((m::ms').map AV.str)),some v,none,none,none] [] Qn (PR (ld q p m::pl)) Qx:=by
 have hs2:=gp.sm
 have g0:=gp.each p (.head _)
 have g1:=gp.each q (.tail _ (.head _))
 have gb:pl.length ≤ 30:=Nat.le_trans (Nat.le_add_right _ 2) gp.most
 unfold cs_pl1
 (refine wpSs_cons.mpr ?_;tm_at "wps")
 refine i_pos 0 rfl hs2 rfl rfl (sl_rev rfl (small90 (ints90 g0)) ?_)
 (refine wpSs_cons.mpr ?_;tm_at "wps")
 refine i_pos 1 rfl hs2 rfl rfl ?_
 tm_at "wps"
 refine ⟨add90 (rev90 g0) (ints90 g1),i_pos 1 rfl hs2 rfl rfl ?_⟩
 tm_at "wps"
 refine ⟨add90 (ints90 g1) (rev90 g0),by decide,hq,i_pos 0 rfl (mapS_le hs) rfl rfl (c_str (mk_ok hm) (mk_ok (.inr rfl)) ?_)⟩
 tm_at "wps"
 refine i_if rfl (fun h=>?_) fun h=>?_
 ·refine ⟨by decide,sl_from rfl hs2 (by decide) ⟨add90 (by decide) (piles90 gb),?_⟩⟩
  exact PR.mid (n:=6) (a:=[]) (b:=pl) rfl rfl (.frz (by decide) rfl (rensI (by unfold ld;rw [if_neg (of_decide_eq_false h),mapI_app,mapR])))
 ·refine ⟨by decide,sl_from rfl hs2 (by decide) ⟨add90 (by decide) (piles90 gb),?_⟩⟩
  exact PR.mid (n:=6) (a:=[]) (b:=pl) rfl rfl (.frz (by decide) rfl (rensI (by unfold ld;rw [if_pos (of_decide_eq_true h),mapI_app,mapR])))
theorem pl_last (hq:l.q = true) (hs:(ms'.map AV.str++[AV.str m]).length ≤ smallN) (hm:Mk m) (gp:GP (pl++[q,p])) :
  wpSs P l cs_pl2 [some (.fl (pilesAV pl++[.fl (q.map AV.int),.fl (p.map AV.int)])),some (.fl (ms'.map AV.str++[AV.str m])),some v,none,none,none] [] Qn (PR (pl++[ld q p m])) Qx:=by
 have hs2:(pilesAV pl++[AV.fl (q.map AV.int),AV.fl (p.map AV.int)]).length ≤ smallN:=by have:=gp.sm;rw [piles_app] at this;exact this
 have g0:=gp.each p (by simp)
 have g1:=gp.each q (by simp)
 have ga:pl.length ≤ 30:=Nat.le_trans (by rw [List.length_append];exact Nat.le_add_right _ _) gp.most
 unfold cs_pl2
 (refine wpSs_cons.mpr ?_;tm_at "wps")
 refine i_m1 rfl hs2 (sl_rev rfl (small90 (ints90 g0)) ?_)
 (refine wpSs_cons.mpr ?_;tm_at "wps")
 refine sl_cut (d:=2) rfl hs2 rfl (by decide) ?_
 rw [take_two]
 refine i_m2 rfl hs2 ?_
 tm_at "wps"
 refine ⟨add90 (rev90 g0) (ints90 g1),i_m2 rfl hs2 ?_⟩
 tm_at "wps"
 refine ⟨add90 (ints90 g1) (rev90 g0),by decide,hq,i_snoc rfl hs (c_str (mk_ok hm) (mk_ok (.inr rfl)) ?_)⟩
 tm_at "wps"
 refine i_if rfl (fun h=>?_) fun h=>?_
 ·refine ⟨by decide,add90 (piles90 ga) (by decide),?_⟩
  exact PR.mid (n:=6) (a:=pl) (b:=[]) rfl rfl (.frz (by decide) rfl (rensI (by unfold ld;rw [if_neg (of_decide_eq_false h),mapI_app,mapR])))
 ·refine ⟨by decide,add90 (piles90 ga) (by decide),?_⟩
  exact PR.mid (n:=6) (a:=pl) (b:=[]) rfl rfl (.frz (by decide) rfl (rensI (by unfold ld;rw [if_pos (of_decide_eq_true h),mapI_app,mapR])))
theorem pl_end {E G:List (List Int)} {x y z:List Int} {y0 y1 y2:AV} {k:Nat} {ML:List AV} (hk:(pilesAV E).length = k) (b1:E.length ≤ 30) (b2:G.length ≤ 30) (g1:y.length ≤ 30) (gx:x.length ≤ 30) (gz:z.length ≤ 30) (hs2:(pilesAV E++y0::y1::y2::pilesAV G).length ≤ smallN) {L:List Int} (eL:L = (x++y.reverse)++z) :
  wpSs P l cs_pl4 [some (.fl (pilesAV E++y0::y1::y2::pilesAV G)),some (.fl ML),some v,none,some (.int k),some (.ref 1)] [(y.map AV.int).reverse,[.fl (x.map AV.int),.ref 0,.fl (z.map AV.int)]] Qn (PR (E++L::G)) Qx:=by
 subst eL
 unfold cs_pl4
 (refine wpSs_cons.mpr ?_;tm_at "wps")
 refine sl_upto rfl hs2 (Int.natCast_nonneg _) ?_
 rw [show (pilesAV E++y0::y1::y2::pilesAV G).take (Int.toNat (k:Nat)) = pilesAV E from take_at hk]
 refine i_pos 0 rfl (by show 3 ≤ smallN;decide) rfl rfl (i_pos 1 rfl (by show 3 ≤ smallN;decide) rfl rfl ?_)
 tm_at "wps"
 refine ⟨add90 (ints90 gx) (rev90 g1),i_pos 2 rfl (by show 3 ≤ smallN;decide) rfl rfl ?_⟩
 tm_at "wps"
 refine ⟨three90 (ints90 gx) (rev90 g1) (ints90 gz),by decide,add90 (b:=[AV.none]) (piles90 b1) (by decide),sl_from rfl hs2 (Int.add_nonneg (Int.natCast_nonneg _) (by decide)) ?_⟩
 rw [show (pilesAV E++y0::y1::y2::pilesAV G).drop (Int.toNat ((k:Nat) + 3)) = pilesAV G from drop_at (j:=3) hk]
 refine ⟨cat90 (piles90 b1) (piles90 b2),?_⟩
 exact PR.mid (n:=8) (a:=E) (b:=G) rfl (List.append_assoc _ _ _) (Ren.frz (j:=4) (by decide) rfl (rensI (by rw [mapI_app,mapI_app,mapR])))
theorem hv_ne:("hill" : Str) ≠ "valley":=by decide
theorem pl_mid {C D:List Str} {u w:Str} {E G:List (List Int)} {p q r:List Int} (hs:(C.map AV.str++.str u::.str w::D.map AV.str).length ≤ smallN) (hm:Mk u) (hE:E.length = C.length) (gp:GP (E++p::q::r::G)) :
  wpSs P l cs_pl3 [some (.fl (pilesAV E++.fl (p.map AV.int)::.fl (q.map AV.int)::.fl (r.map AV.int)::pilesAV G)),some (.fl (C.map AV.str++.str u::.str w::D.map AV.str)),some (pV C.length),none,none,none] [] Qn (PR (E++ld3 p q r u::G)) Qx:=by
 obtain ⟨b1,b2,b3,b4,b5⟩:=gp.mid
 have hs2:(pilesAV E++AV.fl (p.map AV.int)::AV.fl (q.map AV.int)::AV.fl (r.map AV.int)::pilesAV G).length ≤ smallN:=by have:=gp.sm;rw [piles_app] at this;exact this
 have lE:(pilesAV E).length = C.length:=(piles_len E).trans hE
 unfold cs_pl3 pV
 (refine wpSs_cons.mpr ?_;tm_at "wps")
 (refine wpSs_cons.mpr ?_;tm_at "wps")
 refine i_pos C.length rfl hs2 rfl (mid_at 0 lE) (i_pos (C.length + 1) rfl hs2 rfl (mid_at 1 lE) (sl_rev rfl (small90 (ints90 b4)) (i_pos (C.length + 2) rfl hs2 (i4 rfl) (mid_at 2 lE) ⟨by show 3 ≤ smallN;decide,?_⟩)))
 (refine wpSs_cons.mpr ?_;tm_at "wps")
 refine ⟨_,fun _ _ h=>h,i_pos C.length rfl hs rfl (mid_at 0 (List.length_map _)) (c_str (mk_ok hm) (mk_ok (.inl rfl)) (brk (fun h=>?_) fun h=>?_))⟩
 ·(refine wpSs_cons.mpr ?_;tm_at "wps")
  refine ⟨_,_,_,rfl,rfl,m_rev (by show 3 ≤ smallN;decide),?_⟩
  exact Cut.here (pl_end lE b1 b2 b4 b5 b3 hs2 (by unfold ld3;rw [if_neg (h ▸ hv_ne)]))
 ·have hv:u = "valley":=hm.resolve_left h
  exact Cut.here (pl_end lE b1 b2 b4 b3 b5 hs2 (by unfold ld3;rw [if_pos hv]))
theorem piled_ok (F:FnIs P f ps rest cs_piled) (hp:ps.length = 3) (hr:rest.length = 3) (hk:0 < l.k) (hq:l.q = true) (g:GS ns ms) (gp:GP pl) (mv:MS ns ms pl v ns' ms' pl') :
  CallJ P l f [.fl (pilesAV pl),.fl (ms.map AV.str),v] (fun v H=>v = .ref 0∧H = [pilesAV pl']) X:=by
 refine CallJ.ren (F.call hk (by rw [hp];rfl) ?_)
 rw [hr]
 show wpSs P _ cs_piled _ _ _ (PR pl') _
 unfold cs_piled
 induction mv with
 | first=>exact ⟨fun _ _=>False,fun _ _ h=>h.elim,by decide,eq_fV .f (fun _=>pl_first hq g.sm (g.marks _ (.head _)) gp) fun h=>(h rfl).elim⟩
 | last=>
  have hm:=mapS_le g.sm
  rw [mapS_app] at hm ⊢
  rw [piles_app]
  refine ⟨_,fun _ _ h=>h,by decide,eq_fV .l (fun h=>absurd h ne_lf) fun _=>Cut.here ?_⟩
  exact ⟨fun _ _=>False,fun _ _ h=>h.elim,by decide,eq_lV .l (fun _=>pl_last hq hm (g.marks _ (by simp)) gp) fun h=>(h rfl).elim⟩
 | pleat hA hE=>
  have hm:=mapS_le g.sm
  rw [mapS_app] at hm ⊢
  rw [piles_app]
  refine ⟨_,fun _ _ h=>h,by decide,eq_fV (.p _) (fun h=>absurd h (ne_pf _)) fun _=>Cut.here ?_⟩
  refine ⟨_,fun _ _ h=>h,by decide,eq_lV (.p _) (fun h=>absurd h (ne_pl _)) fun _=>Cut.here ?_⟩
  exact pl_mid hm (g.marks _ (by simp)) hE gp
end
open PySem PyProof.Rows PySem.SeqAt
structure GT (ns:List Int) (ms:List Str) (pl:List (List Int)):Prop where
 gs:GS ns ms
 len:pl.length = ns.length
 all:pl.flatten.length ≤ 30
theorem GT.gp {ns:List Int} {ms:List Str} {pl:List (List Int)} (g:GT ns ms pl):GP pl:=⟨g.len ▸ g.gs.most,fun p hp=>Nat.le_trans (List.sublist_flatten_of_mem hp).length_le g.all⟩
theorem cut_at {α:Type} {l:List α} {k:Nat} (h:k ≤ l.length):∃ a b,l = a++b∧a.length = k:=⟨l.take k,l.drop k,(List.take_append_drop k l).symm,List.length_take_of_le h⟩
theorem two_hd {α:Type}:∀ {l:List α},2 ≤ l.length→∃ x y b,l = x::y::b
 | _::_::_,_=>⟨_,_,_,rfl⟩
 | [_],h=>absurd h (show ¬ 2 ≤ 1 by decide)
 | [],h=>absurd h (show ¬ 2 ≤ 0 by decide)
theorem one_hd {α:Type}:∀ {l:List α},1 ≤ l.length→∃ x b,l = x::b
 | _::_,_=>⟨_,_,rfl⟩
 | [],h=>absurd h (show ¬ 1 ≤ 0 by decide)
theorem cut_last {α:Type} {l:List α} (h:2 ≤ l.length):∃ a x y,l = a++[x,y]:=by
 obtain ⟨y,x,b,e⟩:=two_hd (l:=l.reverse) (by rw [List.length_reverse];exact h)
 refine ⟨b.reverse,x,y,?_⟩
 rw [← List.reverse_reverse l,e,List.reverse_cons,List.reverse_cons,List.append_assoc]
 rfl
theorem cut_end {α:Type} {l:List α} (h:1 ≤ l.length):∃ a x,l = a++[x]:=by
 obtain ⟨y,b,e⟩:=one_hd (l:=l.reverse) (by rw [List.length_reverse];exact h)
 refine ⟨b.reverse,y,?_⟩
 rw [← List.reverse_reverse l,e,List.reverse_cons]
theorem cut2 {α:Type} {l:List α} {k:Nat} (h:k + 1 < l.length):∃ a x y b,l = a++x::y::b∧a.length = k:=by
 obtain ⟨a,c,rfl,ha⟩:=cut_at (l:=l) (k:=k) (Nat.le_trans (Nat.le_add_right k 2) h)
 rw [List.length_append,ha] at h
 obtain ⟨x,y,c,rfl⟩:=two_hd (l:=c) (Nat.le_of_add_le_add_left (a:=k) h)
 exact ⟨a,x,y,c,rfl,ha⟩
theorem cut3 {α:Type} {l:List α} {k:Nat} (h:k + 2 < l.length):∃ a x y z b,l = a++x::y::z::b∧a.length = k:=by
 obtain ⟨a,x,y,c,rfl,ha⟩:=cut2 (l:=l) (k:=k) (Nat.lt_of_succ_lt h)
 rw [List.length_append,ha] at h
 obtain ⟨z,b,rfl⟩:=one_hd (l:=c) (Nat.le_of_succ_le_succ (Nat.le_of_succ_le_succ (Nat.le_of_add_le_add_left (a:=k) h)))
 exact ⟨a,x,y,z,b,rfl,ha⟩
theorem ld_len (u p:List Int) (m:Str):(ld u p m).length = u.length + p.length:=by
 unfold ld
 split<;>simp [Nat.add_comm]
theorem ld3_len (p q r:List Int) (m:Str):(ld3 p q r m).length = p.length + q.length + r.length:=by
 unfold ld3
 split<;>simp<;>(first | lia | omega)
theorem fl_first {p q:List Int} {pl:List (List Int)} {m:Str}:(ld q p m::pl).flatten.length = (p::q::pl).flatten.length:=by simp [ld_len];(first | lia | omega)
theorem fl_last {p q:List Int} {pl:List (List Int)} {m:Str}:(pl++[ld q p m]).flatten.length = (pl++[q,p]).flatten.length:=by simp [ld_len]
theorem fl_pleat {p q r:List Int} {E F:List (List Int)} {u:Str}:(E++ld3 p q r u::F).flatten.length = (E++p::q::r::F).flatten.length:=by simp [ld3_len];(first | lia | omega)
theorem len_a1 {α:Type} {a:List α} {x:α}:(a++[x]).length = a.length + 1:=by simp
theorem len_a2 {α:Type} {a b:List α} {x y:α}:(a++x::y::b).length = (a++b).length + 2:=by simp;(first | lia | omega)
theorem len_a3 {α:Type} {a b:List α} {x y z v:α}:(a++x::y::z::b).length = (a++v::b).length + 2:=by simp;(first | lia | omega)
theorem len_ar {a b c d:Nat} (e1:a = c + 2) (e2:b = d + 2) (h:a = b + 1):c = d + 1:=by (first | lia | omega)
theorem len_as {a b c d:Nat} (e1:a = c + 2) (e2:b = d + 2) (h:a = b):c = d:=by (first | lia | omega)
section
variable {ns:List Int} {ms:List Str} {pl:List (List Int)} {v:AV} {k:Nat}
theorem MS.of1 (g:GT ns ms pl) (h0:0 < ms.length):∃ ns' ms' pl',MS ns ms pl fV ns' ms' pl'∧GT ns' ms' pl'∧ns'.length < ns.length:=by
 obtain ⟨⟨hl,hm,hk⟩,hp,ha⟩:=g
 obtain ⟨m,ms,rfl⟩:=one_hd h0
 obtain ⟨x,ns,rfl⟩:=one_hd (l:=ns) (Nat.le_trans (Nat.le_add_left 1 _) (Nat.le_of_eq hl.symm))
 obtain ⟨p,q,pl,rfl⟩:=two_hd (l:=pl) (Nat.le_trans (Nat.le_add_left 2 ms.length) (Nat.le_of_eq (hp.trans hl).symm))
 exact ⟨_,_,_,.first,⟨⟨Nat.succ.inj hl,Nat.le_of_succ_le hm,fun z hz=>hk z (.tail _ hz)⟩,Nat.succ.inj hp,Nat.le_trans (Nat.le_of_eq fl_first) ha⟩,Nat.lt_succ_self _⟩
theorem MS.of2 (g:GT ns ms pl) (h0:0 < ms.length):∃ ns' ms' pl',MS ns ms pl lV ns' ms' pl'∧GT ns' ms' pl'∧ns'.length < ns.length:=by
 obtain ⟨⟨hl,hm,hk⟩,hp,ha⟩:=g
 obtain ⟨ms,m,rfl⟩:=cut_end (l:=ms) h0
 obtain ⟨ns,x,rfl⟩:=cut_end (l:=ns) (Nat.le_trans (Nat.le_add_left 1 _) (Nat.le_of_eq hl.symm))
 have hl':ns.length = ms.length + 1:=Nat.succ.inj (len_a1.symm.trans (hl.trans (congrArg (· + 1) len_a1)))
 obtain ⟨pl,q,p,rfl⟩:=cut_last (l:=pl) (Nat.le_trans (Nat.le_add_left 2 ms.length) (Nat.le_of_eq (hp.trans (len_a1.trans (congrArg (· + 1) hl'))).symm))
 have hp':(pl++[q]).length = ns.length:=Nat.succ.inj (Eq.trans (by simp) (hp.trans len_a1))
 exact ⟨_,_,_,.last,⟨⟨hl',Nat.le_of_succ_le (Nat.le_trans (Nat.le_of_eq len_a1.symm) hm),fun z hz=>hk z (List.mem_append_left _ hz)⟩,(len_a1.trans len_a1.symm).trans hp',Nat.le_trans (Nat.le_of_eq fl_last) ha⟩,Nat.lt_of_lt_of_eq (Nat.lt_succ_self _) len_a1.symm⟩
theorem MS.of3 (g:GT ns ms pl) (h:k + 1 < ms.length):∃ ns' ms' pl',MS ns ms pl (pV k) ns' ms' pl'∧GT ns' ms' pl'∧ns'.length < ns.length:=by
 obtain ⟨⟨hl,hm,hk⟩,hp,ha⟩:=g
 have h3:k + 2 < ns.length:=Nat.lt_of_lt_of_eq (Nat.succ_lt_succ h) hl.symm
 obtain ⟨E,p,q,r,F,rfl,hE⟩:=cut3 (l:=pl) (k:=k) (Nat.lt_of_lt_of_eq h3 hp.symm)
 obtain ⟨A,x,y,z,B,rfl,hA⟩:=cut3 (l:=ns) (k:=k) h3
 obtain ⟨C,u,w,D,rfl,rfl⟩:=cut2 (l:=ms) (k:=k) h
 refine ⟨_,_,_,.pleat hA hE,⟨⟨len_ar len_a3 len_a2 hl,Nat.le_of_succ_le (Nat.le_of_succ_le (Nat.le_trans (Nat.le_of_eq len_a3.symm) hm)),fun z hz=>hk z ?_⟩,len_as len_a3 len_a3 hp,Nat.le_trans (Nat.le_of_eq fl_pleat) ha⟩,Nat.lt_of_lt_of_eq (Nat.lt_succ_of_lt (Nat.lt_succ_self _)) len_a3.symm⟩
 exact (List.mem_append.mp hz).elim (fun q=>List.mem_append_left _ q) fun q=>List.mem_append_right _ (.tail _ (.tail _ q))
theorem MS.of (g:GT ns ms pl) (hv:v ∈ mvs ns ms):∃ ns' ms' pl',MS ns ms pl v ns' ms' pl'∧GT ns' ms' pl'∧ns'.length < ns.length:=by
 rcases mvs_mem hv with ⟨rfl,h⟩ | ⟨rfl,h⟩ | ⟨k,rfl,h,_⟩
 ·exact MS.of1 g (of_decide_eq_true (Bool.and_eq_true_iff.mp h).1)
 ·exact MS.of2 g (of_decide_eq_true (Bool.and_eq_true_iff.mp h).1)
 ·exact MS.of3 g (Nat.add_lt_of_lt_sub h)
end
open PySem PyProof.Rows PySem.SeqAt
structure St where
 ns:List Int
 ms:List Str
 pl:List (List Int)
noncomputable def sS (s:St):AV:=stV s.ns s.ms
noncomputable def sP (s:St):AV:=.fl (pilesAV s.pl)
noncomputable def sA (s:St):AV:=.tup [sS s,sP s]
noncomputable def St.ok (s:St):Prop:=GT s.ns s.ms s.pl
noncomputable def oV (C:Addr) (a b:AV):AV:=.obj C ["states","row"] [a,b]
theorem FV.sS (s:St):FV (sS s):=fun _ _=>.tup (.cons (.fl (Rens.ints _)) (.cons (.fl (Rens.strs _)) .nil))
theorem FV.sP (s:St):FV (sP s):=FVs.piles.fl
theorem FV.sA (s:St):FV (sA s):=fun _ _=>.tup (.cons (FV.sS s _ _) (.cons (FV.sP s _ _) .nil))
theorem FVs.sA {T:List St}:FVs (T.map sA):=fun v hv=>by obtain ⟨s,_,rfl⟩:=List.mem_map.mp hv;exact FV.sA s
theorem FVs.sS {T:List St}:FVs (T.map sS):=fun v hv=>by obtain ⟨s,_,rfl⟩:=List.mem_map.mp hv;exact FV.sS s
theorem FVs.sP {T:List St}:FVs (T.map sP):=fun v hv=>by obtain ⟨s,_,rfl⟩:=List.mem_map.mp hv;exact FV.sP s
noncomputable def MKs (L:List AV):Prop:=∀ m ∈ L,MK m
theorem MKs.fv {L:List AV} (h:MKs L):FVs L:=fun v hv=>(h v hv).fv
theorem FVs.shifts {L:List AV} (h:FVs L) (n:Nat):AV.shifts n L = L:=by
 rw [AV.shifts_eq]
 exact (List.map_congr_left (g:=id) fun a ha=>(h a ha [] []).noref _).trans (List.map_id _)
noncomputable def refs (r K:Nat):List AV:=(List.range K).map fun j=>AV.ref (r + j)
theorem refs_of (r K:Nat):(List.range' r K).map AV.ref = refs r K:=by
 unfold refs
 rw [List.range'_eq_map_range,List.map_map]
 rfl
theorem refs_shift (k r K:Nat):AV.shifts k (refs r K) = refs (k + r) K:=by
 rw [AV.shifts_eq]
 unfold refs
 rw [List.map_map]
 apply List.map_congr_left
 intro j _
 show AV.ref (k + (r + j)) = _
 rw [Nat.add_assoc]
theorem refs_len (r K:Nat):(refs r K).length = K:=by simp [refs]
noncomputable def rowsH (pl:List (List Int)):AH:=pl.map fun r=>r.map AV.int
theorem rowsH_len (pl:List (List Int)):(rowsH pl).length = pl.length:=List.length_map _
theorem rowsH_shift (k:Nat) (pl:List (List Int)):(rowsH pl).map (AV.shifts k) = rowsH pl:=by
 unfold rowsH
 rw [List.map_map]
 apply List.map_congr_left
 intro r _
 exact FVs.ints.shifts k
noncomputable def cs_copied:List CS:=[
 .ret (.tup [(.prim .list [(.idx (.var 0) (.const (.int (0))))]),(.prim .list [(.idx (.var 0) (.const (.int (1))))])])]
noncomputable def cs_here (fc:Nat):List CS:=[
 .ret (.call fc [(.idx (.idx (.attr (.var 0) "states") (.neg (.const (.int (1))))) (.const (.int (0))))])]
noncomputable def cs_done:List CS:=[
 .ret (.prim .list [(.attr (.var 0) "row")])]
noncomputable def cs_layers:List CS:=[
 .ret (.comp (.prim .list [(.var 0)]) [] [] 0 (.idx (.idx (.attr (.var 0) "states") (.neg (.const (.int (1))))) (.const (.int (1)))))]
noncomputable def cs_looked (fh fd fl:Nat):List CS:=[
 .ite (.cmp .Eq (.bin .Mod (.var 1) (.const (.int (3)))) (.const (.int (0))))
  [      .assign 2 (.mth fh "here" (.var 0) []),
   .assign 3 (.mth fd "done" (.var 0) []),
   .ret (.tup [(.var 2),(.var 3),(.mth fl "layers" (.var 0) [])])]
  [],
 .ite (.cmp .Eq (.bin .Mod (.var 1) (.const (.int (3)))) (.const (.int (1))))
  [      .assign 4 (.mth fl "layers" (.var 0) []),
   .assign 2 (.mth fh "here" (.var 0) []),
   .ret (.tup [(.var 2),(.mth fd "done" (.var 0) []),(.var 4)])]
  [],
 .assign 3 (.mth fd "done" (.var 0) []),
 .assign 4 (.mth fl "layers" (.var 0) []),
 .ret (.tup [(.mth fh "here" (.var 0) []),(.var 3),(.var 4)])]
section
variable {P:PC} {l:Lv} {f fc fh fd fl:Nat} {ps rest:List Str} {X:Str→Prop} {ns:List Int} {ms:List Str} {H:AH} {Q:AV→AH→Prop} {C:Addr} {a b:AV} {K:AV→Prop} {T:List St} {s:St} {mv:List AV}
theorem at_states (hC:P.cls = some C) (h:K a):onAttr P (oV C a b) "states" K:=⟨hC,h⟩
theorem at_row (hC:P.cls = some C) (h:K b):onAttr P (oV C a b) "row" K:=⟨hC,h⟩
theorem copied_ok (F:FnIs P f ps rest cs_copied) (hp:ps.length = 1) (hr:rest.length = 0) (hk:0 < l.k) (hq:l.q = true) (g:GS ns ms):CallJ P l f [stV ns ms] (Gives ns ms) X:=by
 refine F.call hk (by rw [hp];rfl) ?_
 rw [hr]
 unfold cs_copied stV
 (refine wpSs_cons.mpr ?_;tm_at "wps")
 exact ⟨hq,mapI_le g.sn,hq,mapS_le g.sm,by decide,rfl,rfl⟩
noncomputable def oF (C:Addr) (T:List St) (s:St) (mv:List AV):AV:=oV C (.fl (T.map sA++[sA s])) (.fl mv)
theorem FV.oF (hm:MKs mv):FV (oF C T s mv):=fun _ _=>.obj (.cons ((FVs.sA.app (FVs.one (FV.sA s))).fl _ _) (.cons (hm.fv.fl _ _) .nil))
theorem T_small (h:T.length ≤ 100):(T.map sA++[sA s]).length ≤ smallN:=by
 rw [List.length_append,List.length_map]
 exact Nat.le_trans (Nat.add_le_add_right h 1) (by decide)
theorem here_ok (F:FnIs P f ps rest (cs_here fc)) (hp:ps.length = 1) (hr:rest.length = 0) (hk:1 < l.k) (hC:P.cls = some C) (hT:T.length ≤ 100) (hc:CallJ P ⟨l.k - 1,l.q,none⟩ fc [sS s] (Gives s.ns s.ms) X):CallJ P l f [oF C T s mv] (Gives s.ns s.ms) X:=by
 refine F.call (Nat.lt_trans (by decide) hk) (by rw [hp];rfl) ?_
 rw [hr]
 unfold cs_here oF
 (refine wpSs_cons.mpr ?_;tm_at "wps")
 refine ⟨Nat.sub_pos_of_lt hk,at_states hC (i_snoc rfl (T_small hT) ?_)⟩
 unfold sA
 tm_at "wps"
 refine CallP.plain (.cons (FV.sS s _ _) .nil) hc fun v Hc ⟨e1,e2⟩=>?_
 subst e1 e2
 refine ⟨rfl,?_⟩
 show [AV.shifts 0 _,AV.shifts 0 _] = _
 rw [shifts_ints,shifts_strs]
theorem done_ok (F:FnIs P f ps rest cs_done) (hp:ps.length = 1) (hr:rest.length = 0) (hk:0 < l.k) (hq:l.q = true) (hC:P.cls = some C) (hm:mv.length ≤ 100):CallJ P l f [oF C T s mv] (fun v H=>v = .ref 0∧H = [mv]) X:=by
 refine F.call hk (by rw [hp];rfl) ?_
 rw [hr]
 unfold cs_done oF
 (refine wpSs_cons.mpr ?_;tm_at "wps")
 exact ⟨hq,at_row hC ⟨Nat.le_trans hm (by decide),rfl,rfl⟩⟩
noncomputable def unfl:AV→List AV
 | .fl xs=>xs
 | _=>[]
theorem layers_ok (F:FnIs P f ps rest cs_layers) (hp:ps.length = 1) (hr:rest.length = 0) (hk:0 < l.k) (hq:l.q = true) (hC:P.cls = some C) (hT:T.length ≤ 100) (g:GP s.pl):CallJ P l f [oF C T s mv] (fun v H=>v = .ref s.pl.length∧H = rowsH s.pl++[refs 0 s.pl.length]) X:=by
 refine F.call hk (by rw [hp];rfl) ?_
 rw [hr]
 unfold cs_layers oF
 (refine wpSs_cons.mpr ?_;tm_at "wps")
 refine ⟨hq,at_states hC (i_snoc rfl (T_small hT) ?_)⟩
 unfold sA
 tm_at "wps"
 refine ⟨_,_,_,rfl,g.sm,rens_piles _,.nil,comp_lists unfl (fun x hx k hk=>opt_bind0 hk) ?_ ?_⟩
 ·intro x hx n k hk'
  obtain ⟨r,hr,rfl⟩:=List.mem_map.mp hx
  refine opt_bind0 ⟨hq,?_⟩
  tm_at "wps"
  refine ⟨small90 (ints90 (g.each r hr)),[0],[r.map AV.int],.ref 0,RenH.one rfl (Rens.ints r),.ref rfl,.inl ⟨rfl,rfl⟩,?_⟩
  rw [show [r.map AV.int].map (AV.shifts n) = [r.map AV.int] from by rw [List.map_cons,FVs.ints.shifts];rfl]
  exact hk'
 ·rw [refs_of,piles_len]
  have e:(pilesAV s.pl).map unfl = rowsH s.pl:=by unfold pilesAV rowsH;rw [List.map_map];rfl
  rw [e]
  refine ⟨?_,rfl⟩
  rw [rowsH_len]
  exact congrArg AV.ref (Nat.zero_add _)
theorem callHere (hm:MKs mv) (hc:CallJ P l fh [oF C T s mv] (Gives s.ns s.ms) X) (h:Q (.tup [.ref H.length,.ref (H.length + 1)]) (H++[s.ns.map AV.int,s.ms.map AV.str])):CallP P l fh [oF C T s mv] H Q X:=
 CallP.plain (.cons (FV.oF hm _ _) .nil) hc fun v Hc ⟨e1,e2⟩=>by
  subst e1 e2
  rw [show [s.ns.map AV.int,s.ms.map AV.str].map (AV.shifts H.length) = [s.ns.map AV.int,s.ms.map AV.str] from by rw [List.map_cons,List.map_cons,shifts_ints,shifts_strs];rfl]
  exact h
theorem callDone (hm:MKs mv) (hc:CallJ P l fd [oF C T s mv] (fun v H=>v = .ref 0∧H = [mv]) X) (h:Q (.ref H.length) (H++[mv])):CallP P l fd [oF C T s mv] H Q X:=
 CallP.plain (.cons (FV.oF hm _ _) .nil) hc fun v Hc ⟨e1,e2⟩=>by
  subst e1 e2
  rw [show [mv].map (AV.shifts H.length) = [mv] from by rw [List.map_cons,hm.fv.shifts];rfl]
  exact h
theorem callLayers (hm:MKs mv) (hc:CallJ P l fl [oF C T s mv] (fun v H=>v = .ref s.pl.length∧H = rowsH s.pl++[refs 0 s.pl.length]) X) (h:Q (.ref (H.length + s.pl.length)) (H++(rowsH s.pl++[refs H.length s.pl.length]))):CallP P l fl [oF C T s mv] H Q X:=
 CallP.plain (.cons (FV.oF hm _ _) .nil) hc fun v Hc ⟨e1,e2⟩=>by
  subst e1 e2
  rw [show (rowsH s.pl++[refs 0 s.pl.length]).map (AV.shifts H.length) = rowsH s.pl++[refs H.length s.pl.length] from by rw [List.map_append,rowsH_shift,List.map_cons,refs_shift];rfl]
  exact h
noncomputable def lV3:AV:=.tup [.tup [.ref 0,.ref 1],.ref 2,.ref 3]
noncomputable def lH (s:St) (mv:List AV):AH:=[s.ns.map AV.int,s.ms.map AV.str,mv,refs 4 s.pl.length]++rowsH s.pl
theorem look_ren {a b c d r:Nat} (hm:MKs mv) (ha:H[a]? = some (s.ns.map AV.int)) (hb:H[b]? = some (s.ms.map AV.str)) (hc:H[c]? = some mv) (hd:H[d]? = some (refs r s.pl.length)) (hr:∀ i xs,(rowsH s.pl)[i]? = some xs→H[r + i]? = some xs) (hn:([a,b,c,d]++(List.range s.pl.length).map (r + ·)).Nodup) :
  RenQ (fun v' H'=>v' = lV3∧H' = lH s mv) (.tup [.tup [.ref a,.ref b],.ref c,.ref d]) H:=by
 have hlen:([a,b,c,d]++(List.range s.pl.length).map (r + ·)).length = (lH s mv).length:=by simp [lH,rowsH]
 have hat:∀ j,j < s.pl.length→([a,b,c,d]++(List.range s.pl.length).map (r + ·))[4 + j]? = some (r + j):=fun j hj=>by
  rw [List.getElem?_append_right (by simp)]
  simp [hj]
 refine ⟨[a,b,c,d]++(List.range s.pl.length).map (r + ·),_,_,⟨hlen,hn,fun j hj=>?_,fun i j xs e e'=>?_⟩,.tup (.cons (.tup (.cons (.ref rfl) (.cons (.ref rfl) .nil))) (.cons (.ref rfl) (.cons (.ref rfl) .nil))),rfl,rfl⟩
 ·rcases List.mem_append.mp hj with q | q
  ·simp only [List.mem_cons,List.not_mem_nil,or_false] at q
   rcases q with rfl | rfl | rfl | rfl
   ·exact (List.getElem?_eq_some_iff.mp ha).1
   ·exact (List.getElem?_eq_some_iff.mp hb).1
   ·exact (List.getElem?_eq_some_iff.mp hc).1
   ·exact (List.getElem?_eq_some_iff.mp hd).1
  ·obtain ⟨i,hi,rfl⟩:=List.mem_map.mp q
   have hi:=List.mem_range.mp hi
   exact (List.getElem?_eq_some_iff.mp (hr i _ (List.getElem?_eq_getElem (by rw [rowsH_len];exact hi)))).1
 ·match i,e with
  | 0,e=>cases e;rw [ha] at e';cases e';exact ⟨_,rfl,Rens.ints _⟩
  | 1,e=>cases e;rw [hb] at e';cases e';exact ⟨_,rfl,Rens.strs _⟩
  | 2,e=>cases e;rw [hc] at e';cases e';exact ⟨_,rfl,hm.fv.rens⟩
  | 3,e=>
   cases e;rw [hd] at e';cases e'
   exact ⟨_,rfl,Rens.ofAll fun j hj=>.ref (hat j (List.mem_range.mp hj))⟩
  | i + 4,e=>
   have hi:i < s.pl.length:=by
    have:=(List.getElem?_eq_some_iff.mp e).1
    simp at this
    omega
   rw [Nat.add_comm,hat i hi] at e
   cases e
   have hx:=List.getElem?_eq_getElem (l:=rowsH s.pl) (i:=i) (by rw [rowsH_len];exact hi)
   rw [hr i _ hx] at e'
   cases e'
   refine ⟨(rowsH s.pl)[i]'(by rw [rowsH_len];exact hi),by rw [← hx];rfl,?_⟩
   have:(rowsH s.pl)[i]'(by rw [rowsH_len];exact hi) = (s.pl[i]).map AV.int:=by simp [rowsH]
   rw [this]
   exact Rens.ints _
end
open PySem PyProof.Rows PySem.SeqAt
section
variable {P:PC} {l:Lv} {f fc fh fd fl:Nat} {ps rest:List Str} {X:Str→Prop} {H:AH} {Q:AV→AH→Prop} {C:Addr} {T:List St} {s:St} {mv:List AV}
theorem on_m {m:Str} {loc:Loc} (hC:P.cls = some C) (hm:m ∉ (["states","row"]:List Str)) (h:CallP P l f [oF C T s mv] H Q X):onObj P (oF C T s mv) m (wpEs P l X [] loc H fun vs H₂=>CallP P l f (oF C T s mv::vs) H₂ Q X):=⟨hC,hm,h⟩
theorem at_end {A B:AH} {x:List AV}:(A++x::B)[A.length]? = some x:=mid_get (a:=A) 0
theorem nd_of {a b c d r K:Nat} (h:∀ j,j < K→r + j ≠ a∧r + j ≠ b∧r + j ≠ c∧r + j ≠ d) (h4:[a,b,c,d].Nodup):([a,b,c,d]++(List.range K).map (r + ·)).Nodup:=by
 refine List.nodup_append.mpr ⟨h4,?_,fun x hx y hy e=>?_⟩
 ·rw [← List.range'_eq_map_range]
  exact List.nodup_range'
 ·obtain ⟨j,hj,rfl⟩:=List.mem_map.mp hy
  have:=h j (List.mem_range.mp hj)
  simp only [List.mem_cons,List.not_mem_nil,or_false] at hx
  rcases hx with rfl | rfl | rfl | rfl
  ·exact this.1 e.symm
  ·exact this.2.1 e.symm
  ·exact this.2.2.1 e.symm
  ·exact this.2.2.2 e.symm
theorem nlo {r j a:Nat} (h:a < r):r + j ≠ a:=Nat.ne_of_gt (Nat.lt_of_lt_of_le h (Nat.le_add_right r j))
theorem nhi {r j K a:Nat} (hj:j < K) (h:r + K ≤ a):r + j ≠ a:=Nat.ne_of_lt (Nat.lt_of_lt_of_le (Nat.add_lt_add_left hj r) h)
theorem nd4 {a b c d:Nat} (h1:a < b) (h2:b < c) (h3:c < d):[a,b,c,d].Nodup:=by
 have h4:=Nat.lt_trans h1 h2
 have h5:=Nat.lt_trans h2 h3
 simp [Nat.ne_of_lt h1,Nat.ne_of_lt h2,Nat.ne_of_lt h3,Nat.ne_of_lt h4,Nat.ne_of_lt h5,Nat.ne_of_lt (Nat.lt_trans h4 h3)]
theorem nd4b {a b c d:Nat} (h1:d < a) (h2:a < b) (h3:b < c):[a,b,c,d].Nodup:=by
 have h4:=Nat.lt_trans h1 h2
 have h5:=Nat.lt_trans h2 h3
 simp [Nat.ne_of_gt h1,Nat.ne_of_lt h2,Nat.ne_of_lt h3,Nat.ne_of_gt h4,Nat.ne_of_lt h5,Nat.ne_of_gt (Nat.lt_trans h4 h3)]
theorem nd4c {a b c d:Nat} (h1:c < d) (h2:d < a) (h3:a < b):[a,b,c,d].Nodup:=by
 have h4:=Nat.lt_trans h1 h2
 have h5:=Nat.lt_trans h2 h3
 simp [Nat.ne_of_lt h1,Nat.ne_of_gt h2,Nat.ne_of_lt h3,Nat.ne_of_gt h4,Nat.ne_of_gt h5,Nat.ne_of_gt (Nat.lt_trans h4 h3)]
theorem rows_at {A B:AH} {pl:List (List Int)} {n:Nat} (hA:A.length = n):∀ i xs,(rowsH pl)[i]? = some xs→(A++(rowsH pl++B))[n + i]? = some xs:=fun i xs e=>by
 rw [mid_at i hA,List.getElem?_append_left (List.getElem?_eq_some_iff.mp e).1]
 exact e
theorem looked_ok {t:Int} (F:FnIs P f ps rest (cs_looked fh fd fl)) (hp:ps.length = 2) (hr:rest.length = 3) (hk:1 < l.k) (hC:P.cls = some C) (hm:MKs mv) (h1:CallJ P ⟨l.k - 1,l.q,none⟩ fh [oF C T s mv] (Gives s.ns s.ms) X) (h2:CallJ P ⟨l.k - 1,l.q,none⟩ fd [oF C T s mv] (fun v H=>v = .ref 0∧H = [mv]) X)
  (h3:CallJ P ⟨l.k - 1,l.q,none⟩ fl [oF C T s mv] (fun v H=>v = .ref s.pl.length∧H = rowsH s.pl++[refs 0 s.pl.length]) X):CallJ P l f [oF C T s mv,.int t] (fun v H=>v = lV3∧H = lH s mv) X:=by
 have k0:0 < l.k - 1:=Nat.sub_pos_of_lt hk
 refine CallJ.ren (F.call (Nat.lt_trans (by decide) hk) (by rw [hp];rfl) ?_)
 rw [hr]
 unfold cs_looked
 (refine wpSs_cons.mpr ?_;tm_at "wps")
 refine ⟨_,fun _ _ h=>h,by decide,brk (fun _=>?_) fun _=>Cut.here ?_⟩
 ·(refine wpSs_cons.mpr ?_;tm_at "wps")
  refine ⟨k0,on_m hC (by decide) (callHere hm h1 ?_)⟩
  (refine wpSs_cons.mpr ?_;tm_at "wps")
  refine ⟨k0,on_m hC (by decide) (callDone hm h2 ?_)⟩
  (refine wpSs_cons.mpr ?_;tm_at "wps")
  refine ⟨k0,on_m hC (by decide) (callLayers hm h3 ⟨by decide,?_⟩)⟩
  exact look_ren (a:=0) (b:=1) (c:=2) (d:=3 + s.pl.length) (r:=3) hm rfl rfl rfl ((mid_at (a:=[_,_,_]) (n:=3) s.pl.length rfl).trans (by rw [← rowsH_len];exact at_end)) (rows_at (A:=[_,_,_]) rfl) (nd_of (fun j hj=>⟨nlo (by decide),nlo (by decide),nlo (by decide),nhi hj (Nat.le_refl _)⟩) (nd4 (by decide) (by decide) (Nat.lt_of_lt_of_le (by decide) (Nat.le_add_right 3 _))))
 (refine wpSs_cons.mpr ?_;tm_at "wps")
 refine ⟨_,fun _ _ h=>h,by decide,brk (fun _=>?_) fun _=>Cut.here ?_⟩
 ·(refine wpSs_cons.mpr ?_;tm_at "wps")
  refine ⟨k0,on_m hC (by decide) (callLayers hm h3 ?_)⟩
  (refine wpSs_cons.mpr ?_;tm_at "wps")
  refine ⟨k0,on_m hC (by decide) (callHere hm h1 ?_)⟩
  (refine wpSs_cons.mpr ?_;tm_at "wps")
  refine ⟨k0,on_m hC (by decide) (callDone hm h2 ⟨by decide,?_⟩)⟩
  have eL:(rowsH s.pl++[refs 0 s.pl.length]).length = s.pl.length + 1:=by rw [List.length_append,rowsH_len];rfl
  refine look_ren (a:=(rowsH s.pl++[refs 0 s.pl.length]).length) (b:=(rowsH s.pl++[refs 0 s.pl.length]).length + 1) (c:=((rowsH s.pl++[refs 0 s.pl.length])++[s.ns.map AV.int,s.ms.map AV.str]).length) (d:=0 + s.pl.length) (r:=0) hm ?_ ?_ at_end ?_ ?_ ?_
  ·show (((rowsH s.pl++[refs 0 s.pl.length])++[s.ns.map AV.int,s.ms.map AV.str])++[mv])[_]? = _
   rw [List.append_assoc];exact at_end
  ·show (((rowsH s.pl++[refs 0 s.pl.length])++[s.ns.map AV.int,s.ms.map AV.str])++[mv])[_]? = _
   rw [List.append_assoc];exact mid_get 1
  ·show (((rowsH s.pl++[refs 0 s.pl.length])++[s.ns.map AV.int,s.ms.map AV.str])++[mv])[_]? = _
   rw [List.append_assoc,List.append_assoc,Nat.zero_add,← rowsH_len];exact at_end
  ·intro i xs e
   show (((rowsH s.pl++[refs 0 s.pl.length])++[s.ns.map AV.int,s.ms.map AV.str])++[mv])[_]? = _
   rw [List.append_assoc,List.append_assoc]
   exact rows_at (A:=[]) rfl i xs e
  ·rw [List.length_append (as:=rowsH s.pl++[refs 0 s.pl.length]),eL]
   have z:0 + s.pl.length = s.pl.length:=Nat.zero_add _
   have z1:0 + s.pl.length < s.pl.length + 1:=by rw [z];exact Nat.lt_succ_self _
   exact nd_of (fun j hj=>⟨nhi hj (Nat.le_of_lt z1),nhi hj (Nat.le_of_lt (Nat.lt_succ_of_lt z1)),nhi hj (Nat.le_of_lt (Nat.lt_succ_of_lt (Nat.lt_succ_of_lt z1))),nhi hj (Nat.le_refl _)⟩) (nd4b z1 (Nat.lt_succ_self _) (Nat.lt_succ_self _))
 ·(refine wpSs_cons.mpr ?_;tm_at "wps")
  refine ⟨k0,on_m hC (by decide) (callDone hm h2 ?_)⟩
  (refine wpSs_cons.mpr ?_;tm_at "wps")
  refine ⟨k0,on_m hC (by decide) (callLayers hm h3 ?_)⟩
  (refine wpSs_cons.mpr ?_;tm_at "wps")
  refine ⟨k0,on_m hC (by decide) (callHere hm h1 ⟨by decide,?_⟩)⟩
  have eL:([mv]++(rowsH s.pl++[refs 1 s.pl.length])).length = s.pl.length + 2:=by rw [List.length_append,List.length_append,rowsH_len];exact Nat.add_comm 1 (s.pl.length + 1)
  refine look_ren (a:=([mv]++(rowsH s.pl++[refs 1 s.pl.length])).length) (b:=([mv]++(rowsH s.pl++[refs 1 s.pl.length])).length + 1) (c:=0) (d:=1 + s.pl.length) (r:=1) hm at_end (mid_get 1) rfl ?_ ?_ ?_
  ·show (([mv]++(rowsH s.pl++[refs 1 s.pl.length]))++[s.ns.map AV.int,s.ms.map AV.str])[_]? = _
   rw [List.append_assoc,List.append_assoc]
   exact (mid_at (a:=[mv]) (n:=1) s.pl.length rfl).trans (by rw [← rowsH_len];exact at_end)
  ·intro i xs e
   show (([mv]++(rowsH s.pl++[refs 1 s.pl.length]))++[s.ns.map AV.int,s.ms.map AV.str])[_]? = _
   rw [List.append_assoc,List.append_assoc]
   exact rows_at (A:=[mv]) rfl i xs e
  ·rw [eL]
   have z:1 + s.pl.length < s.pl.length + 2:=by rw [Nat.add_comm];exact Nat.lt_succ_self _
   exact nd_of (fun j hj=>⟨nhi hj (Nat.le_of_lt z),nhi hj (Nat.le_of_lt (Nat.lt_succ_of_lt z)),nlo (by decide),nhi hj (Nat.le_refl _)⟩) (nd4c (Nat.lt_of_lt_of_le (by decide) (Nat.le_add_right 1 _)) z (Nat.lt_succ_self _))
end
open PySem PyProof.Rows PySem.SeqAt
noncomputable def cs_take (fn ft fl:Nat):List CS:=[
 .assignT [2,3] (.idx (.attr (.var 0) "states") (.neg (.const (.int (1))))),
 .expr (.call fn [(.var 2),(.var 1)]),
 .mut .append (.attr (.var 0) "states") [(.tup [(.call ft [(.var 2),(.var 1)]),(.call fl [(.var 2),(.var 3),(.var 1)])])],
 .mut .append (.attr (.var 0) "row") [(.var 1)]]
noncomputable def cbk:CE:=.cmp .Eq (.attr (.var 0) "row") (.lst [])
noncomputable def cs_back:List CS:=[
 .ite cbk
  [      .raise ""]
  [],
 .mut .pop (.attr (.var 0) "states") [],
 .retI (.pop (.attr (.var 0) "row"))]
noncomputable def oR (C:Addr) (n:Nat):AV:=oV C (.ref n) (.ref (n + 1))
theorem set_mid {X W:AH} {y:List AV} (i:Nat):(X++W).set (X.length + i) y = X++W.set i y:=by
 rw [List.set_append,if_neg (by (first | lia | omega)),Nat.add_sub_cancel_left]
theorem set_mid0 {X W:AH} {a y:List AV}:(X++a::W).set X.length y = X++y::W:=set_mid (X:=X) (W:=a::W) 0
theorem CallJ.any {P:PC} {k:Nat} {q:Bool} {p p':Option Pin} {f:Nat} {vs:List AV} {Q:AV→AH→Prop} {X:Str→Prop} (h:CallJ P ⟨k,q,p⟩ f vs Q X):CallJ P ⟨k,q,p'⟩ f vs Q X:=h
theorem m_pop {H:AH} {xs:List AV} {y:AV} (h:(xs++[y]).length ≤ smallN):opMut H .pop (xs++[y]) [] = some xs:=by
 have e:(xs++[y]).eraseIdx ((xs++[y]).length - 1) = xs:=by
  rw [List.length_append]
  show (xs++[y]).eraseIdx xs.length = xs
  rw [List.eraseIdx_append_of_length_le (Nat.le_refl _)]
  simp
 simp only [opMut,mut0]
 rw [if_pos ⟨h,by simp⟩,e]
noncomputable def FH (H:AH):Prop:=∀ xs ∈ H,FVs xs
theorem FH.app {A B:AH} (h1:FH A) (h2:FH B):FH (A++B):=fun xs hx=>(List.mem_append.mp hx).elim (h1 xs) (h2 xs)
theorem FH.cons {A:List AV} {B:AH} (h1:FVs A) (h2:FH B):FH (A::B):=fun xs hx=>(List.mem_cons.mp hx).elim (fun e=>e ▸ h1) (h2 xs)
section
variable {P:PC} {l:Lv} {f fn ft fl:Nat} {ps rest:List Str} {X Y H:AH} {Xc:Str→Prop} {C:Addr} {A:List AV} {s s':St} {mv:List AV} {v:AV} {Q:AV→AH→Prop} {vs:List AV}
theorem callNone (hr:Rens [] H vs vs) (hc:CallJ P l f vs (fun r H=>r = .none∧H = []) Xc) (h:Q .none H):CallP P l f vs H Q Xc:=
 CallP.plain hr hc fun v Hc ⟨e1,e2⟩=>by
  subst e1 e2
  rw [List.map_nil,List.append_nil]
  exact h
theorem callGives {ns:List Int} {ms:List Str} (hr:Rens [] H vs vs) (hc:CallJ P l f vs (Gives ns ms) Xc) (h:Q (.tup [.ref H.length,.ref (H.length + 1)]) (H++[ns.map AV.int,ms.map AV.str])):CallP P l f vs H Q Xc:=
 CallP.plain hr hc fun v Hc ⟨e1,e2⟩=>by
  subst e1 e2
  rw [show [ns.map AV.int,ms.map AV.str].map (AV.shifts H.length) = [ns.map AV.int,ms.map AV.str] from by rw [List.map_cons,List.map_cons,shifts_ints,shifts_strs];rfl]
  exact h
theorem callPiles {pl:List (List Int)} (hr:Rens [] H vs vs) (hc:CallJ P l f vs (fun v H=>v = .ref 0∧H = [pilesAV pl]) Xc) (h:Q (.ref H.length) (H++[pilesAV pl])):CallP P l f vs H Q Xc:=
 CallP.plain hr hc fun v Hc ⟨e1,e2⟩=>by
  subst e1 e2
  rw [show [pilesAV pl].map (AV.shifts H.length) = [pilesAV pl] from by rw [List.map_cons,FVs.piles.shifts];rfl]
  exact h
theorem snoc_small {L:List AV} {y:AV} (h:L.length ≤ 100):(L++[y]).length ≤ smallN:=by rw [List.length_append];exact Nat.le_trans (Nat.add_le_add_right h 1) (by decide)
theorem snoc_lt {L:List AV} {y:AV} (h:L.length ≤ 100):(L++[y]).length < smallN:=by rw [List.length_append];exact Nat.lt_of_le_of_lt (Nat.add_le_add_right h 1) (by decide)
theorem frz_state {φ:List Nat} {H:AH} {n:Nat} (h0:n ∉ φ) (h1:n + 1 ∉ φ) (h2:n + 2 ∉ φ) (e0:H[n]? = some (s.ns.map AV.int)) (e1:H[n + 1]? = some (s.ms.map AV.str)) (e2:H[n + 2]? = some (pilesAV s.pl)):Ren φ H (.tup [.tup [.ref n,.ref (n + 1)],.ref (n + 2)]) (sA s):=
 .tup (.cons (.tup (.cons (.frz h0 e0 (Rens.ints _)) (.cons (.frz h1 e1 (Rens.strs _)) .nil))) (.cons (.frz h2 e2 (rens_piles _)) .nil))
theorem not_range {n k:Nat} (h:n ≤ k):k ∉ List.range n:=fun hm=>Nat.not_lt.mpr h (List.mem_range.mp hm)
theorem seq_sA {H:AH}:AV.seq? H (sA s) = some [sS s,sP s]:=rfl
theorem take_ok (F:FnIs P f ps rest (cs_take fn ft fl)) (hp:ps.length = 2) (hr:rest.length = 2) (hk:1 < l.k) (hq:l.q = true) (hC:P.cls = some C) (hX:FH X) (hY:FH Y) (hA:FVs A) (hT:A.length ≤ 100) (hl:mv.length ≤ 100) (hm:MKs mv) (hv:MK v)
  (h1:CallJ P ⟨l.k - 1,l.q,none⟩ fn [sS s,v] (fun r H=>r = .none∧H = []) fun _=>False) (h2:CallJ P ⟨l.k - 1,l.q,none⟩ ft [sS s,v] (Gives s'.ns s'.ms) fun _=>False) (h3:CallJ P ⟨l.k - 1,l.q,none⟩ fl [sS s,sP s,v] (fun v H=>v = .ref 0∧H = [pilesAV s'.pl]) fun _=>False) :
  CallR P l f [oR C X.length,v] (X++(A++[sA s])::mv::Y) (fun r H'=>r = .none∧H' = X++(A++[sA s]++[sA s'])::(mv++[v])::Y):=by
 have k0:0 < l.k - 1:=Nat.sub_pos_of_lt hk
 refine CallR.nrm (F.callR (Nat.lt_trans (by decide) hk) (by rw [hp];rfl) fun fr=>?_)
 rw [hr]
 generalize hn:(X++(A++[sA s])::mv::Y).length = n
 unfold cs_take oR
 (refine wpSs_cons.mpr ?_;tm_at "wps")
 refine ⟨hq,at_states hC (i_snoc (A:=A) (mid_get (a:=X) 0) (snoc_small hT) ?_)⟩
 rw [seq_sA]
 (refine wpSs_cons.mpr ?_;tm_at "wps")
 refine ⟨k0,callNone (.cons (FV.sS s _ _) (.cons (hv.fv _ _) .nil)) h1.any ?_⟩
 (refine wpSs_cons.mpr ?_;tm_at "wps")
 refine at_states hC ⟨k0,callGives (.cons (FV.sS s _ _) (.cons (hv.fv _ _) .nil)) h2.any ⟨k0,callPiles (.cons (FV.sS s _ _) (.cons (FV.sP s _ _) (.cons (hv.fv _ _) .nil))) h3.any ⟨by decide,?_⟩⟩⟩
 rw [List.length_append (bs:=[s'.ns.map AV.int,s'.ms.map AV.str]),hn]
 simp only [List.append_assoc,List.cons_append,List.nil_append]
 refine ⟨X.length,_,_,rfl,mid_get (a:=X) 0,m_app (snoc_lt hT),?_⟩
 rw [set_mid0]
 (refine wpSs_cons.mpr ?_;tm_at "wps")
 refine at_row hC ⟨X.length + 1,_,_,rfl,mid_get (a:=X) 1,m_app (Nat.lt_of_le_of_lt hl (by decide)),?_⟩
 rw [set_mid (X:=X) 1]
 have hl1:(X++(A++[sA s]++[AV.tup [.tup [.ref n,.ref (n + 1)],.ref (n + 2)]])::(mv++[v])::Y).length = n:=by rw [← hn];simp
 have eH:X++(A++[sA s]++[AV.tup [.tup [.ref n,.ref (n + 1)],.ref (n + 2)]])::(mv++[v])::(Y++[s'.ns.map AV.int,s'.ms.map AV.str,pilesAV s'.pl]) = (X++(A++[sA s]++[AV.tup [.tup [.ref n,.ref (n + 1)],.ref (n + 2)]])::(mv++[v])::Y)++[s'.ns.map AV.int,s'.ms.map AV.str,pilesAV s'.pl]:=by simp only [List.append_assoc,List.cons_append]
 show Nrm n _ .none (X++(A++[sA s]++[AV.tup [.tup [.ref n,.ref (n + 1)],.ref (n + 2)]])::(mv++[v])::(Y++[s'.ns.map AV.int,s'.ms.map AV.str,pilesAV s'.pl]))
 rw [eH]
 exact ⟨_,_,_,.none,rfl,hl1,.none,(RensH.self hX).app (.cons (((hA.app (FVs.one (FV.sA s))).rens).app (.cons (frz_state (s:=s') (not_range (Nat.le_refl _)) (not_range (Nat.le_add_right _ _)) (not_range (Nat.le_add_right _ _)) (mid_at 0 hl1) (mid_at 1 hl1) (mid_at 2 hl1)) .nil)) (.cons (hm.fv.app (FVs.one hv.fv)).rens (RensH.self hY))),rfl,by simp only [List.append_assoc,List.cons_append,List.nil_append]⟩
theorem back_ok (F:FnIs P f ps rest cs_back) (hp:ps.length = 1) (hr:rest.length = 0) (hk:0 < l.k) (hC:P.cls = some C) (hX:FH X) (hY:FH Y) (hA:FVs A) (hT:A.length ≤ 100) (hl:mv.length ≤ 100) (hm:MKs mv) (hv:MK v) :
  CallR P l f [oR C X.length] (X++(A++[sA s])::(mv++[v])::Y) (fun r H'=>r = v∧H' = X++A::mv::Y):=by
 refine CallR.nrm (F.callR hk (by rw [hp];rfl) fun fr=>?_)
 rw [hr]
 generalize hn:(X++(A++[sA s])::(mv++[v])::Y).length = n
 have hmv:MKs (mv++[v]):=fun m h=>(List.mem_append.mp h).elim (hm m) fun q=>List.mem_singleton.mp q ▸ hv
 unfold cs_back oR
 refine seqS ⟨fun lc H=>lc = [some (oV C (.ref X.length) (.ref (X.length + 1)))]∧∃ ex,H = X++(A++[sA s])::(mv++[v])::(Y++ex),?_,?_⟩
 ·rintro lc H ⟨rfl,ex,rfl⟩
  (refine wpSs_cons.mpr ?_;tm_at "wps")
  refine at_states hC ⟨X.length,_,_,rfl,mid_get (a:=X) 0,m_pop (snoc_small hT),?_⟩
  rw [set_mid0]
  refine seqS ?_
  refine at_row hC ⟨X.length + 1,mv,v,⟨rfl,rfl⟩,mid_get (a:=X) 1,Nat.lt_of_le_of_lt hl (by decide),?_⟩
  rw [set_mid (X:=X) 1]
  refine ⟨X++A::mv::Y,ex,_,v,by simp only [List.append_assoc,List.cons_append];rfl,?_,hv.fv _ _,RensH.self (hX.app (.cons hA (.cons hm.fv hY))),rfl,rfl⟩
  rw [← hn];simp
 ·unfold cbk
  tm_at "wps"
  refine at_row hC ⟨by decide,_,_,.ref (by rw [List.append_assoc];exact mid_get (a:=X) 1) (Rds.mvs hmv),.ref at_end .nil,?_⟩
  have e:(PyData.list ((mv++[v]).map mD)).eqv (PyData.list []) = false:=by
   rw [List.map_append]
   cases mv<;>rfl
  rw [e]
  exact Cut.here ⟨rfl,[[]],by simp only [List.append_assoc,List.cons_append]⟩
theorem oR_frz (hm:MKs mv) (hA:FVs A):Ren [] (X++A::mv::Y) (oR C X.length) (oV C (.fl A) (.fl mv)):=.obj (.cons (.frz (fun h=>nomatch h) (mid_get (a:=X) 0) hA.rens) (.cons (.frz (fun h=>nomatch h) (mid_get (a:=X) 1) hm.fv.rens) .nil))
theorem back_x {c:Addr} {A:List AV} (F:PreIs P f ps rest 0 [] (ShIf P.nt (ps++rest) "NothingDone" cbk)) (hp:ps.length = 1) (hr:rest.length = 0) (hk:0 < l.k) (hq:l.q = true) (hC:P.cls = some C) (ho:P.own "NothingDone" c = some true) (hm:P.mg "NothingDone" = some (.ref c)):CallX P l f [oV C (.fl A) (.fl [])] c:=by
 refine F.call (R:=fun lc H=>lc = [some (oV C (.fl A) (.fl []))]∧H = []) hk (by rw [hp];rfl) (by rw [hr];exact ⟨rfl,rfl⟩) ?_
 rintro K base outer ρ loc H s b e1 e2 e3 hS x Fr ⟨rfl,rfl⟩
 refine hS.rais (by rw [e1]) e3 x Fr (by rw [e2];exact hq) (by rw [e1];exact ho) (by rw [e1];exact hm) ?_
 rw [e1,e2]
 unfold cbk
 tm_at "wps"
 exact at_row hC ⟨by decide,_,_,.fl .nil,.ref rfl .nil,rfl⟩
theorem take_x {c:Addr} {fn:Nat} {w:AV} {A:List AV} (F:PreIs P f ps rest 1 [.assignT [2,3] (.idx (.attr (.var 0) "states") (.neg (.const (.int (1)))))] (ShCall P.nt (ps++rest) fn (.var 2) [.var 1])) (hp:ps.length = 2) (hr:rest.length = 2) (hk:0 < l.k) (hq:l.q = true) (hC:P.cls = some C) (hT:A.length ≤ 100) (hv:FV v) (hx:CallX P ⟨l.k - 1,l.q,none⟩ fn [sS s,v] c) :
  CallX P l f [oV C (.fl (A++[sA s])) w,v] c:=by
 refine F.call (R:=fun lc H=>lc = [some (oV C (.fl (A++[sA s])) w),some v,some (sS s),some (sP s)]∧H = []) hk (by rw [hp];rfl) ?_ ?_
 ·rw [hr]
  (refine wpSs_cons.mpr ?_;tm_at "wps")
  refine ⟨hq,at_states hC (i_snoc rfl (snoc_small hT) ?_)⟩
  rw [seq_sA]
  exact ⟨rfl,rfl⟩
 ·rintro K base outer ρ loc H s b e1 e2 e3 hS x Fr ⟨rfl,rfl⟩
  refine hS.rais (by rw [e1]) e3 x Fr ?_
  rw [e1,e2]
  exact ⟨_,.cons (FV.sS _ _ _) (.cons (hv _ _) .nil),hx⟩
end
open PySem PyProof.Rows PySem.SeqAt
noncomputable def cs_ldone (fb ft:Nat):List CS:=[
 .try
  [      .ite (.cmp .Is (.var 1) (.const .none))
    [          .retI (.tup (.const (.str "told")) (.mth fb "back" (.var 0) []))]
    [],
   .retI (.tup (.const (.str "told")) (.mth ft "take" (.var 0) [(.var 1)]))]
  "" 0
  []]
section
variable {P:PC} {l:Lv} {f fm fi fb ft:Nat} {ps rest:List Str} {X Y H:AH} {C c:Addr} {A:List AV} {s s':St} {mv:List AV} {v:AV} {ns:List Int} {ms:List Str}
theorem need_x1 {s:AV} (F:PreIs P f ps rest 0 [] (ShIf P.nt (ps++rest) "NoFold" (ct1 fm))) (hp:ps.length = 2) (hr:rest.length = 0) (hk:0 < l.k) (hq:l.q = true) (ho:P.own "NoFold" c = some true) (hm:P.mg "NoFold" = some (.ref c))
  (hw:wpE P ⟨l.k - 1,l.q,none⟩ (fun _=>False) (ct1 fm) [some s,some v] [] (isB fun b _=>b = true)):CallX P l f [s,v] c:=by
 refine F.call (R:=fun lc H=>lc = [some s,some v]∧H = []) hk (by rw [hp];rfl) (by rw [hr];exact ⟨rfl,rfl⟩) ?_
 rintro K base outer ρ loc H s' b e1 e2 e3 hS x Fr ⟨rfl,rfl⟩
 refine hS.rais (by rw [e1]) e3 x Fr (by rw [e2];exact hq) (by rw [e1];exact ho) (by rw [e1];exact hm) ?_
 rw [e1,e2]
 exact hw
noncomputable def bT:AV:=.tup [.str "pleat",.bool true]
noncomputable def dT:PyData:=.tuple [.str "pleat",.bool true]
theorem bT_rd {H:AH} {k:Nat}:Rd H (k + 1) bT dT:=.tup (.cons (.str _ strOk_pleat) (.cons (.bool _) .nil))
theorem bT_fv:FV bT:=fun _ _=>.tup (.cons (.str _) (.cons (.bool _) .nil))
theorem need_x2 (F:PreIs P f ps rest 1 [.ite (ct1 fm) [.raise ""] []] (ShIf P.nt (ps++rest) "NoFold" (ct2 fi))) (hp:ps.length = 2) (hr:rest.length = 0) (hk:1 < l.k) (hq:l.q = true) (ho:P.own "NoFold" c = some true) (hm:P.mg "NoFold" = some (.ref c)) (g:GS ns ms) (hin:inM ns ms dT = true)
  (hc:CallJ P ⟨l.k - 1,l.q,none⟩ fm [stV ns ms] (fun v H=>v = .ref 0∧H = [mvs ns ms]) fun _=>False) (hi:∀ a b:Int,∀ v,Pl v→CallJ P ⟨l.k - 1,l.q,none⟩ fi [v,.int a,.int b] (fun r H=>r = .bool (isNum a b v)∧H = []) fun _=>False):CallX P l f [stV ns ms,bT] c:=by
 have k0:=Nat.sub_pos_of_lt hk
 refine F.call (R:=fun lc H=>lc = [some (stV ns ms),some bT]∧H = []) (Nat.lt_trans (by decide) hk) (by rw [hp];rfl) ?_ ?_
 ·rw [hr]
  refine seqS ⟨fun lc H=>lc = [some (stV ns ms),some bT]∧H = [],fun _ _ h=>h,ct1_tup k0 hq hc (.inr rfl) bT_rd ?_⟩
  rw [hin]
  exact ⟨_,_,.inr ⟨[],pin0,RenH.nil,.keep (FV.sS ⟨ns,ms,[]⟩ _ _) (.keep (bT_fv _ _) .nil)⟩,rfl,rfl⟩
 ·rintro K base outer ρ loc H s' b e1 e2 e3 hS x Fr ⟨rfl,rfl⟩
  refine hS.rais (by rw [e1]) e3 x Fr (by rw [e2];exact hq) (by rw [e1];exact ho) (by rw [e1];exact hm) ?_
  rw [e1,e2]
  unfold ct2 bT stV
  tm_at "wps"
  refine ⟨hq,by decide,k0,hq,mapS_le g.sm,CallP.plain (.cons (.bool _) (.cons (.int _) (.cons (.int _) .nil))) (hi 0 _ (.bool true) trivial) ?_⟩
  rintro r Hc ⟨rfl,rfl⟩
  rfl
theorem ldone_back (F:FnIs P f ps rest (cs_ldone fb ft)) (hp:ps.length = 2) (hr:rest.length = 1) (hk:1 < l.k) (hq:l.q = true) (hC:P.cls = some C)
  (hb:∀ p,CallR P ⟨l.k - 1,l.q,p⟩ fb [oR C X.length] (X++(A++[sA s])::(mv++[v])::Y) (fun r H'=>r = v∧H' = X++A::mv::Y)) :
  CallR P l f [oR C X.length,.none] (X++(A++[sA s])::(mv++[v])::Y) (fun r H'=>r = .tup [.str "told",v]∧H' = X++A::mv::Y):=by
 refine F.callR (Nat.lt_trans (by decide) hk) (by rw [hp];rfl) fun fr=>?_
 rw [hr]
 unfold cs_ldone
 refine seqS (seqS ⟨fun _ _=>False,fun _ _ h=>h.elim,seqS ⟨Nat.sub_pos_of_lt hk,hq,⟨_,rfl⟩,⟨hC,by decide,(hb _).mono fun r H' ⟨e1,e2⟩=>⟨by rw [e1],e2⟩⟩⟩⟩)
theorem ldone_take (F:FnIs P f ps rest (cs_ldone fb ft)) (hp:ps.length = 2) (hr:rest.length = 1) (hk:1 < l.k) (hq:l.q = true) (hC:P.cls = some C) (hv:MK v)
  (hb:∀ p,CallR P ⟨l.k - 1,l.q,p⟩ ft [oR C X.length,v] (X++(A++[sA s])::mv::Y) (fun r H'=>r = .none∧H' = X++(A++[sA s]++[sA s'])::(mv++[v])::Y)) :
  CallR P l f [oR C X.length,v] (X++(A++[sA s])::mv::Y) (fun r H'=>r = .tup [.str "told",.none]∧H' = X++(A++[sA s]++[sA s'])::(mv++[v])::Y):=by
 refine F.callR (Nat.lt_trans (by decide) hk) (by rw [hp];rfl) fun fr=>?_
 rw [hr]
 have hn:isNone v = false:=by cases hv<;>rfl
 unfold cs_ldone
 refine seqS (seqS ⟨_,fun _ _ h=>h,?_⟩)
 show if isNone v = true then _ else _
 rw [hn]
 exact Cut.here (seqS ⟨Nat.sub_pos_of_lt hk,hq,⟨_,rfl⟩,⟨hC,by decide,(hb _).mono fun r H' ⟨e1,e2⟩=>⟨by rw [e1],e2⟩⟩⟩)
end
open PySem PyProof.Rows PySem.SeqAt
noncomputable def cs_kinds (fw:Nat):List CS:=[
 .ite (.or (.not (.isin .tuple (.var 0))) (.not (.isin .str (.idx (.var 0) (.const (.int (0)))))))
  [      .ret (.const (.bool false))]
  [],
 .ret (.prim .all [(.comp (.call fw [(.var 0)]) [] [] 0 (.slc (.var 0) (.const (.int (1))) (.const .none) (.const .none)))])]
noncomputable def sp1:CS:=.ite (.and (.cmp .Is (.var 2) (.const .none)) (.cmp .Eq (.idx (.var 1) (.const (.str "moves"))) (.lst [])))
  [      .ret (.cmp .Eq (.var 3) (.tup [(.const (.str "refused")),(.lst [(.const (.str "nothing"))])]))]
  []
noncomputable def sp2 (fk:Nat):CS:=.ite (.cmp .Is (.var 2) (.const .none))
  [      .mut .pop (.idx (.var 1) (.const (.str "strips"))) [],
   .mut .pop (.idx (.var 1) (.const (.str "piles"))) [],
   .retI (.and (.eq (.var 3) (.tup (.const (.str "told")) (.pop (.idx (.var 1) (.const (.str "moves")))))) (.pure (.call fk [(.idx (.var 3) (.const (.int (1))))])))]
  []
noncomputable def sp3 (fm:Nat):CS:=.ite (.or (.cmp .NotIn (.var 2) (.call fm [(.var 4),(.var 5)])) (.and (.cmp .Eq (.var 2) (.tup [(.const (.str "pleat")),(.const (.bool true))])) (.cmp .Is (.idx (.var 2) (.const (.int (1)))) (.const (.bool true)))))
  [      .ret (.cmp .Eq (.var 3) (.tup [(.const (.str "refused")),(.lst [(.const (.str "fold"))])]))]
  []
noncomputable def sp4 (fp fb:Nat):List CS:=[
 .mut .append (.idx (.var 1) (.const (.str "piles"))) [(.call fp [(.idx (.idx (.var 1) (.const (.str "piles"))) (.neg (.const (.int (1))))),(.var 5),(.var 2)])],
 .mut .append (.idx (.var 1) (.const (.str "strips"))) [(.call fb [(.var 4),(.var 5),(.var 2)])],
 .mut .append (.idx (.var 1) (.const (.str "moves"))) [(.var 2)],
 .ret (.cmp .Eq (.var 3) (.tup [(.const (.str "told")),(.const .none)]))]
noncomputable def cs_step (fd fk fm fp fb:Nat):List CS:=
 .asgI 3 (.call fd [(.var 0),(.var 2)])::sp1::sp2 fk ::
 .assignT [4,5] (.idx (.idx (.var 1) (.const (.str "strips"))) (.neg (.const (.int (1)))))::sp3 fm::sp4 fp fb
noncomputable def dR (n:Nat):AV:=.dict ["strips","moves","piles"] [.ref (n + 2),.ref (n + 3),.ref (n + 4)]
noncomputable def lay (X:AH) (T:List St) (s:St) (mv:List AV) (Y:AH):AH:=X++(T.map sA++[sA s])::mv::(T.map sS++[sS s])::mv::(T.map sP++[sP s])::Y
section
variable {P:PC} {l:Lv} {f fw fd fk fm fp fb:Nat} {ps rest:List Str} {X Y H:AH} {Xc:Str→Prop} {C:Addr} {T:List St} {s s':St} {mv:List AV} {v:AV} {Q:AV→AH→Prop} {n:Nat}
theorem q_retI {P:PC} {l:Lv} {loc:Loc} {H:AH} {Qn:Loc→AH→Prop} {Qr:AV→AH→Prop} {Qx:Str→Loc→AH→Prop} (i:IE):wpS P l (.retI i) loc H Qn Qr Qx = wpI P l i loc H Qr:=rfl
theorem q_iteI {P:PC} {l:Lv} {loc:Loc} {H:AH} {Qn:Loc→AH→Prop} {Qr:AV→AH→Prop} {Qx:Str→Loc→AH→Prop} (i:IE) (a b:List CS):wpS P l (.iteI i a b) loc H Qn Qr Qx = (∃ R:Loc→AH→Prop,(∀ loc' H',R loc' H'→Qn loc' H')∧wpI P l i loc H fun v H₁=>onBool v fun t=>
   if t = true then wpSs P l a loc H₁ (Cut l.p R) Qr Qx else wpSs P l b loc H₁ (Cut l.p R) Qr Qx):=rfl
section
variable {loc:Loc}
theorem j_pure (e:CE):wpI P l (.pure e) loc H Q = wpE P l (fun _=>False) e loc H Q:=rfl
theorem j_call (f:Nat) (es:List CE):wpI P l (.call f es) loc H Q = (0 < l.k∧l.q = true∧(∃ n,l.p = some n)∧wpEs P l (fun _=>False) es loc H fun vs H₁=>CallR P l f vs H₁ Q):=rfl
theorem j_pop (o:CE):wpI P l (.pop o) loc H Q = (wpE P l (fun _=>False) o loc H fun u H₁=>onL u (∃ r xs y,(u = .ref r∧([]:List AV) = [])∧H₁[r]? = some (xs++[y])∧xs.length < smallN∧Q y (H₁.set r xs))):=rfl
theorem j_tup (e:CE) (i:IE):wpI P l (.tup e i) loc H Q = (wpE P l (fun _=>False) e loc H fun v H₁=>wpI P l i loc H₁ fun u H₂=>Q (.tup [v,u]) H₂):=rfl
theorem j_eq (e:CE) (i:IE):wpI P l (.eq e i) loc H Q = (wpE P l (fun _=>False) e loc H fun v H₁=>wpI P l i loc H₁ fun u H₂=>opCmp .Eq v u H₂ Q):=rfl
theorem j_not (i:IE):wpI P l (.not i) loc H Q = (wpI P l i loc H fun v H₁=>onBool v fun b=>Q (.bool (!b)) H₁):=rfl
theorem j_and (i j:IE):wpI P l (.and i j) loc H Q = (wpI P l i loc H fun v H₁=>onBool v fun c=>if c = true then wpI P l j loc H₁ Q else Q (.bool false) H₁):=rfl
theorem j_or (i j:IE):wpI P l (.or i j) loc H Q = (wpI P l i loc H fun v H₁=>onBool v fun c=>if c = true then Q (.bool true) H₁ else wpI P l j loc H₁ Q):=rfl
end
theorem dx_strips (h:Q (.ref (n + 2)) H):opIdx (dR n) (.str "strips") H Q:=⟨_,_,_,rfl,rfl,h⟩
theorem dx_moves (h:Q (.ref (n + 3)) H):opIdx (dR n) (.str "moves") H Q:=⟨_,_,_,rfl,rfl,h⟩
theorem dx_piles (h:Q (.ref (n + 4)) H):opIdx (dR n) (.str "piles") H Q:=⟨_,_,_,rfl,rfl,h⟩
theorem kinds_ok (F:FnIs P f ps rest (cs_kinds fw)) (hp:ps.length = 1) (hr:rest.length = 0) (hk:1 < l.k) (hq:l.q = true) (hv:MK v) (hw:∀ n:Int,CallJ P ⟨l.k - 1,l.q,none⟩ fw [.int n] (fun v H=>v = .bool true∧H = []) Xc):CallJ P l f [v] (fun v H=>v = .bool true∧H = []) Xc:=by
 refine CallJ.pure (fun _ _=>.bool true) (F.call (Nat.lt_trans (by decide) hk) (by rw [hp];rfl) ?_)
 rw [hr]
 unfold cs_kinds
 have k0:=Nat.sub_pos_of_lt hk
 have go:∀ (x:Str) (us:List Int),v = .tup (.str x::us.map AV.int)→us.length ≤ 10→wpSs P ⟨l.k - 1,l.q,none⟩ (cs_kinds fw) [some v] [] (fun _ _=>AV.none = .bool true) (fun v _=>v = .bool true) (fun c _ _=>Xc c):=fun x us e hu=>by
  subst e
  have hs:(AV.str x::us.map AV.int).length ≤ smallN:=by rw [List.length_cons,List.length_map];exact Nat.le_trans (Nat.add_le_add_right hu 1) (by decide)
  unfold cs_kinds
  (refine wpSs_cons.mpr ?_;tm_at "wps")
  refine ⟨fun lc H=>lc = [some (.tup (.str x::us.map AV.int))]∧H = [],?_,?_⟩
  ·rintro lc H ⟨rfl,rfl⟩
   (refine wpSs_cons.mpr ?_;tm_at "wps")
   refine ⟨hq,hq,⟨by decide,by rw [List.length_cons];(first | lia | omega),hs⟩,us.map AV.int,_,_,rfl,by rw [List.length_map];exact Nat.le_trans hu (by decide),Rens.ints us,.nil,comp_map (fun _=>.bool true) (fun x hx k hk=>opt_bind0 hk) ?_ ?_⟩
   ·intro x hx n k hk'
    obtain ⟨i,hi,rfl⟩:=List.mem_map.mp hx
    refine opt_bind0 ⟨k0,?_⟩
    tm_at "wps"
    refine CallP.plain (.cons (.int i) .nil) (hw i) ?_
    rintro v Hc ⟨rfl,rfl⟩
    exact eltK.frz (.bool _) (.inr (.bool _)) hk'
   ·refine ⟨us.map fun _=>true,by rw [List.map_map,List.map_map];rfl,?_⟩
    simp
  ·rw [show isInst .tuple (.tup (.str x::us.map AV.int)) = true from rfl]
   tm_at "wps"
   refine i_pos 0 rfl hs rfl rfl ?_
   exact Cut.here ⟨rfl,rfl⟩
 induction hv with
 | f=>exact go _ [] rfl (by decide)
 | l=>exact go _ [] rfl (by decide)
 | p k=>exact go _ [(k:Int)] rfl (by show 1 ≤ 10;decide)
theorem ok_refused:PyData.strOk ("refused" : Str) = true:=by decide +kernel
theorem ok_nothing:PyData.strOk ("nothing" : Str) = true:=by decide +kernel
theorem ok_fold:PyData.strOk ("fold" : Str) = true:=by decide +kernel
theorem ok_told:PyData.strOk ("told" : Str) = true:=by decide +kernel
theorem FH.lay (hX:FH X) (hY:FH Y) (hm:MKs mv):FH (lay X T s mv Y):=
 hX.app (.cons (FVs.sA.app (FVs.one (FV.sA s))) (.cons hm.fv (.cons (FVs.sS.app (FVs.one (FV.sS s))) (.cons hm.fv (.cons (FVs.sP.app (FVs.one (FV.sP s))) hY)))))
theorem eq_refused {w:Str} {H:AH} {k:Nat} (hw:PyData.strOk w = true) (hk:H[k]? = some [.str w]) (h:Q (.bool true) H):opCmp .Eq (.tup [.str "refused",.fl [.str w]]) (.tup [.str "refused",.ref k]) H Q:=
 ⟨_,_,.tup (.cons (.str _ ok_refused) (.cons (.fl (.cons (.str _ hw) .nil)) .nil)),.tup (.cons (.str _ ok_refused) (.cons (.ref hk (.cons (.str _ hw) .nil)) .nil)),by
  have:(PyData.tuple [.str "refused",.list [.str w]]).eqv (.tuple [.str "refused",.list [.str w]]) = true:=by simp [PyData.eqv,PyData.eqvAll]
  rw [this];exact h⟩
theorem nn:isNone AV.none = true:=rfl
theorem step_none (F:FnIs P f ps rest (cs_step fd fk fm fp fb)) (hp:ps.length = 3) (hr:rest.length = 3) (hk:1 < l.k) (hq:l.q = true) (hX:FH X) (hY:FH Y)
  (hd:∀ p,CallR P ⟨l.k - 1,l.q,p⟩ fd [oR C X.length,.none] (lay X T s [] Y) (fun r H'=>r = .tup [.str "refused",.fl [.str "nothing"]]∧H' = lay X T s [] Y)) :
  CallR P l f [oR C X.length,dR X.length,.none] (lay X T s [] Y) (fun r H'=>r = .bool true∧H' = lay X T s [] Y):=by
 refine CallR.nrm (F.callR (Nat.lt_trans (by decide) hk) (by rw [hp];rfl) fun fr=>?_)
 rw [hr]
 unfold cs_step
 refine seqS ⟨Nat.sub_pos_of_lt hk,hq,⟨_,rfl⟩,(hd _).mono fun r H' ⟨e1,e2⟩=>?_⟩
 subst e1 e2
 unfold sp1
 (refine wpSs_cons.mpr ?_;tm_at "wps")
 refine ⟨fun _ _=>False,fun _ _ h=>h.elim,?_⟩
 rw [nn]
 tm_at "wps"
 refine dx_moves ⟨by decide,_,_,.ref ((List.getElem?_append_left (by simp [lay])).trans (mid_get (a:=X) 3)) .nil,.ref at_end .nil,?_⟩
 (refine wpSs_cons.mpr ?_;tm_at "wps")
 refine ⟨by decide,by decide,eq_refused ok_nothing at_end ?_⟩
 rw [List.append_assoc]
 exact Nrm.same rfl (hX.lay hY fun _ h=>nomatch h) (fun _ _=>.bool true) ⟨rfl,rfl⟩
theorem MKs.snoc (hm:MKs mv) (hv:MK v):MKs (mv++[v]):=fun m h=>(List.mem_append.mp h).elim (hm m) fun q=>List.mem_singleton.mp q ▸ hv
theorem lay_snoc:lay X (T++[s]) s' mv Y = X++(T.map sA++[sA s]++[sA s'])::mv::(T.map sS++[sS s]++[sS s'])::mv::(T.map sP++[sP s]++[sP s'])::Y:=by
 unfold lay
 simp only [List.map_append,List.map_cons,List.map_nil]
theorem callTrue {vs:List AV} (hr:Rens [] H vs vs) (hc:CallJ P l f vs (fun r H=>r = .bool true∧H = []) Xc) (h:Q (.bool true) H):CallP P l f vs H Q Xc:=
 CallP.plain hr hc fun v Hc ⟨e1,e2⟩=>by
  subst e1 e2
  rw [List.map_nil,List.append_nil]
  exact h
theorem map_small {α:Type} {g:α→AV} {T:List α} {y:AV} (h:T.length ≤ 90):(T.map g++[y]).length ≤ 100:=by rw [List.length_append,List.length_map];exact Nat.le_trans (Nat.add_le_add_right h 1) (by decide)
theorem step_back (F:FnIs P f ps rest (cs_step fd fk fm fp fb)) (hp:ps.length = 3) (hr:rest.length = 3) (hk:1 < l.k) (hq:l.q = true) (hX:FH X) (hY:FH Y) (hm:MKs mv) (hv:MK v) (hT:T.length ≤ 90) (hl:mv.length ≤ 90)
  (hd:∀ p,CallR P ⟨l.k - 1,l.q,p⟩ fd [oR C X.length,.none] (lay X (T++[s]) s' (mv++[v]) Y) (fun r H'=>r = .tup [.str "told",v]∧H' = X++(T.map sA++[sA s])::mv::(T.map sS++[sS s]++[sS s'])::(mv++[v])::(T.map sP++[sP s]++[sP s'])::Y))
  (hkd:CallJ P ⟨l.k - 1,l.q,none⟩ fk [v] (fun v H=>v = .bool true∧H = []) fun _=>False) :
  CallR P l f [oR C X.length,dR X.length,.none] (lay X (T++[s]) s' (mv++[v]) Y) (fun r H'=>r = .bool true∧H' = lay X T s mv Y):=by
 refine CallR.nrm (F.callR (Nat.lt_trans (by decide) hk) (by rw [hp];rfl) fun fr=>?_)
 rw [hr]
 have hn:(lay X (T++[s]) s' (mv++[v]) Y).length = (lay X T s mv Y).length:=by simp [lay]
 rw [hn]
 unfold cs_step
 refine seqS ⟨Nat.sub_pos_of_lt hk,hq,⟨_,rfl⟩,(hd _).mono fun r H' ⟨e1,e2⟩=>?_⟩
 subst e1 e2
 unfold sp1 sp2
 (refine wpSs_cons.mpr ?_;tm_at "wps")
 refine ⟨fun lc H=>lc = [some (oR C X.length),some (dR X.length),some .none,some (.tup [.str "told",v]),none,none]∧∃ ex,H = X++(T.map sA++[sA s])::mv::(T.map sS++[sS s]++[sS s'])::(mv++[v])::(T.map sP++[sP s]++[sP s'])::(Y++ex),?_,?_⟩
 ·rintro lc H ⟨rfl,ex,rfl⟩
  (refine wpSs_cons.mpr ?_;tm_at "wps")
  refine ⟨fun _ _=>False,fun _ _ h=>h.elim,?_⟩
  rw [nn]
  tm_at "wps"
  (refine wpSs_cons.mpr ?_;tm_at "wps")
  refine dx_strips ⟨X.length + 2,_,_,rfl,mid_get (a:=X) 2,m_pop (snoc_small (map_small hT)),?_⟩
  rw [set_mid (X:=X) 2]
  (refine wpSs_cons.mpr ?_;tm_at "wps")
  refine dx_piles ⟨X.length + 4,_,_,rfl,mid_get (a:=X) 4,m_pop (snoc_small (map_small hT)),?_⟩
  rw [set_mid (X:=X) 4]
  refine seqS ?_
  rw [q_retI,j_and,j_eq]
  dsimp only [j_tup,j_pop,j_pure]
  tm_at "wps"
  refine dx_moves ⟨X.length + 3,mv,v,⟨rfl,rfl⟩,mid_get (a:=X) 3,Nat.lt_of_le_of_lt hl (by decide),?_⟩
  rw [set_mid (X:=X) 3]
  refine ⟨_,_,.tup (.cons (.str _ ok_told) (.cons (hv.rd (k:=7)) .nil)),.tup (.cons (.str _ ok_told) (.cons (hv.rd (k:=7)) .nil)),?_⟩
  have e:(PyData.tuple [.str "told",mD v]).eqv (.tuple [.str "told",mD v]) = true:=by simp [PyData.eqv,PyData.eqvAll,hv.refl]
  rw [e]
  refine ⟨Nat.sub_pos_of_lt hk,callTrue (.cons (hv.fv _ _) .nil) hkd.any ?_⟩
  show Nrm _ _ _ (X++(T.map sA++[sA s])::mv::(T.map sS++[sS s])::mv::(T.map sP++[sP s])::(Y++ex))
  rw [show X++(T.map sA++[sA s])::mv::(T.map sS++[sS s])::mv::(T.map sP++[sP s])::(Y++ex) = lay X T s mv Y++ex from by unfold lay;simp only [List.append_assoc,List.cons_append]]
  exact Nrm.same rfl (hX.lay hY hm) (fun _ _=>.bool true) ⟨rfl,rfl⟩
 ·rw [nn]
  tm_at "wps"
  refine dx_moves ⟨by decide,_,_,.ref (by rw [List.append_assoc];exact mid_get (a:=X) 3) (Rds.mvs (hm.snoc hv)),.ref at_end .nil,?_⟩
  have e:(PyData.list ((mv++[v]).map mD)).eqv (PyData.list []) = false:=by
   rw [List.map_append]
   cases mv<;>rfl
  rw [e]
  exact Cut.here ⟨rfl,[[]],by simp only [List.append_assoc,List.cons_append]⟩
end
open PySem PyProof.Rows PySem.SeqAt
noncomputable def BV (n:Nat) (v:AV):Prop:=∀ H,Ren (List.range n) H v v
theorem FV.bv {v:AV} (h:FV v) {n:Nat}:BV n v:=fun H=>h _ H
theorem BV.ref {n i:Nat} (h:i < n):BV n (.ref i):=fun _=>.ref (range_at h)
theorem BV.oR {C:Addr} {n m:Nat} (h:m + 1 < n):BV n (oR C m):=fun H=>.obj (.cons (BV.ref (Nat.lt_of_succ_lt h) H) (.cons (BV.ref h H) .nil))
theorem BV.dR {n m:Nat} (h:m + 4 < n):BV n (dR m):=fun H=>.dict (.cons (BV.ref (by (first | lia | omega)) H) (.cons (BV.ref (by (first | lia | omega)) H) (.cons (BV.ref h H) .nil)))
theorem RenLs.self {φ:List Nat} {H:AH}:∀ {loc:Loc},(∀ v,some v ∈ loc→Ren φ H v v)→RenLs φ H loc loc
 | [],_=>.nil
 | none::_,h=>.drop (RenLs.self fun v hv=>h v (.tail _ hv))
 | some v::_,h=>.keep (h v (.head _)) (RenLs.self fun v hv=>h v (.tail _ hv))
theorem RensH.of {φ:List Nat} {H:AH}:∀ {a:AH},(∀ xs ∈ a,∀ v ∈ xs,Ren φ H v v)→RensH φ H a a
 | [],_=>.nil
 | _::_,h=>.cons (Rens.self (h _ (.head _))) (RensH.of fun x hx=>h x (.tail _ hx))
theorem RenL.front {p:Option Pin} {loc:Loc} {H ex:AH} (hp:∀ P,p = some P→P.n ≤ H.length) (hl:∀ v,some v ∈ loc→BV H.length v) (hH:∀ xs ∈ H,∀ v ∈ xs,BV H.length v):RenL p loc (H++ex) loc H:=
 .inr ⟨List.range H.length,fun P e i hi=>range_at (Nat.lt_of_lt_of_le hi (hp P e)),.front (RensH.of fun xs hx v hv=>hH xs hx v hv _),RenLs.self fun v hv=>hl v hv _⟩
theorem Cut.front {p:Option Pin} {R:Loc→AH→Prop} {loc:Loc} {H ex:AH} (hp:∀ P,p = some P→P.n ≤ H.length) (hl:∀ v,some v ∈ loc→BV H.length v) (hH:∀ xs ∈ H,∀ v ∈ xs,BV H.length v) (h:R loc H):Cut p R loc (H++ex):=⟨loc,H,.front hp hl hH,h⟩
theorem FH.bv {H:AH} {n:Nat} (h:FH H):∀ xs ∈ H,∀ v ∈ xs,BV n v:=fun xs hx v hv=>(h xs hx v hv).bv
section
variable {P:PC} {l:Lv} {f fw fd fk fm fp fb:Nat} {ps rest:List Str} {X Y H:AH} {Xc:Str→Prop} {C:Addr} {T:List St} {s s':St} {mv:List AV} {v:AV} {Q:AV→AH→Prop} {n:Nat} {d:PyData}
theorem MK.not_none (h:MK v):isNone v = false:=by cases h<;>rfl
theorem seq_sS {H:AH}:AV.seq? H (sS s) = some [.fl (s.ns.map AV.int),.fl (s.ms.map AV.str)]:=rfl
noncomputable def stL (C:Addr) (n:Nat) (v found:AV) (s:St):Loc:=[some (oR C n),some (dR n),some v,some found,some (.fl (s.ns.map AV.int)),some (.fl (s.ms.map AV.str))]
theorem step_head {A B D E:List AV} {found:AV} {K:List CS} {Qn:Loc→AH→Prop} {Qr:AV→AH→Prop} {Qx:Str→Loc→AH→Prop} (hq:l.q = true) (hv:isNone v = false) (hT:T.length ≤ 90)
  (h:wpSs P l K (stL C X.length v found s) (X++A::B::(T.map sS++[sS s])::D::E::Y) Qn Qr Qx) :
  wpSs P l (sp1::sp2 fk::.assignT [4,5] (.idx (.idx (.var 1) (.const (.str "strips"))) (.neg (.const (.int (1)))))::K) [some (oR C X.length),some (dR X.length),some v,some found,none,none] (X++A::B::(T.map sS++[sS s])::D::E::Y) Qn Qr Qx:=by
 unfold sp1 sp2
 refine seqS ⟨_,fun _ _ h=>h,?_⟩
 tm_at "wps"
 rw [hv]
 refine Cut.here (seqS ⟨_,fun _ _ h=>h,?_⟩)
 tm_at "wps"
 rw [hv]
 refine Cut.here ?_
 (refine wpSs_cons.mpr ?_;tm_at "wps")
 refine ⟨hq,dx_strips (i_snoc (A:=T.map sS) (mid_get (a:=X) 2) ?_ ?_)⟩
 ·exact snoc_small (by rw [List.length_map];exact Nat.le_trans hT (by decide))
 ·rw [seq_sS]
  exact h
theorem stL_bv {N:Nat} {found:AV} (h:n + 4 < N) (hv:BV N v) (hf:FV found):∀ w,some w ∈ stL C n v found s→BV N w:=fun w hw=>by
 unfold stL at hw
 simp only [List.mem_cons,List.not_mem_nil,or_false,Option.some.injEq] at hw
 rcases hw with rfl | rfl | rfl | rfl | rfl | rfl
 ·exact BV.oR (by (first | lia | omega))
 ·exact BV.dR h
 ·exact hv
 ·exact hf.bv
 ·exact FVs.ints.fl.bv
 ·exact FVs.strs.fl.bv
theorem strs_ren {ns:List Int} {ms:List Str} {H:AH}:Rens [] H [.fl (ns.map AV.int),.fl (ms.map AV.str)] [.fl (ns.map AV.int),.fl (ms.map AV.str)]:=.cons (.fl (Rens.ints _)) (.cons (.fl (Rens.strs _)) .nil)
theorem step_odd (F:FnIs P f ps rest (cs_step fd fk fm fp fb)) (hp:ps.length = 3) (hr:rest.length = 3) (hk:1 < l.k) (hq:l.q = true) (hX:FH X) (hY:FH Y) (hm:MKs mv) (hT:T.length ≤ 90) (hv:isNone v = false)
  (hrd:∀ ex,Rd (lay X T s mv Y++ex) 9 v d) (hin:inM s.ns s.ms d = false ∨ v = bT)
  (hd:∀ p,CallR P ⟨l.k - 1,l.q,p⟩ fd [oR C X.length,v] (lay X T s mv Y) (fun r H'=>r = .tup [.str "refused",.fl [.str "fold"]]∧H' = lay X T s mv Y))
  (hmv:CallJ P ⟨l.k - 1,l.q,none⟩ fm [.fl (s.ns.map AV.int),.fl (s.ms.map AV.str)] (fun v H=>v = .ref 0∧H = [mvs s.ns s.ms]) fun _=>False) :
  CallR P l f [oR C X.length,dR X.length,v] (lay X T s mv Y) (fun r H'=>r = .bool true∧H' = lay X T s mv Y):=by
 have k0:=Nat.sub_pos_of_lt hk
 refine CallR.nrm (F.callR (Nat.lt_trans (by decide) hk) (by rw [hp];rfl) fun fr=>?_)
 rw [hr]
 unfold cs_step
 refine seqS ⟨k0,hq,⟨_,rfl⟩,(hd _).mono fun r H' ⟨e1,e2⟩=>?_⟩
 subst e1 e2
 refine step_head hq hv hT ?_
 show wpSs P _ _ _ (lay X T s mv Y) _ _ _
 unfold stL sp3
 (refine wpSs_cons.mpr ?_;tm_at "wps")
 refine ⟨fun _ _=>False,fun _ _ h=>h.elim,k0,call_mvs strs_ren hmv.any ⟨_,_,_,hrd _,at_end,Rds.mvs (k:=8) fun m hm=>mvs_mk hm,?_⟩⟩
 show onBool (.bool (!inM s.ns s.ms d)) _
 have fin:∀ ex,wpSs P ⟨l.k - 1,l.q,some ⟨(lay X T s mv Y).length,fr⟩⟩ [.ret (.cmp .Eq (.var 3) (.tup [(.const (.str "refused")),(.lst [(.const (.str "fold"))])]))] (stL C X.length v (.tup [.str "refused",.fl [.str "fold"]]) s) (lay X T s mv Y++ex) (Cut (some ⟨(lay X T s mv Y).length,fr⟩) fun _ _=>False) (Nrm (lay X T s mv Y).length fun r H'=>r = .bool true∧H' = lay X T s mv Y) (fun _ _ _=>False):=fun ex=>by
  unfold stL
  (refine wpSs_cons.mpr ?_;tm_at "wps")
  refine ⟨by decide,by decide,eq_refused ok_fold at_end ?_⟩
  rw [List.append_assoc]
  exact Nrm.same rfl (hX.lay hY hm) (fun _ _=>.bool true) ⟨rfl,rfl⟩
 cases hi:inM s.ns s.ms d with
 | false=>exact fin _
 | true=>
  have hb:=hin.resolve_left (by rw [hi];exact Bool.noConfusion)
  subst hb
  tm_at "wps"
  refine ⟨by decide,_,_,bT_rd (k:=8),bT_rd (k:=8),?_⟩
  have e:dT.eqv dT = true:=by simp [dT,PyData.eqv,PyData.eqvAll]
  rw [e]
  exact fin _
end
open PySem PyProof.Rows PySem.SeqAt
section
variable {P:PC} {l:Lv} {f fw fd fk fm fp fb:Nat} {ps rest:List Str} {X Y H:AH} {Xc:Str→Prop} {C:Addr} {T:List St} {s s':St} {mv:List AV} {v:AV} {Q:AV→AH→Prop} {n:Nat}
theorem mk_true {A B:Prop} {loc:Loc} {Xf:Str→Prop} (hv:MK v) (hl:loc[2]?.join = some v) (h:B) :
  wpE P l Xf (.and (.cmp .Eq (.var 2) (.tup [(.const (.str "pleat")),(.const (.bool true))])) (.cmp .Is (.idx (.var 2) (.const (.int (1)))) (.const (.bool true)))) loc H fun v _=>onBool v fun t=>if t = true then A else B:=by
 tm_at "wps"
 rw [hl]
 refine ⟨by decide,?_⟩
 have go:∀ b,(mD v).eqv dT = b→eqOf v bT H fun c=>onBool (.bool c) fun c=>if c = true then opt (some v) fun v=>opIdx v (.int 1) H fun v H₁=>opCmp .Is v (.bool true) H₁ fun v _=>onBool v fun t=>if t = true then A else B else if false = true then A else B:=fun b e=>⟨_,_,hv.rd (k:=8),bT_rd (k:=8),by
  rw [e]
  cases b with
  | false=>exact h
  | true=>
   cases hv with
   | f=>exact absurd e (by simp [mD_f,dT,PyData.eqv,PyData.eqvAll])
   | l=>exact absurd e (by simp [mD_l,dT,PyData.eqv,PyData.eqvAll])
   | p k=>exact h⟩
 have:=go _ rfl
 cases hv<;>exact this
theorem sp4_ok {A B C1 D E0:List AV} {Qn:Loc→AH→Prop} {w:AV} (hk:0 < l.k) (hn:(X++A::B::C1::D::(E0++[w])::Y).length = n) (ew:w = sP s) (hX:FH X) (hY:FH Y) (hA:FVs A) (hB:FVs B) (hC:FVs C1) (hD:FVs D) (hE:FVs E0) (vk:MK v) (lC:C1.length ≤ 100) (lD:D.length ≤ 100) (lE:E0.length ≤ 100)
  (hpl:CallJ P l fp [.fl (pilesAV s.pl),.fl (s.ms.map AV.str),v] (fun v H=>v = .ref 0∧H = [pilesAV s'.pl]) fun _=>False)
  (hbh:CallJ P l fb [.fl (s.ns.map AV.int),.fl (s.ms.map AV.str),v] (Gives s'.ns s'.ms) fun _=>False) :
  wpSs P l (sp4 fp fb) (stL C X.length v (.tup [.str "told",.none]) s) (X++A::B::C1::D::(E0++[w])::Y) Qn (Nrm n (fun r H'=>r = .bool true∧H' = X++A::B::(C1++[sS s'])::(D++[v])::(E0++[w]++[sP s'])::Y)) (fun _ _ _=>False):=by
 unfold sp4 stL
 (refine wpSs_cons.mpr ?_;tm_at "wps")
 refine dx_piles ⟨hk,dx_piles (i_snoc (A:=E0) (mid_get (a:=X) 4) (snoc_small lE) ?_)⟩
 subst ew
 refine callPiles (.cons (FV.sP s _ _) (.cons (.fl (Rens.strs _)) (.cons (vk.fv _ _) .nil))) hpl ?_
 rw [hn]
 have hw:=snoc_lt (y:=sP s) lE
 have hE1:FVs (E0++[sP s]):=hE.app (FVs.one (FV.sP s))
 generalize E0++[sP s] = E1 at hw hE1 hn ⊢
 rw [List.append_assoc]
 simp only [List.cons_append]
 refine ⟨X.length + 4,_,_,rfl,mid_get (a:=X) 4,m_app hw,?_⟩
 rw [set_mid (X:=X) 4]
 have hn1:(X++A::B::C1::D::(E1++[AV.ref n])::(Y++[pilesAV s'.pl])).length = n + 1:=by rw [← hn];simp;(first | lia | omega)
 (refine wpSs_cons.mpr ?_;tm_at "wps")
 refine dx_strips ⟨hk,callGives (.cons (.fl (Rens.ints _)) (.cons (.fl (Rens.strs _)) (.cons (vk.fv _ _) .nil))) hbh ?_⟩
 rw [hn1]
 generalize hE2:E1++[AV.ref n] = E2
 simp only [List.append_assoc,List.cons_append,List.nil_append]
 refine ⟨X.length + 2,_,_,rfl,mid_get (a:=X) 2,m_app (Nat.lt_of_le_of_lt lC (by decide)),?_⟩
 rw [set_mid (X:=X) 2]
 (refine wpSs_cons.mpr ?_;tm_at "wps")
 refine dx_moves ⟨X.length + 3,_,_,rfl,mid_get (a:=X) 3,m_app (Nat.lt_of_le_of_lt lD (by decide)),?_⟩
 rw [set_mid (X:=X) 3]
 (refine wpSs_cons.mpr ?_;tm_at "wps")
 refine ⟨by decide,_,_,.tup (.cons (.str _ ok_told) (.cons .none .nil)),.tup (.cons (.str _ ok_told) (.cons .none .nil)),?_⟩
 have e:(PyData.tuple [.str "told",.none]).eqv (.tuple [.str "told",.none]) = true:=by simp [PyData.eqv,PyData.eqvAll]
 rw [e]
 show Nrm n _ _ (X++A::B::(C1++[AV.tup [.ref (n + 1),.ref (n + 1 + 1)]])::(D++[v])::E2::(Y++[pilesAV s'.pl,s'.ns.map AV.int,s'.ms.map AV.str]))
 rw [show X++A::B::(C1++[AV.tup [.ref (n + 1),.ref (n + 1 + 1)]])::(D++[v])::E2::(Y++[pilesAV s'.pl,s'.ns.map AV.int,s'.ms.map AV.str]) = (X++A::B::(C1++[AV.tup [.ref (n + 1),.ref (n + 1 + 1)]])::(D++[v])::E2::Y)++[pilesAV s'.pl,s'.ns.map AV.int,s'.ms.map AV.str] from by simp only [List.append_assoc,List.cons_append]]
 subst hE2
 have hl1:(X++A::B::(C1++[AV.tup [.ref (n + 1),.ref (n + 1 + 1)]])::(D++[v])::(E1++[AV.ref n])::Y).length = n:=by rw [← hn];simp
 refine ⟨_,_,_,.bool true,rfl,hl1,.bool true,(RensH.self hX).app (.cons hA.rens (.cons hB.rens (.cons (hC.rens.app (.cons (.tup (.cons (.frz (not_range (Nat.le_add_right _ _)) (mid_at 1 hl1) (Rens.ints _)) (.cons (.frz (not_range (Nat.le_trans (Nat.le_add_right _ 2) (Nat.le_refl _))) (mid_at 2 hl1) (Rens.strs _)) .nil))) .nil)) (.cons (hD.app (FVs.one vk.fv)).rens (.cons (hE1.rens.app (.cons (.frz (not_range (Nat.le_refl _)) (mid_at 0 hl1) (rens_piles _)) .nil)) (RensH.self hY)))))),rfl,rfl⟩
theorem step_take (F:FnIs P f ps rest (cs_step fd fk fm fp fb)) (hp:ps.length = 3) (hr:rest.length = 3) (hk:1 < l.k) (hq:l.q = true) (hX:FH X) (hY:FH Y) (hm:MKs mv) (hT:T.length ≤ 90) (hl:mv.length ≤ 90) (hv:v ∈ mvs s.ns s.ms)
  (hd:∀ p,CallR P ⟨l.k - 1,l.q,p⟩ fd [oR C X.length,v] (lay X T s mv Y) (fun r H'=>r = .tup [.str "told",.none]∧H' = X++(T.map sA++[sA s]++[sA s'])::(mv++[v])::(T.map sS++[sS s])::mv::(T.map sP++[sP s])::Y))
  (hmv:CallJ P ⟨l.k - 1,l.q,none⟩ fm [.fl (s.ns.map AV.int),.fl (s.ms.map AV.str)] (fun v H=>v = .ref 0∧H = [mvs s.ns s.ms]) fun _=>False)
  (hpl:CallJ P ⟨l.k - 1,l.q,none⟩ fp [.fl (pilesAV s.pl),.fl (s.ms.map AV.str),v] (fun v H=>v = .ref 0∧H = [pilesAV s'.pl]) fun _=>False)
  (hbh:CallJ P ⟨l.k - 1,l.q,none⟩ fb [.fl (s.ns.map AV.int),.fl (s.ms.map AV.str),v] (Gives s'.ns s'.ms) fun _=>False) :
  CallR P l f [oR C X.length,dR X.length,v] (lay X T s mv Y) (fun r H'=>r = .bool true∧H' = lay X (T++[s]) s' (mv++[v]) Y):=by
 have k0:=Nat.sub_pos_of_lt hk
 have vk:=mvs_mk hv
 refine CallR.nrm (F.callR (Nat.lt_trans (by decide) hk) (by rw [hp];rfl) fun fr=>?_)
 rw [hr]
 unfold cs_step
 refine seqS ⟨k0,hq,⟨_,rfl⟩,(hd _).mono fun r H' ⟨e1,e2⟩=>?_⟩
 subst e1 e2
 refine step_head hq vk.not_none hT ?_
 have hl0:(lay X T s mv Y).length = (X++(T.map sA++[sA s]++[sA s'])::(mv++[v])::(T.map sS++[sS s])::mv::(T.map sP++[sP s])::Y).length:=by simp [lay]
 rw [hl0]
 have hH:FH (X++(T.map sA++[sA s]++[sA s'])::(mv++[v])::(T.map sS++[sS s])::mv::(T.map sP++[sP s])::Y):=hX.app (.cons ((FVs.sA.app (FVs.one (FV.sA s))).app (FVs.one (FV.sA s'))) (.cons (hm.snoc vk).fv (.cons (FVs.sS.app (FVs.one (FV.sS s))) (.cons hm.fv (.cons (FVs.sP.app (FVs.one (FV.sP s))) hY)))))
 unfold sp3
 refine seqS ⟨fun lc H=>lc = stL C X.length v (.tup [.str "told",.none]) s∧H = X++(T.map sA++[sA s]++[sA s'])::(mv++[v])::(T.map sS++[sS s])::mv::(T.map sP++[sP s])::Y,?_,?_⟩
 ·rintro lc H ⟨rfl,rfl⟩
  rw [lay_snoc]
  exact sp4_ok k0 rfl rfl hX hY ((FVs.sA.app (FVs.one (FV.sA s))).app (FVs.one (FV.sA s'))) (hm.snoc vk).fv (FVs.sS.app (FVs.one (FV.sS s))) hm.fv FVs.sP vk (map_small hT) (Nat.le_trans hl (by decide)) (by rw [List.length_map];exact Nat.le_trans hT (by decide)) hpl.any hbh.any
 ·unfold stL
  tm_at "wps"
  refine ⟨k0,call_mvs strs_ren hmv.any ⟨_,_,_,vk.rd (k:=8),at_end,Rds.mvs (k:=8) fun m hm=>mvs_mk hm,?_⟩⟩
  show onBool (.bool (!inM s.ns s.ms (mD v))) _
  rw [inM_yes hv]
  refine mk_true (P:=P) (l:=l) (Xf:=fun _=>False) (loc:=stL C X.length v (.tup [.str "told",.none]) s) vk rfl ?_
  refine Cut.front (fun P e=>by cases e;exact Nat.le_refl _) (stL_bv (by simp) vk.fv.bv (fun _ _=>.tup (.cons (.str _) (.cons .none .nil)))) hH.bv ⟨rfl,rfl⟩
end
open PySem PyProof.Rows PySem.SeqAt
inductive FnN (P:PC) (f a b:Nat) (cs:List CS):Prop
 | mk (ps rest:List Str):ps.length = a→rest.length = b→FnIs P f ps rest cs→FnN P f a b cs
inductive DoneN (P:PC):Prop
 | mk (ps rest:List Str):ps.length = 2→rest.length = 1→DoneIs P 18 ps rest 30 29 16→DoneN P
inductive PreN (P:PC) (f a b k:Nat) (cpre:List CS) (Sh:List Str→(Str→Option NameKind)→List PySem.Stmt→Prop):Prop
 | mk (ps rest:List Str):ps.length = a→rest.length = b→PreIs P f ps rest k cpre (Sh (ps++rest))→PreN P f a b k cpre Sh
structure C7 (P:PC) (C cN cD:Addr):Prop where
 cls:P.cls = some C
 f0:FnN P 0 3 0 cs_isnum
 f1:FnN P 1 1 4 cs_moves
 f2:FnN P 2 2 0 (cs_need_move 1 0)
 f3:FnN P 3 2 4 (cs_taken 2)
 f4:FnN P 4 3 0 cs_laid
 f5:FnN P 5 3 3 (cs_layers_behind 4)
 f6:FnN P 6 1 0 cs_copied
 f11:FnN P 11 2 2 cs_lmoves
 f12:FnN P 12 3 2 cs_behind
 f13:FnN P 13 3 3 cs_piled
 f14:FnN P 14 1 0 cs_whole
 f15:FnN P 15 2 0 (cs_is_strip 14)
 f17:FnN P 17 1 0 (cs_kinds 14)
 f18:FnN P 18 2 1 (cs_ldone 30 29)
 f19:FnN P 19 2 3 (cs_looked 26 27 28)
 f22:FnN P 22 3 3 (cs_step 18 17 11 13 12)
 f26:FnN P 26 1 0 (cs_here 6)
 f27:FnN P 27 1 0 cs_done
 f28:FnN P 28 1 0 cs_layers
 f29:FnN P 29 2 2 (cs_take 2 3 5)
 f30:FnN P 30 1 0 cs_back
 n1:PreN P 2 2 0 0 [] fun ns=>ShIf P.nt ns "NoFold" (ct1 1)
 n2:PreN P 2 2 0 1 [.ite (ct1 1) [.raise ""] []] fun ns=>ShIf P.nt ns "NoFold" (ct2 0)
 t1:PreN P 29 2 2 1 [.assignT [2,3] (.idx (.attr (.var 0) "states") (.neg (.const (.int (1)))))] fun ns=>ShCall P.nt ns 2 (.var 2) [.var 1]
 b1:PreN P 30 1 0 0 [] fun ns=>ShIf P.nt ns "NothingDone" cbk
 d18:DoneN P
 oN:P.own "NoFold" cN = some true
 mN:P.mg "NoFold" = some (.ref cN)
 oD:P.own "NothingDone" cD = some true
 mD:P.mg "NothingDone" = some (.ref cD)
 sup:P.mg "FoldError" = some (.ref P.sup)
 sN:∀ k,0 < k→∀ due:Str,due = "fold" ∨ due = "nothing"→CallJ P ⟨k,false,none⟩ 16 [.exc cN,.str due] (fun v _=>v = .bool (decide (due = "fold"))) fun _=>False
 sD:∀ k,0 < k→∀ due:Str,due = "fold" ∨ due = "nothing"→CallJ P ⟨k,false,none⟩ 16 [.exc cD,.str due] (fun v _=>v = .bool (decide (due = "nothing"))) fun _=>False
inductive Odd (s:St):AV→PyData→Prop
 | tup {us:List AV} {d:PyData}:us.length = 1 ∨ us.length = 2→FVs us→(∀ H,Rd H 9 (.tup us) d)→inM s.ns s.ms d = false→Odd s (.tup us) d
 | bt:inM s.ns s.ms dT = true→Odd s bT dT
 | txt:Odd s (.str "last") (.str "last")
 | lst:Odd s (.fl [.str "first"]) (.list [.str "first"])
theorem Odd.fv {s:St} {v:AV} {d:PyData} (h:Odd s v d):FV v:=by
 cases h with
 | tup _ h=>exact h.tup
 | bt=>exact bT_fv
 | txt=>exact fun _ _=>.str _
 | lst=>exact fun _ _=>.fl (.cons (.str _) .nil)
section
variable {P:PC} {C cN cD:Addr} {k:Nat} {q:Bool} {p:Option Pin} {X Y:AH} {T:List St} {s s':St} {mv:List AV} {v w:AV} {ns:List Int} {ms:List Str} {d:PyData}
namespace C7
variable (c:C7 P C cN cD)
include c
theorem isnum (hk:0 < k) (a b:Int) (v:AV) (hv:Pl v):CallJ P ⟨k,q,p⟩ 0 [v,.int a,.int b] (fun r H=>r = .bool (isNum a b v)∧H = []) fun _=>False:=by obtain ⟨_,_,h1,h2,F⟩:=c.f0;exact isnum_ok F h1 h2 hk hv
theorem moves (hk:0 < k) (g:GS ns ms):CallJ P ⟨k,true,p⟩ 1 [stV ns ms] (fun v H=>v = .ref 0∧H = [mvs ns ms]) fun _=>False:=by obtain ⟨_,_,h1,h2,F⟩:=c.f1;exact moves_ok F h1 h2 hk rfl g
theorem lmoves (hk:0 < k) (g:GS ns ms):CallJ P ⟨k,true,p⟩ 11 [.fl (ns.map AV.int),.fl (ms.map AV.str)] (fun v H=>v = .ref 0∧H = [mvs ns ms]) fun _=>False:=by obtain ⟨_,_,h1,h2,F⟩:=c.f11;exact lmoves_ok F h1 h2 hk rfl g
theorem need (hk:1 < k) (g:GS ns ms) (hv:v ∈ mvs ns ms):CallJ P ⟨k,true,p⟩ 2 [stV ns ms,v] (fun r H=>r = .none∧H = []) fun _=>False:=
 by obtain ⟨_,_,h1,h2,F⟩:=c.f2;exact need_ok F h1 h2 hk rfl g hv (c.moves (Nat.sub_pos_of_lt hk) g) (c.isnum (Nat.sub_pos_of_lt hk))
theorem needX (hk:1 < k) (g:GS s.ns s.ms) (h:Odd s v d):CallX P ⟨k,true,none⟩ 2 [sS s,v] cN:=by
 have k0:=Nat.sub_pos_of_lt hk
 obtain ⟨_,_,a1,a2,F1⟩:=c.n1
 obtain ⟨_,_,b1,b2,F2⟩:=c.n2
 cases h with
 | tup hl _ hr hi=>exact need_x1 F1 a1 a2 (Nat.lt_trans (by decide) hk) rfl c.oN c.mN (ct1_tup k0 rfl (c.moves k0 g) hl (hr _) (by rw [hi];rfl))
 | bt hi=>exact need_x2 F2 b1 b2 hk rfl c.oN c.mN g hi (c.moves k0 g) (c.isnum k0)
 | txt=>exact need_x1 F1 a1 a2 (Nat.lt_trans (by decide) hk) rfl c.oN c.mN rfl
 | lst=>exact need_x1 F1 a1 a2 (Nat.lt_trans (by decide) hk) rfl c.oN c.mN rfl
theorem taken {pl pl':List (List Int)} {ns':List Int} {ms':List Str} (hk:2 < k) (g:GS ns ms) (hv:v ∈ mvs ns ms) (m:MS ns ms pl v ns' ms' pl'):CallJ P ⟨k,true,p⟩ 3 [stV ns ms,v] (Gives ns' ms') fun _=>False:=
 by obtain ⟨_,_,h1,h2,F⟩:=c.f3;exact taken_ok F h1 h2 (Nat.lt_trans (by decide) hk) rfl g m (c.need (Nat.lt_sub_of_add_lt hk) g hv)
theorem layersB {pl pl':List (List Int)} {ns':List Int} {ms':List Str} (hk:1 < k) (g:GS ns ms) (gp:GP pl) (m:MS ns ms pl v ns' ms' pl'):CallJ P ⟨k,true,p⟩ 5 [stV ns ms,.fl (pilesAV pl),v] (fun v H=>v = .ref 0∧H = [pilesAV pl']) fun _=>False:=
 by obtain ⟨_,_,h1,h2,F⟩:=c.f5;exact layers_behind_ok F h1 h2 hk g gp m fun _ _ _ hm a b=>by obtain ⟨_,_,h1,h2,F⟩:=c.f4;exact laid_ok F h1 h2 (Nat.sub_pos_of_lt hk) hm a b
theorem behind {pl pl':List (List Int)} {ns':List Int} {ms':List Str} (hk:0 < k) (g:GS ns ms) (m:MS ns ms pl v ns' ms' pl'):CallJ P ⟨k,true,p⟩ 12 [.fl (ns.map AV.int),.fl (ms.map AV.str),v] (Gives ns' ms') fun _=>False:=by obtain ⟨_,_,h1,h2,F⟩:=c.f12;exact behind_ok F h1 h2 hk g m
theorem piled {pl pl':List (List Int)} {ns':List Int} {ms':List Str} (hk:0 < k) (g:GS ns ms) (gp:GP pl) (m:MS ns ms pl v ns' ms' pl'):CallJ P ⟨k,true,p⟩ 13 [.fl (pilesAV pl),.fl (ms.map AV.str),v] (fun v H=>v = .ref 0∧H = [pilesAV pl']) fun _=>False:=by obtain ⟨_,_,h1,h2,F⟩:=c.f13;exact piled_ok F h1 h2 hk rfl g gp m
theorem whole (hk:0 < k) (n:Int):CallJ P ⟨k,q,p⟩ 14 [.int n] (fun v H=>v = .bool true∧H = []) fun _=>False:=by obtain ⟨_,_,h1,h2,F⟩:=c.f14;exact whole_ok F h1 h2 hk n
theorem kinds (hk:1 < k) (hv:MK v):CallJ P ⟨k,true,p⟩ 17 [v] (fun v H=>v = .bool true∧H = []) fun _=>False:=by obtain ⟨_,_,h1,h2,F⟩:=c.f17;exact kinds_ok F h1 h2 hk rfl hv fun n=>c.whole (Nat.sub_pos_of_lt hk) n
theorem isStrip (hk:1 < k) (g:GS ns ms):CallJ P ⟨k,true,p⟩ 15 [stV ns ms,stV ns ms] (fun v H=>v = .bool true∧H = []) fun _=>False:=
 by obtain ⟨_,_,h1,h2,F⟩:=c.f15;exact CallJ.only (is_strip_ok F h1 h2 hk rfl (fun n=>c.whole (Nat.sub_pos_of_lt hk) n) (Nat.le_trans g.most (by decide)) (by have:=g.len;have:=g.most;(first | lia | omega)) fun m hm=>mk_ok (g.marks m hm))
theorem looked {t:Int} (hk:3 < k) (hT:T.length ≤ 100) (hm:MKs mv) (hl:mv.length ≤ 100) (g:GT s.ns s.ms s.pl):CallJ P ⟨k,true,p⟩ 19 [oF C T s mv,.int t] (fun v H=>v = lV3∧H = lH s mv) fun _=>False:=by
 obtain ⟨_,_,h1,h2,F⟩:=c.f19
 obtain ⟨_,_,a1,a2,F6⟩:=c.f6
 obtain ⟨_,_,b1,b2,F26⟩:=c.f26
 obtain ⟨_,_,d1,d2,F27⟩:=c.f27
 obtain ⟨_,_,e1,e2,F28⟩:=c.f28
 exact looked_ok F h1 h2 (kl hk (by decide)) c.cls hm (here_ok F26 b1 b2 (kd hk (by decide)) c.cls hT (copied_ok F6 a1 a2 (kd2 hk (by decide)) rfl g.gs)) (done_ok F27 d1 d2 (kd hk (by decide)) rfl c.cls hl) (layers_ok F28 e1 e2 (kd hk (by decide)) rfl c.cls hT g.gp)
theorem doneTake (hk:5 < k) (hX:FH X) (hY:FH Y) (hT:T.length ≤ 90) (hm:MKs mv) (hl:mv.length ≤ 90) (g:GT s.ns s.ms s.pl) (hv:v ∈ mvs s.ns s.ms) (m:MS s.ns s.ms s.pl v s'.ns s'.ms s'.pl) (p:Option Pin) :
  CallR P ⟨k,true,p⟩ 18 [oR C X.length,v] (X++(T.map sA++[sA s])::mv::Y) (fun r H'=>r = .tup [.str "told",.none]∧H' = X++(T.map sA++[sA s]++[sA s'])::(mv++[v])::Y):=by
 obtain ⟨_,_,h1,h2,F⟩:=c.f18
 obtain ⟨_,_,a1,a2,F29⟩:=c.f29
 have e:(T.map sA).length ≤ 100:=by rw [List.length_map];exact Nat.le_trans hT (by decide)
 exact ldone_take F h1 h2 (kl hk (by decide)) rfl c.cls (mvs_mk hv) fun p=>take_ok F29 a1 a2 (kd hk (by decide)) rfl c.cls hX hY FVs.sA e (Nat.le_trans hl (by decide)) hm (mvs_mk hv) (c.need (kd2 hk (by decide)) g.gs hv) (c.taken (kd2 hk (by decide)) g.gs hv m) (c.layersB (kd2 hk (by decide)) g.gs g.gp m)
theorem doneBack {A:List AV} (hk:5 < k) (hX:FH X) (hY:FH Y) (hA:FVs A) (hT:A.length ≤ 100) (hm:MKs mv) (hl:mv.length ≤ 90) (hv:MK v) (p:Option Pin) :
  CallR P ⟨k,true,p⟩ 18 [oR C X.length,.none] (X++(A++[sA s])::(mv++[v])::Y) (fun r H'=>r = .tup [.str "told",v]∧H' = X++A::mv::Y):=by
 obtain ⟨_,_,h1,h2,F⟩:=c.f18
 obtain ⟨_,_,a1,a2,F30⟩:=c.f30
 exact ldone_back F h1 h2 (kl hk (by decide)) rfl c.cls fun p=>back_ok F30 a1 a2 (kd hk (by decide)) c.cls hX hY hA hT (Nat.le_trans hl (by decide)) hm hv
theorem doneOdd (hk:5 < k) (hT:T.length ≤ 90) (hm:MKs mv) (g:GT s.ns s.ms s.pl) (ho:Odd s w d) (hv:isNone v = false) (hr:Ren [] (X++(T.map sA++[sA s])::mv::Y) v w) (p:Option Pin) :
  CallR P ⟨k,true,p⟩ 18 [oR C X.length,v] (X++(T.map sA++[sA s])::mv::Y) (fun r H'=>r = .tup [.str "refused",.fl [.str "fold"]]∧H' = X++(T.map sA++[sA s])::mv::Y):=by
 obtain ⟨_,_,h1,h2,D⟩:=c.d18
 obtain ⟨_,_,a1,a2,F⟩:=c.t1
 have e:(T.map sA).length ≤ 100:=by rw [List.length_map];exact Nat.le_trans hT (by decide)
 refine done_raise D h1 h2 (kl hk (by decide)) c.sup c.oN ⟨rfl,c.cls,by decide,by decide⟩ ?_ (c.sN _ (kd hk (by decide))) (.inl rfl)
 rw [hv]
 exact ⟨_,.cons (oR_frz hm (FVs.sA.app (FVs.one (FV.sA s)))) (.cons hr .nil),take_x F a1 a2 (kd hk (by decide)) rfl c.cls e ho.fv (c.needX (kd2 hk (by decide)) g.gs ho)⟩
theorem doneNone {A:List AV} (hk:5 < k) (hA:FVs A) (p:Option Pin) :
  CallR P ⟨k,true,p⟩ 18 [oR C X.length,.none] (X++A::[]::Y) (fun r H'=>r = .tup [.str "refused",.fl [.str "nothing"]]∧H' = X++A::[]::Y):=by
 obtain ⟨_,_,h1,h2,D⟩:=c.d18
 obtain ⟨_,_,a1,a2,F⟩:=c.b1
 refine done_raise D h1 h2 (kl hk (by decide)) c.sup c.oD ⟨rfl,c.cls,by decide,by decide⟩ ?_ (c.sD _ (kd hk (by decide))) (.inr rfl)
 exact ⟨_,.cons (oR_frz (fun _ h=>nomatch h) hA) .nil,back_x F a1 a2 (kd hk (by decide)) rfl c.cls c.oD c.mD⟩
end C7
end
open PySem PyProof.Rows PySem.SeqAt
inductive MI:List St→St→List AV→Prop
 | one {s:St}:GT s.ns s.ms s.pl→MI [] s []
 | snoc {T:List St} {s s':St} {mv:List AV} {v:AV}:MI T s mv→GT s'.ns s'.ms s'.pl→MK v→s'.ns.length < s.ns.length→MI (T++[s]) s' (mv++[v])
section
variable {T:List St} {s:St} {mv:List AV}
theorem MI.gt (h:MI T s mv):GT s.ns s.ms s.pl:=by cases h<;>assumption
theorem MI.mks (h:MI T s mv):MKs mv:=by
 induction h with
 | one=>exact fun _ h=>nomatch h
 | snoc _ _ hv _ ih=>exact ih.snoc hv
theorem MI.len (h:MI T s mv):mv.length = T.length∧T.length + s.ns.length ≤ 30:=by
 induction h with
 | one g=>exact ⟨rfl,by have:=g.gs.most;simpa using this⟩
 | snoc _ g _ hl ih=>
  rw [List.length_append,List.length_append]
  exact ⟨congrArg (· + 1) ih.1,by simp only [List.length_cons,List.length_nil];(first | lia | omega)⟩
theorem MI.t90 (h:MI T s mv):T.length ≤ 90:=by have:=h.len;(first | lia | omega)
theorem MI.m90 (h:MI T s mv):mv.length ≤ 90:=by have:=h.len;omega
end
inductive VA (s:St) (H:AH):AV→Prop
 | none:VA s H .none
 | mv {v:AV}:v ∈ mvs s.ns s.ms→VA s H v
 | odd {v w:AV} {d:PyData}:Odd s w d→isNone v = false→Ren [] H v w→(∀ ex,Rd (H++ex) 9 v d)→(inM s.ns s.ms d = false ∨ v = bT)→VA s H v
inductive SE (X:AH) (s:St) (Y:AH) (v r:AV) (H':AH):Prop
 | mk (e:r = .bool true) (T':List St) (s':St) (mv':List AV):MI T' s' mv'→H' = lay X T' s' mv' Y→(v ∈ mvs s.ns s.ms→s'.ns.length < s.ns.length)→SE X s Y v r H'
section
variable {P:PC} {C cN cD:Addr} {k:Nat} {X Y:AH} {T:List St} {s:St} {mv:List AV} {v:AV}
theorem Rd.str_inv {H:AH} {k:Nat} {x:Str} {d:PyData} (r:Rd H k (.str x) d):d = .str x:=by cases r;rfl
theorem Rd.int_inv {H:AH} {k:Nat} {i:Int} {d:PyData} (r:Rd H k (.int i) d):d = .int i:=by cases r;rfl
theorem Rd.tup_inv {H:AH} {k:Nat} {vs:List AV} {d:PyData} (r:Rd H k (.tup vs) d):∃ k' ds,d = .tuple ds∧Rds H k' vs ds:=by cases r with | tup r=>exact ⟨_,_,rfl,r⟩
theorem Rds.nil_inv {H:AH} {k:Nat} {ds:List PyData} (r:Rds H k [] ds):ds = []:=by cases r;rfl
theorem Rds.cons_inv {H:AH} {k:Nat} {v:AV} {vs:List AV} {ds:List PyData} (r:Rds H k (v::vs) ds):∃ d es,ds = d::es∧Rd H k v d∧Rds H k vs es:=by cases r with | cons a b=>exact ⟨_,_,rfl,a,b⟩
theorem MK.uniq {H:AH} {k:Nat} {d:PyData} (h:MK v) (r:Rd H k v d):d = mD v:=by
 have one:∀ {x:Str} {d:PyData},Rd H k (.tup [.str x]) d→d = .tuple [.str x]:=fun r=>by
  obtain ⟨_,_,rfl,r1⟩:=r.tup_inv
  obtain ⟨_,_,rfl,a,r2⟩:=r1.cons_inv
  rw [a.str_inv,r2.nil_inv]
 cases h with
 | f=>exact one r
 | l=>exact one r
 | p j=>
  obtain ⟨_,_,rfl,r1⟩:=r.tup_inv
  obtain ⟨_,_,rfl,a,r2⟩:=r1.cons_inv
  obtain ⟨_,_,rfl,b,r3⟩:=r2.cons_inv
  rw [a.str_inv,b.int_inv,r3.nil_inv]
  rfl
theorem none_off (h:AV.none ∈ mvs s.ns s.ms):False:=by cases mvs_mk h
theorem C7.step (c:C7 P C cN cD) (hk:6 < k) (hX:FH X) (hY:FH Y) (M:MI T s mv) (ha:VA s (lay X T s mv Y) v) (p:Option Pin):CallR P ⟨k,true,p⟩ 22 [oR C X.length,dR X.length,v] (lay X T s mv Y) (SE X s Y v):=by
 obtain ⟨_,_,h1,h2,F⟩:=c.f22
 have k1:1 < k:=kl hk (by decide)
 have k5:5 < k - 1:=kd hk (by decide)
 have g:=M.gt
 cases ha with
 | none=>
  cases M with
  | one g=>exact (step_none F h1 h2 k1 rfl hX hY fun p=>c.doneNone (X:=X) (Y:=_::[]::_::Y) k5 (FVs.one (FV.sA s)) p).mono fun r H' ⟨e1,e2⟩=>⟨e1,_,_,_,.one g,e2,fun h=>(none_off h).elim⟩
  | snoc M g hv hl=>
   rename_i T s0 mv v
   have eA:((T++[s0]).map sA) = T.map sA++[sA s0]:=List.map_append
   refine (step_back F h1 h2 k1 rfl hX hY M.mks hv M.t90 M.m90 (fun p=>?_) (c.kinds (kd hk (by decide)) hv)).mono fun r H' ⟨e1,e2⟩=>⟨e1,_,_,_,M,e2,fun h=>(none_off h).elim⟩
   rw [lay_snoc]
   exact c.doneBack k5 hX (.cons ((FVs.sS.app (FVs.one (FV.sS s0))).app (FVs.one (FV.sS s))) (.cons (M.mks.snoc hv).fv (.cons ((FVs.sP.app (FVs.one (FV.sP s0))).app (FVs.one (FV.sP s))) hY))) (FVs.sA.app (FVs.one (FV.sA s0))) (map_small M.t90) M.mks M.m90 hv p
 | mv hv=>
  obtain ⟨ns',ms',pl',m,g',hl⟩:=MS.of g hv
  refine (step_take (s':=⟨ns',ms',pl'⟩) F h1 h2 k1 rfl hX hY M.mks M.t90 M.m90 hv (fun p=>?_) (c.lmoves (kd hk (by decide)) g.gs) (c.piled (kd hk (by decide)) g.gs g.gp m) (c.behind (kd hk (by decide)) g.gs m)).mono fun r H' ⟨e1,e2⟩=>⟨e1,_,_,_,.snoc M g' (mvs_mk hv) hl,e2,fun _=>hl⟩
  exact c.doneTake (s':=⟨ns',ms',pl'⟩) k5 hX (.cons (FVs.sS.app (FVs.one (FV.sS s))) (.cons M.mks.fv (.cons (FVs.sP.app (FVs.one (FV.sP s))) hY))) M.t90 M.mks M.m90 g hv m p
 | odd ho hn hr hd hi=>
  refine (step_odd F h1 h2 k1 rfl hX hY M.mks M.t90 hn hd hi (fun p=>c.doneOdd k5 M.t90 M.mks g ho hn hr p) (c.lmoves (kd hk (by decide)) g.gs)).mono fun r H' ⟨e1,e2⟩=>⟨e1,_,_,_,M,e2,fun h=>?_⟩
  rcases hi with hi | rfl
  ·have h2:=inM_yes h
   have h3:=(mvs_mk h).uniq (hd [])
   rw [h3,h2] at hi
   cases hi
  ·cases mvs_mk h
end
open PySem PyProof.Rows PySem.SeqAt
noncomputable def dd1:CS:=.ite (.cmp .Eq (.var 5) (.const (.int (7))))
  [      .assign 6 (.idx (.lst [(.tup [(.const (.str "pleat")),(.prim .len [(.var 3)])]),(.tup [(.const (.str "first")),(.const (.int (0)))]),(.const (.str "last")),(.const .none),(.tup [(.const (.str "pleat")),(.const (.bool true))]),(.lst [(.const (.str "first"))])]) (.bin .Mod (.bin .FloorDiv (.var 1) (.const (.int (16)))) (.const (.int (6))))),
   .ite (.cmp .IsNot (.var 6) (.const .none))
    [          .ret (.var 6)]
    []]
  []
noncomputable def dd2:List CS:=[
 .ite (.or (.cmp .Gt (.var 5) (.const (.int (5)))) (.cmp .Eq (.var 4) (.lst [])))
  [      .ret (.const .none)]
  [],
 .ret (.idx (.var 4) (.bin .Mod (.bin .FloorDiv (.var 1) (.const (.int (16)))) (.prim .len [(.var 4)])))]
noncomputable def cs_deed (fm:Nat):List CS:=
 .assignT [2,3] (.idx (.idx (.var 0) (.const (.str "strips"))) (.neg (.const (.int (1))))) ::
 .assign 4 (.call fm [(.var 2),(.var 3)]) ::
 .assign 5 (.bin .Mod (.bin .FloorDiv (.var 1) (.const (.int (2)))) (.const (.int (8))))::dd1::dd2
inductive DK (s:St):AV→AH→Prop
 | none:DK s .none []
 | mv {v:AV}:v ∈ mvs s.ns s.ms→DK s v []
 | odd {v:AV} {d:PyData}:Odd s v d→isNone v = false→(inM s.ns s.ms d = false ∨ v = bT)→(∀ H,Rd H 9 v d)→NoFl v→DK s v []
 | lst:DK s (.ref 0) [[.str "first"]]
noncomputable def dF (T:List St) (s:St) (mv:List AV):AV:=.dict ["strips","moves","piles"] [.fl (T.map sS++[sS s]),.fl mv,.fl (T.map sP++[sP s])]
noncomputable def DR (s:St) (v:AV) (H:AH):Prop:=RenQ (DK s) v H
section
variable {P:PC} {l:Lv} {f fm:Nat} {ps rest:List Str} {Xc:Str→Prop} {T:List St} {s:St} {mv:List AV} {v:AV} {H:AH} {cell:Int}
theorem DR.frz {H:AH} (hv:FV v) (h:DK s v []):DR s v H:=⟨[],[],v,RenH.nil,hv _ _,h⟩
theorem inM_len:inM s.ns s.ms (mD (pV s.ms.length)) = false:=inM_mk (.p _) fun h=>by
 rcases mvs_mem h with ⟨e,_⟩ | ⟨e,_⟩ | ⟨k,e,hk,_⟩
 ·cases e
 ·cases e
 ·have:(s.ms.length:Int) = (k:Int):=by simpa [pV] using e
  omega
noncomputable def d0:PyData:=.tuple [.str "first",.int 0]
theorem inM_d0:inM s.ns s.ms d0 = false:=inM_no fun m hm=>by
 have h:MK m:=mvs_mk hm
 have e:("pleat" : Str) ≠ "first":=by decide
 induction h<;>simp [mD_f,mD_l,mD_p,d0,PyData.eqv,PyData.eqvAll,e]
theorem rd_d0 {H:AH}:Rd H 9 (.tup [.str "first",.int 0]) d0:=.tup (k:=8) (.cons (.str _ strOk_first) (.cons (.int 0) .nil))
theorem inM_txt {x:Str}:inM s.ns s.ms (.str x) = false:=inM_no fun m hm=>by
 have h:MK m:=mvs_mk hm
 induction h<;>simp [mD_f,mD_l,mD_p,PyData.eqv]
theorem inM_lst {L:List PyData}:inM s.ns s.ms (.list L) = false:=inM_no fun m hm=>by
 have h:MK m:=mvs_mk hm
 induction h<;>simp [mD_f,mD_l,mD_p,PyData.eqv]
theorem odd_ret (h:v = pV s.ms.length ∨ v = .tup [.str "first",.int 0] ∨ v = .str "last" ∨ v = bT):DR s v H:=by
 rcases h with rfl | rfl | rfl | rfl
 ·exact .frz (MK.fv (.p _)) (.odd (.tup (.inr rfl) (fun w hw=>by
   simp only [List.mem_cons,List.not_mem_nil,or_false] at hw
   rcases hw with rfl | rfl
   ·exact fun _ _=>.str _
   ·exact fun _ _=>.int _) (fun H=>(MK.p _).rd (k:=8)) inM_len) rfl (.inl inM_len) (fun H=>(MK.p _).rd (k:=8)) (MK.nofl (.p _)))
 ·exact .frz (fun _ _=>.tup (.cons (.str _) (.cons (.int _) .nil))) (.odd (.tup (.inr rfl) (fun w hw=>by
   simp only [List.mem_cons,List.not_mem_nil,or_false] at hw
   rcases hw with rfl | rfl
   ·exact fun _ _=>.str _
   ·exact fun _ _=>.int _) (fun H=>rd_d0) inM_d0) rfl (.inl inM_d0) (fun H=>rd_d0) (.tup (.cons (.str _) (.cons (.int _) .nil))))
 ·exact .frz (fun _ _=>.str _) (.odd .txt rfl (.inl inM_txt) (fun H=>.str _ strOk_last) (.str _))
 ·refine .frz bT_fv ?_
  cases hi:inM s.ns s.ms dT with
  | true=>exact .odd (.bt hi) rfl (.inr rfl) (fun H=>bT_rd (k:=8)) (.tup (.cons (.str _) (.cons (.bool _) .nil)))
  | false=>
   exact .odd (.tup (.inr rfl) (fun w hw=>by
    simp only [List.mem_cons,List.not_mem_nil,or_false] at hw
    rcases hw with rfl | rfl
    ·exact fun _ _=>.str _
    ·exact fun _ _=>.bool _) (fun H=>bT_rd (k:=8)) hi) rfl (.inr rfl) (fun H=>bT_rd (k:=8)) (.tup (.cons (.str _) (.cons (.bool _) .nil)))
noncomputable def dL (T:List St) (s:St) (mv:List AV) (cell kd:Int) (o:Option AV):Loc:=[some (dF T s mv),some (.int cell),some (.fl (s.ns.map AV.int)),some (.fl (s.ms.map AV.str)),some (.ref 0),some (.int kd),o]
theorem dd1_ok {kd:Int} {Qn:Loc→AH→Prop} {Qx:Str→Loc→AH→Prop} (hq:l.q = true) (g:GS s.ns s.ms) (h:∀ o ex,Qn (dL T s mv cell kd o) (mvs s.ns s.ms::ex)):wpS P l dd1 (dL T s mv cell kd none) [mvs s.ns s.ms] Qn (DR s) Qx:=by
 unfold dd1 dL
 refine ⟨fun lc H=>∃ o ex,lc = dL T s mv cell kd o∧H = mvs s.ns s.ms::ex,fun _ _ ⟨o,ex,a,b⟩=>a ▸ b ▸ h o ex,?_⟩
 tm_at "wps"
 refine brk (fun _=>?_) fun _=>Cut.here ⟨none,[],rfl,rfl⟩
 (refine wpSs_cons.mpr ?_;tm_at "wps")
 rw [List.length_map]
 refine ⟨hq,g.sm,by decide,by decide,by decide,by decide,by show 6 ≤ smallN;decide,⟨by decide,by decide⟩,by decide,i_any (vs:=[.tup [.str "pleat",.int s.ms.length],.tup [.str "first",.int 0],.str "last",.none,.tup [.str "pleat",.bool true],.ref 1]) rfl (by show 6 ≤ smallN;decide) (Int.emod_nonneg _ (by decide)) (Int.emod_lt_of_pos _ (by decide)) fun w hw=>?_⟩
 (refine wpSs_cons.mpr ?_;tm_at "wps")
 refine ⟨fun lc H=>∃ o ex,lc = dL T s mv cell kd o∧H = mvs s.ns s.ms::ex,fun _ _ h=>Cut.here h,?_⟩
 simp only [List.mem_cons,List.not_mem_nil,or_false] at hw
 rcases hw with rfl | rfl | rfl | rfl | rfl | rfl
 ·exact odd_ret (.inl rfl)
 ·exact odd_ret (.inr (.inl rfl))
 ·exact odd_ret (.inr (.inr (.inl rfl)))
 ·exact Cut.here ⟨_,_,rfl,rfl⟩
 ·exact odd_ret (.inr (.inr (.inr rfl)))
 ·exact ⟨[1],_,.ref 0,RenH.one rfl (.cons (.str _) .nil),.ref rfl,.lst⟩
theorem deed_ok (F:FnIs P f ps rest (cs_deed fm)) (hp:ps.length = 2) (hr:rest.length = 5) (hk:1 < l.k) (hq:l.q = true) (hT:T.length ≤ 90) (g:GS s.ns s.ms) (hm:CallJ P ⟨l.k - 1,l.q,none⟩ fm [.fl (s.ns.map AV.int),.fl (s.ms.map AV.str)] (fun v H=>v = .ref 0∧H = [mvs s.ns s.ms]) Xc):CallJ P l f [dF T s mv,.int cell] (DK s) Xc:=by
 refine CallJ.ren (F.call (Nat.lt_trans (by decide) hk) (by rw [hp];rfl) ?_)
 rw [hr]
 show wpSs P _ (cs_deed fm) _ _ _ (DR s) _
 have hs:(mvs s.ns s.ms).length ≤ smallN:=Nat.le_trans (mvs_len _ _) (by have:=g.len;have:=g.most;exact Nat.le_trans (show s.ms.length + 1 + 1 ≤ 40 by (first | lia | omega)) (by decide))
 unfold cs_deed
 (refine wpSs_cons.mpr ?_;tm_at "wps")
 refine ⟨hq,⟨_,_,_,rfl,rfl,i_snoc (A:=T.map sS) rfl (snoc_small (by rw [List.length_map];exact Nat.le_trans hT (by decide))) ?_⟩⟩
 rw [seq_sS]
 (refine wpSs_cons.mpr ?_;tm_at "wps")
 refine ⟨Nat.sub_pos_of_lt hk,call_mvs strs_ren hm ?_⟩
 (refine wpSs_cons.mpr ?_;tm_at "wps")
 refine ⟨⟨by decide,by decide⟩,by decide,?_⟩
 refine dd1_ok hq g fun o ex=>?_
 unfold dd2 dL
 (refine wpSs_cons.mpr ?_;tm_at "wps")
 refine ⟨fun lc H=>lc = dL T s mv cell (cell / 2 % 8) o∧(∃ ex,H = mvs s.ns s.ms::ex)∧mvs s.ns s.ms ≠ [],?_,?_⟩
 ·rintro lc H ⟨rfl,⟨ex,rfl⟩,hne⟩
  have h0:0 < (mvs s.ns s.ms).length:=List.length_pos_iff.mpr hne
  unfold dL
  (refine wpSs_cons.mpr ?_;tm_at "wps")
  refine ⟨⟨by decide,by decide⟩,hq,hs,Int.natCast_pos.mpr h0,i_any rfl hs (Int.emod_nonneg _ (Int.ne_of_gt (Int.natCast_pos.mpr h0))) (Int.emod_lt_of_pos _ (Int.natCast_pos.mpr h0)) fun w hw=>?_⟩
  exact .frz (mvs_mk hw).fv (.mv hw)
 ·refine br_if (fun _=>.frz (fun _ _=>.none) .none) fun _=>⟨by decide,_,_,.ref rfl (Rds.mvs fun m h=>mvs_mk h),.ref at_end .nil,?_⟩
  cases q:mvs s.ns s.ms with
  | nil=>exact .frz (fun _ _=>.none) .none
  | cons a b=>exact Cut.here ⟨rfl,⟨_,rfl⟩,List.cons_ne_nil _ _⟩
end
open PySem PyProof.Rows PySem.SeqAt
noncomputable def sn1 (fi:Nat):CS:=.ite (.or (.not (.call fi [(.var 4),(.idx (.idx (.var 1) (.const (.str "strips"))) (.neg (.const (.int (1)))))])) (.or (.cmp .NotEq (.var 5) (.idx (.var 1) (.const (.str "moves")))) (.cmp .NotEq (.var 6) (.idx (.idx (.var 1) (.const (.str "piles"))) (.neg (.const (.int (1))))))))
  [      .ret (.const (.bool false))]
  []
noncomputable def sn2:CS:=.ite (.or (.not (.isin .list (.var 5))) (.or (.not (.isin .list (.var 6))) (.not (.prim .all [(.comp (.isin .list (.var 0)) [] [] 0 (.var 6))]))))
  [      .ret (.const (.bool false))]
  []
noncomputable def sn3 (fk:Nat):CS:=.ite (.not (.prim .all [(.comp (.call fk [(.var 0)]) [] [] 0 (.var 5))]))
  [      .ret (.const (.bool false))]
  []
noncomputable def sn4b (fw:Nat):CS:=.ite (.not (.prim .all [(.comp (.call fw [(.var 0)]) [] [] 0 (.var 7))]))
    [          .ret (.const (.bool false))]
    []
noncomputable def sn4 (fw:Nat):CS:=.for1 7 (.var 6) [sn4b fw]
noncomputable def all3:CE:=.bin .Add (.var 6) (.lst [(.idx (.var 4) (.const (.int (0)))),(.idx (.var 4) (.const (.int (1)))),(.var 5)])
noncomputable def sn5:CS:=.for1 7 all3 [.mut .append (.var 7) [(.const (.int (99)))]]
noncomputable def sn6:List CS:=[
 .mut .append (.var 6) [(.lst [])],
 .assign 8 all3,
 .mut .append (.var 2) [(.tup [(.var 6),(.prim .list [(.var 6)]),(.var 8),(.comp (.prim .list [(.var 0)]) [] [] 0 (.var 8))])],
 .ret (.const (.bool true))]
noncomputable def cs_stands (fl fi fk fw:Nat):List CS:=.assignT [4,5,6] (.call fl [(.var 0),(.var 3)])::sn1 fi::sn2::sn3 fk::sn4 fw::sn5::sn6
noncomputable def wL (C:Addr) (n hh:Nat) (t:Int) (h:Nat) (o7 o8:Option AV):Loc:=[some (oR C n),some (dR n),some (.ref hh),some (.int t),some (.tup [.ref h,.ref (h + 1)]),some (.ref (h + 2)),some (.ref (h + 3)),o7,o8]
noncomputable def nB (h:Nat) (s:St) (mv:List AV):AH:=[s.ns.map AV.int,s.ms.map AV.str,mv,refs (h + 4) s.pl.length]++rowsH s.pl
theorem Rd.refl {H:AH} {k:Nat} {v:AV} {d:PyData} (r:Rd H k v d):d.eqv d = true:=
 Rd.rec (motive_1:=fun _ _ d _=>d.eqv d = true) (motive_2:=fun _ _ d _=>PyData.eqvAll d d = true) (by simp [PyData.eqv]) (fun _=>by simp [PyData.eqv]) (fun _=>by simp [PyData.eqv]) (fun _ _=>by simp [PyData.eqv]) (fun _ q=>by simp [PyData.eqv,q]) (fun _ q=>by simp [PyData.eqv,q]) (fun _ _ q=>by simp [PyData.eqv,q]) (by simp [PyData.eqvAll]) (fun _ _ h1 h2=>by simp [PyData.eqvAll,h1,h2]) r
section
variable {H:AH}
theorem rds_rows {k:Nat}:∀ {pl:List (List Int)} {r:Nat},(∀ i xs,(rowsH pl)[i]? = some xs→H[r + i]? = some xs)→Rds H (k + 1) ((List.range' r pl.length).map AV.ref) (pl.map fun p=>.list (p.map PyData.int))
 | [],_,_=>.nil
 | p::pl,r,h=>by
  refine .cons (.ref (h 0 _ rfl) (Rds.ints p)) (rds_rows (pl:=pl) (r:=r + 1) fun i xs e=>?_)
  rw [Nat.add_assoc,Nat.add_comm 1 i]
  exact h (i + 1) xs e
theorem rds_piles {k:Nat} {pl:List (List Int)}:Rds H (k + 1) (pilesAV pl) (pl.map fun p=>.list (p.map PyData.int)):=Rds.ofAll fun p _=>.fl (Rds.ints p)
theorem rens_rows {φ:List Nat}:∀ {pl:List (List Int)} {r:Nat},(∀ i,r ≤ i→i ∉ φ)→(∀ i xs,(rowsH pl)[i]? = some xs→H[r + i]? = some xs)→Rens φ H ((List.range' r pl.length).map AV.ref) (pilesAV pl)
 | [],_,_,_=>.nil
 | p::pl,r,h0,h=>by
  refine .cons (.frz (h0 _ (Nat.le_refl _)) (h 0 _ rfl) (Rens.ints p)) (rens_rows (pl:=pl) (r:=r + 1) (fun i hi=>h0 i (Nat.le_of_succ_le hi)) fun i xs e=>?_)
  rw [Nat.add_assoc,Nat.add_comm 1 i]
  exact h (i + 1) xs e
end
section
variable {P:PC} {l:Lv} {f fl fi fk fw:Nat} {H₀ H:AH} {Xc:Str→Prop} {C:Addr} {T:List St} {s:St} {mv:List AV} {v:AV} {Q:AV→AH→Prop} {n h hh:Nat} {t:Int} {o7:Option AV} {loc:Loc}
theorem callTrueF {vs vs':List AV} (hr:Rens [] H vs vs') (hc:CallJ P l f vs' (fun r H=>r = .bool true∧H = []) Xc) (h:Q (.bool true) H):CallP P l f vs H Q Xc:=
 CallP.frz hr hc (fun v Hc ⟨e1,e2⟩=>by subst e1 e2;exact ⟨.bool _,fun _ h=>nomatch h⟩) fun v Hc ⟨e1,e2⟩=>by
  subst e1 e2
  rw [List.map_nil,List.append_nil]
  exact h
theorem all_true {elt it:CE} {vs items:List AV} (hq:l.q = true) (hit:∀ K:AV→AH→Prop,K v H→wpE P l Xc it loc H K) (hv:iterOfC H v = some vs) (hl:vs.length ≤ smallN) (hr:Rens [] H vs items) (he:∀ x ∈ items,∀ K:AV→AH→Prop,K (.bool true) []→wpE P l Xc elt [some x] [] K) (h:∀ ex,Q (.bool true) (H++ex)):wpE P l Xc (.prim .all [.comp elt [] [] 0 it]) loc H Q:=by
 refine ⟨hq,hq,hit _ ⟨vs,items,[],hv,hl,hr,.nil,comp_map (fun _=>.bool true) (fun x hx k hk=>opt_bind0 hk) (fun x hx n k hk=>opt_bind0 (he x hx _ (eltK.frz (.bool _) (.inr (.bool _)) hk))) ?_⟩⟩
 refine ⟨items.map fun _=>true,?_,?_⟩
 ·rw [List.map_map]
  exact mid_at (a:=H) 0 (by simp)
 ·rw [show (items.map fun _=>true).all id = true from by simp]
  exact h _
theorem refs_mem {r K:Nat} {w:AV} (hw:w ∈ refs r K):∃ j,j < K∧w = .ref (r + j):=by
 obtain ⟨j,hj,rfl⟩:=List.mem_map.mp hw
 exact ⟨j,List.mem_range.mp hj,rfl⟩
theorem nB_len:(nB h s mv).length = 4 + s.pl.length:=by simp [nB,rowsH];(first | lia | omega)
theorem nB_bv (h0:FH H₀) (hl:H₀.length = h) (hm:MKs mv):∀ xs ∈ H₀++nB h s mv,∀ v ∈ xs,BV (H₀++nB h s mv).length v:=fun xs hx v hv=>by
 rw [List.length_append,nB_len]
 rcases List.mem_append.mp hx with hx | hx
 ·exact (h0 xs hx v hv).bv
 ·rcases List.mem_append.mp hx with hx | hx
  ·simp only [List.mem_cons,List.not_mem_nil,or_false] at hx
   rcases hx with rfl | rfl | rfl | rfl
   ·exact (FVs.ints v hv).bv
   ·exact (FVs.strs v hv).bv
   ·exact (hm.fv v hv).bv
   ·obtain ⟨j,hj,rfl⟩:=refs_mem hv
    exact .ref (by (first | lia | omega))
  ·obtain ⟨r,_,rfl⟩:=List.mem_map.mp hx
   exact (FVs.ints v hv).bv
theorem wL_bv {N:Nat} (hn:n + 4 < h) (hh':hh < h) (hN:h + 3 < N) (ho:∀ w,o7 = some w→BV N w):∀ w,some w ∈ wL C n hh t h o7 none→BV N w:=fun w hw=>by
 unfold wL at hw
 simp only [List.mem_cons,List.not_mem_nil,or_false,Option.some.injEq] at hw
 rcases hw with rfl | rfl | rfl | rfl | rfl | rfl | rfl | e | e
 ·exact BV.oR (by (first | lia | omega))
 ·exact BV.dR (by (first | lia | omega))
 ·exact .ref (by (first | lia | omega))
 ·exact fun _=>.int _
 ·exact fun H=>.tup (.cons (BV.ref (by (first | lia | omega)) H) (.cons (BV.ref (by (first | lia | omega)) H) .nil))
 ·exact .ref (by (first | lia | omega))
 ·exact .ref (by (first | lia | omega))
 ·exact ho w e.symm
 ·cases e
structure At5 (H:AH) (n:Nat) (T:List St) (s:St) (mv:List AV):Prop where
 a:H[n]? = some (T.map sA++[sA s])
 b:H[n + 1]? = some mv
 c:H[n + 2]? = some (T.map sS++[sS s])
 d:H[n + 3]? = some mv
 e:H[n + 4]? = some (T.map sP++[sP s])
theorem get_ap {ex:AH} {i:Nat} {xs:List AV} (e:H[i]? = some xs):(H++ex)[i]? = some xs:=by rw [List.getElem?_append_left (List.getElem?_eq_some_iff.mp e).1];exact e
theorem At5.app {ex:AH} (x:At5 H n T s mv):At5 (H++ex) n T s mv:=⟨get_ap x.a,get_ap x.b,get_ap x.c,get_ap x.d,get_ap x.e⟩
theorem At5.lt (x:At5 H n T s mv):n + 4 < H.length:=(List.getElem?_eq_some_iff.mp x.e).1
theorem At5.lay {X Y:AH}:At5 (lay X T s mv Y) X.length T s mv:=⟨mid_get (a:=X) 0,mid_get (a:=X) 1,mid_get (a:=X) 2,mid_get (a:=X) 3,mid_get (a:=X) 4⟩
variable {Qn:Loc→AH→Prop} {Qr:AV→AH→Prop} {Qx:Str→Loc→AH→Prop}
theorem rows_in (hl:H₀.length = h):∀ i xs,(rowsH s.pl)[i]? = some xs→(H₀++nB h s mv)[h + 4 + i]? = some xs:=fun i xs e=>by
 rw [Nat.add_assoc,mid_at _ hl,Nat.add_comm 4 i]
 exact e
theorem sn1_ok (hk:0 < l.k) (h0:FH H₀) (hl:H₀.length = h) (A:At5 H₀ n T s mv) (hT:T.length ≤ 90) (hm:MKs mv) (hi:CallJ P l fi [sS s,sS s] (fun r H=>r = .bool true∧H = []) fun c=>Qx c (wL C n hh t h o7 none) (H₀++nB h s mv)) (hn:Qn (wL C n hh t h o7 none) (H₀++nB h s mv)):wpS P l (sn1 fi) (wL C n hh t h o7 none) (H₀++nB h s mv) Qn Qr Qx:=by
 refine ⟨_,fun _ _ h=>h,?_⟩
 have B:At5 (H₀++nB h s mv) n T s mv:=A.app
 have g0:(H₀++nB h s mv)[h]? = some (s.ns.map AV.int):=mid_at 0 hl
 have g1:(H₀++nB h s mv)[h + 1]? = some (s.ms.map AV.str):=mid_at 1 hl
 have g2:(H₀++nB h s mv)[h + 2]? = some mv:=mid_at 2 hl
 have g3:(H₀++nB h s mv)[h + 3]? = some (refs (h + 4) s.pl.length):=mid_at 3 hl
 have g4:=rows_in (s:=s) (mv:=mv) hl
 generalize H₀++nB h s mv = G at B g0 g1 g2 g3 g4 hi hn ⊢
 unfold wL at hi hn ⊢
 tm_at "wps"
 refine ⟨hk,dx_strips (i_snoc (A:=T.map sS) B.c (snoc_small (by rw [List.length_map];exact Nat.le_trans hT (by decide))) ?_)⟩
 refine callTrueF (.cons (.tup (.cons (.frz (fun h=>nomatch h) g0 (Rens.ints _)) (.cons (.frz (fun h=>nomatch h) g1 (Rens.strs _)) .nil))) (.cons (FV.sS s _ _) .nil)) hi ?_
 tm_at "wps"
 have r1:Rd G 9 (.ref (h + 2)) _:=.ref g2 (Rds.mvs (k:=7) hm)
 have r2:Rd G 9 (.ref (n + 3)) _:=.ref B.d (Rds.mvs (k:=7) hm)
 have r3:Rd G 9 (.ref (h + 3)) _:=.ref g3 (refs_of _ _ ▸ rds_rows (k:=7) g4)
 have r4:Rd G 9 (.fl (pilesAV s.pl)) _:=.fl (rds_piles (k:=7))
 refine dx_moves ⟨_,_,r1,r2,?_⟩
 rw [r1.refl]
 tm_at "wps"
 refine dx_piles (i_snoc (A:=T.map sP) B.e (snoc_small (by rw [List.length_map];exact Nat.le_trans hT (by decide))) ⟨_,_,r3,r4,?_⟩)
 rw [r4.refl]
 exact Cut.here hn
end
open PySem PyProof.Rows PySem.SeqAt
section
variable {P:PC} {k:Nat} {p:Pin} {f fl fi fk fw:Nat} {H₀ H:AH} {Xc:Str→Prop} {C:Addr} {T:List St} {s:St} {mv:List AV} {v:AV} {Q:AV→AH→Prop} {n h hh:Nat} {t:Int} {o7:Option AV} {loc:Loc} {Qn:Loc→AH→Prop} {Qr:AV→AH→Prop} {Qx:Str→Loc→AH→Prop}
theorem or_isl {l:Lv} {i j:Nat} {b:CE} (hv:loc[i]?.join = some (.ref j)) (h:wpE P l Xc b loc H Q):wpE P l Xc (.or (.not (.isin .list (.var i))) b) loc H Q:=by
 rw [w_or,w_not,w_isin,w_var,hv]
 exact h
theorem wL_cut {ex:AH} {R:Loc→AH→Prop} (h0:FH H₀) (hl:H₀.length = h) (hp:p.n ≤ h) (hm:MKs mv) (hn:n + 4 < h) (hh':hh < h) (ho:∀ w,o7 = some w→BV (H₀++nB h s mv).length w) (hR:R (wL C n hh t h o7 none) (H₀++nB h s mv)):Cut (some p) R (wL C n hh t h o7 none) ((H₀++nB h s mv)++ex):=
 Cut.front (fun P e=>by cases e;rw [List.length_append,hl];exact Nat.le_trans hp (Nat.le_add_right _ _)) (wL_bv hn hh' (by rw [List.length_append,nB_len,hl];(first | lia | omega)) ho) (nB_bv h0 hl hm) hR
variable (h0:FH H₀) (hl:H₀.length = h) (hp:p.n ≤ h) (hm:MKs mv) (hn:n + 4 < h) (hh':hh < h) (hlm:mv.length ≤ 90) (g:GP s.pl)
include h0 hl hp hm hn hh' hlm g
theorem sn2_ok (hQ:Qn (wL C n hh t h none none) (H₀++nB h s mv)):wpS P ⟨k,true,some p⟩ sn2 (wL C n hh t h none none) (H₀++nB h s mv) Qn Qr Qx:=by
 refine ⟨_,fun _ _ h=>h,?_⟩
 have cut:=fun ex=>wL_cut (C:=C) (t:=t) (o7:=none) (s:=s) (ex:=ex) h0 hl hp hm hn hh' (fun _ e=>nomatch e) hQ
 have g3:(H₀++nB h s mv)[h + 3]? = some (refs (h + 4) s.pl.length):=mid_at 3 hl
 have g4:=rows_in (s:=s) (mv:=mv) hl
 generalize H₀++nB h s mv = G at g3 g4 cut ⊢
 unfold wL at cut ⊢
 refine or_isl (j:=h + 2) rfl (or_isl (j:=h + 3) rfl ?_)
 rw [w_not]
 refine all_true (v:=.ref (h + 3)) rfl (fun K hK=>hK) g3 (by rw [refs_len];exact Nat.le_trans g.most (by decide)) (refs_of _ _ ▸ rens_rows (φ:=[]) (fun _ _ h=>absurd h List.not_mem_nil) g4) (fun x hx K hK=>?_) fun ex=>cut ex
 obtain ⟨r,_,rfl⟩:=List.mem_map.mp hx
 exact hK
theorem sn3_ok (hk:0 < k) (hc:∀ v,MK v→CallJ P ⟨k,true,some p⟩ fk [v] (fun r H=>r = .bool true∧H = []) fun c=>Qx c (wL C n hh t h none none) (H₀++nB h s mv)) (hQ:Qn (wL C n hh t h none none) (H₀++nB h s mv)):wpS P ⟨k,true,some p⟩ (sn3 fk) (wL C n hh t h none none) (H₀++nB h s mv) Qn Qr Qx:=by
 refine ⟨_,fun _ _ h=>h,?_⟩
 have cut:=fun ex=>wL_cut (C:=C) (t:=t) (o7:=none) (s:=s) (ex:=ex) h0 hl hp hm hn hh' (fun _ e=>nomatch e) hQ
 have g2:(H₀++nB h s mv)[h + 2]? = some mv:=mid_at 2 hl
 generalize H₀++nB h s mv = G at g2 cut hc ⊢
 unfold wL at cut hc ⊢
 rw [w_not]
 refine all_true (v:=.ref (h + 2)) rfl (fun K hK=>hK) g2 (Nat.le_trans hlm (by decide)) hm.fv.rens (fun x hx K hK=>?_) fun ex=>cut ex
 exact ⟨hk,callTrue (.cons ((hm x hx).fv _ _) .nil) (hc x (hm x hx)) hK⟩
inductive S4I (C:Addr) (n hh:Nat) (t:Int) (h:Nat) (G:AH) (i:Nat) (lc:Loc) (H:AH):Prop
 | mk:H = G→∀ o,lc = wL C n hh t h o none→(∀ w,o = some w→BV G.length w)→S4I C n hh t h G i lc H
theorem sn4_ok (hk:0 < k) (hc:∀ (c:Str→Prop) (i:Int),CallJ P ⟨k,true,some p⟩ fw [.int i] (fun r H=>r = .bool true∧H = []) c) (hQ:∀ o,Qn (wL C n hh t h o none) (H₀++nB h s mv)):wpS P ⟨k,true,some p⟩ (sn4 fw) (wL C n hh t h none none) (H₀++nB h s mv) Qn Qr Qx:=by
 have g3:(H₀++nB h s mv)[h + 3]? = some (refs (h + 4) s.pl.length):=mid_at 3 hl
 have g4:=rows_in (s:=s) (mv:=mv) hl
 have hN:(H₀++nB h s mv).length = h + 4 + s.pl.length:=by rw [List.length_append,nB_len,hl];(first | lia | omega)
 refine st_for (.ref (h + 3)) (refs (h + 4) s.pl.length) (S4I C n hh t h (H₀++nB h s mv)) rfl (fun K hK=>hK) (by rw [refs_len];exact Nat.le_trans g.most (by decide)) ?_ (TurnTo.here rfl ⟨rfl,none,rfl,fun _ e=>nomatch e⟩) ?_ ?_
 ·rintro _ _ _ ⟨rfl,_⟩
  exact g3
 ·rintro i lc H u _ hu ⟨rfl,o,rfl,ho⟩
  obtain ⟨j,hj,rfl⟩:=refs_mem (List.mem_of_getElem? hu)
  have hb:BV (H₀++nB h s mv).length (.ref (h + 4 + j)):=.ref (by (first | lia | omega))
  obtain ⟨r,hr⟩:∃ r,s.pl[j]? = some r:=⟨_,List.getElem?_eq_getElem hj⟩
  have hr':=g4 j (r.map AV.int) (by unfold rowsH;rw [List.getElem?_map,hr];rfl)
  have hb':=nB_bv (s:=s) h0 hl hm
  have hp':∀ P,some p = some P→P.n ≤ (H₀++nB h s mv).length:=fun P e=>by cases e;rw [hN];(first | lia | omega)
  have hlb:∀ w,some w ∈ wL C n hh t h (some (.ref (h + 4 + j))) none++[some (.ref (h + 3))]→BV (H₀++nB h s mv).length w:=fun w hw=>(List.mem_append.mp hw).elim (wL_bv hn hh' (by (first | lia | omega)) (fun w e=>by cases e;exact hb) w) fun q=>by cases List.mem_singleton.mp q;exact .ref (by (first | lia | omega))
  generalize H₀++nB h s mv = G at hr' hb hb' hp' hlb ⊢
  refine seqS ⟨fun lc H=>lc = wL C n hh t h (some (.ref (h + 4 + j))) none++[some (.ref (h + 3))]∧H = G,?_,?_⟩
  ·rintro _ _ ⟨rfl,rfl⟩
   exact TurnTo.here rfl ⟨rfl,_,rfl,fun w e=>by cases e;exact hb⟩
  ·rw [w_not]
   refine all_true (v:=.ref (h + 4 + j)) rfl (fun K hK=>hK) hr' (small90 (ints90 (g.each r (List.mem_of_getElem? hr)))) (Rens.ints r) (fun x hx K hK=>?_) fun ex=>?_
   ·obtain ⟨i,_,rfl⟩:=List.mem_map.mp hx
    exact ⟨hk,callTrue (.cons (.int i) .nil) (hc _ i) hK⟩
   ·exact Cut.front (R:=fun lc H=>lc = wL C n hh t h (some (.ref (h + 4 + j))) none++[some (.ref (h + 3))]∧H = G) (loc:=wL C n hh t h (some (.ref (h + 4 + j))) none++[some (.ref (h + 3))]) hp' hlb hb' ⟨rfl,rfl⟩
 ·rintro lc H ⟨rfl,o,rfl,_⟩
  exact hQ o
end
open PySem PyProof.Rows PySem.SeqAt
noncomputable def PV (v:AV):Prop:=FV v∧NoFl v∧∃ d,∀ H,Rd H 7 v d
noncomputable def PVs (l:List AV):Prop:=∀ v ∈ l,PV v
theorem PVs.fv {l:List AV} (h:PVs l):FVs l:=fun v hv=>(h v hv).1
theorem PVs.nofl {l:List AV} (h:PVs l):NoFls l:=.of fun v hv=>(h v hv).2.1
theorem PV.int (i:Int):PV (.int i):=⟨fun _ _=>.int i,.int i,.int i,fun _=>.int i⟩
theorem PVs.ints {l:List Int}:PVs (l.map AV.int):=fun v hv=>by obtain ⟨i,_,rfl⟩:=List.mem_map.mp hv;exact .int i
theorem PVs.mks {l:List AV} (h:MKs l):PVs l:=fun v hv=>⟨(h v hv).fv,(h v hv).nofl,mD v,fun _=>(h v hv).rd (k:=6)⟩
theorem PVs.strs {l:List Str} (h:∀ m ∈ l,Mk m):PVs (l.map AV.str):=fun v hv=>by obtain ⟨i,hi,rfl⟩:=List.mem_map.mp hv;exact ⟨fun _ _=>.str i,.str i,.str i,fun _=>.str i (mk_ok (h i hi))⟩
theorem PVs.snoc {l:List AV} {v:AV} (h:PVs l) (hv:PV v):PVs (l++[v]):=fun w hw=>(List.mem_append.mp hw).elim (h w) fun e=>List.mem_singleton.mp e ▸ hv
noncomputable def RV (w:AV):Prop:=∃ xs,w = .fl xs∧PVs xs
noncomputable def RVs (l:List AV):Prop:=∀ w ∈ l,RV w
theorem RV.fv {w:AV} (h:RV w):FV w:=by obtain ⟨xs,rfl,h⟩:=h;exact h.fv.fl
theorem RVs.fv {l:List AV} (h:RVs l):FVs l:=fun w hw=>(h w hw).fv
inductive HE (e:AV):Prop
 | mk (R:_) (T:_):e = .tup [.fl R,.fl R,.fl T,.fl T]→RVs R→RVs T→HE e
theorem HE.fv {e:AV} (h:HE e):FV e:=by
 obtain ⟨R,T,rfl,h1,h2⟩:=h
 exact fun _ _=>.tup (.cons (h1.fv.fl _ _) (.cons (h1.fv.fl _ _) (.cons (h2.fv.fl _ _) (.cons (h2.fv.fl _ _) .nil))))
structure WB (h K m:Nat) (B:AH):Prop where
 len:B.length = 4 + K
 rows:B[3]? = some (refs (h + 4) K)
 each:∀ i xs,i ≠ 3→B[i]? = some xs→PVs xs∧xs.length ≤ m
section
variable {P:PC} {l:Lv} {k:Nat} {p:Pin} {H₀ H B:AH} {Xc:Str→Prop} {C:Addr} {s:St} {mv:List AV} {v:AV} {Q:AV→AH→Prop} {n h hh K m:Nat} {t:Int} {o:Option AV} {loc:Loc} {Qn:Loc→AH→Prop} {Qr:AV→AH→Prop} {Qx:Str→Loc→AH→Prop}
theorem WB.of (hm:MKs mv) (hk:∀ m ∈ s.ms,Mk m) (hlm:mv.length ≤ 90) (h1:s.ns.length ≤ 90) (h2:s.ms.length ≤ 90) (g:GP s.pl):WB h s.pl.length 90 (nB h s mv) where
 len:=nB_len
 rows:=rfl
 each:=fun i xs hi e=>by
  match i,hi,e with
  | 0,_,e=>cases e;exact ⟨.ints,by rw [List.length_map];exact h1⟩
  | 1,_,e=>cases e;exact ⟨.strs hk,by rw [List.length_map];exact h2⟩
  | 2,_,e=>cases e;exact ⟨.mks hm,hlm⟩
  | 3,hi,_=>exact absurd rfl hi
  | i + 4,_,e=>
   have e:(rowsH s.pl)[i]? = some xs:=e
   obtain ⟨r,hr,rfl⟩:=List.mem_map.mp (List.mem_of_getElem? e)
   exact ⟨.ints,ints90 (g.each r hr)⟩
theorem WB.get (w:WB h K m B) {i:Nat} (hi:i < 4 + K) (h3:i ≠ 3):∃ xs,B[i]? = some xs∧PVs xs∧xs.length ≤ m:=by
 have e:=List.getElem?_eq_getElem (w.len ▸ hi:i < B.length)
 exact ⟨_,e,w.each i _ h3 e⟩
theorem WB.bump (w:WB h K m B) {i:Nat} {xs:List AV} (h3:i ≠ 3) (e:B[i]? = some xs):WB h K (m + 1) (B.set i (xs++[.int 99])) where
 len:=by rw [List.length_set];exact w.len
 rows:=by rw [List.getElem?_set_ne h3];exact w.rows
 each:=fun j ys hj ej=>by
  have hi:=(List.getElem?_eq_some_iff.mp e).1
  by_cases q:i = j
  ·subst q
   rw [List.getElem?_set_self hi] at ej
   cases ej
   have:=w.each i xs h3 e
   exact ⟨this.1.snoc (.int 99),by rw [List.length_append];exact Nat.add_le_add_right this.2 1⟩
  ·rw [List.getElem?_set_ne q] at ej
   have:=w.each j ys hj ej
   exact ⟨this.1,Nat.le_succ_of_le this.2⟩
noncomputable def r3 (h:Nat):List AV:=[.ref h,.ref (h + 1),.ref (h + 2)]
theorem all3_ok {ys:List AV} (h4:loc[4]?.join = some (.tup [.ref h,.ref (h + 1)])) (h5:loc[5]?.join = some (.ref (h + 2))) (h6:loc[6]?.join = some (.ref (h + 3))) (h3:H[h + 3]? = some ys) (hs:ys.length ≤ 90) (hQ:Q (.ref (H.length + 1)) (H++[r3 h]++[ys++r3 h])):wpE P l Xc all3 loc H Q:=by
 unfold all3
 tm_at "wps"
 rw [h4,h5,h6]
 tm_at "wps"
 refine ⟨by decide,?_⟩
 rw [get_ap h3,at_end]
 refine ⟨Nat.le_trans (Nat.add_le_add_right hs 3) (by decide),?_⟩
 rw [List.length_append]
 exact hQ
inductive S5I (C:Addr) (n hh:Nat) (t:Int) (h K:Nat) (H₀:AH) (i:Nat) (lc:Loc) (H:AH):Prop
 | mk (o:Option AV) (B':AH):lc = wL C n hh t h o none→WB h K (90 + i) B'→H = H₀++B'++[r3 h,refs (h + 4) K++r3 h]→S5I C n hh t h K H₀ i lc H
theorem sn5_ok (hl:H₀.length = h) (hK:K ≤ 30) (w:WB h K 90 B) (hQ:∀ o B',WB h K 200 B'→Qn (wL C n hh t h o none) (H₀++B'++[r3 h,refs (h + 4) K++r3 h])):wpS P ⟨k,true,some p⟩ sn5 (wL C n hh t h o none) (H₀++B) Qn Qr Qx:=by
 have e3:(H₀++B)[h + 3]? = some (refs (h + 4) K):=(mid_at 3 hl).trans w.rows
 have hF:(refs (h + 4) K++r3 h).length = K + 3:=by rw [List.length_append,refs_len];rfl
 have hN0:(H₀++B).length = h + (4 + K):=by rw [List.length_append,w.len,hl]
 refine st_for (.ref (h + (4 + K) + 1)) (refs (h + 4) K++r3 h) (S5I C n hh t h K H₀) rfl (fun Q hQ=>all3_ok rfl rfl rfl e3 (by rw [refs_len];(first | lia | omega)) (hN0 ▸ hQ)) (by rw [hF];exact Nat.le_trans (Nat.add_le_add_right hK 3) (by decide)) ?_ ?_ ?_ ?_
 ·rintro i lc H ⟨o,B',rfl,w',rfl⟩
  show (H₀++B'++[r3 h,refs (h + 4) K++r3 h])[h + (4 + K) + 1]? = _
  exact mid_at 1 (by rw [List.length_append,w'.len,hl])
 ·exact TurnTo.here rfl ⟨o,B,rfl,w,by rw [List.append_assoc];rfl⟩
 ·rintro i lc H u _ hu ⟨o,B',rfl,w',rfl⟩
  obtain ⟨j,hj,h3,rfl⟩:∃ j,j < 4 + K∧j ≠ 3∧u = .ref (h + j):=by
   rcases List.mem_append.mp (List.mem_of_getElem? hu) with q | q
   ·obtain ⟨j,hj,rfl⟩:=refs_mem q
    exact ⟨4 + j,by (first | lia | omega),by (first | lia | omega),by rw [Nat.add_assoc]⟩
   ·simp only [r3,List.mem_cons,List.not_mem_nil,or_false] at q
    rcases q with rfl | rfl | rfl
    ·exact ⟨0,by (first | lia | omega),by decide,rfl⟩
    ·exact ⟨1,by (first | lia | omega),by decide,rfl⟩
    ·exact ⟨2,by (first | lia | omega),by decide,rfl⟩
  obtain ⟨xs,ex,px,lx⟩:=w'.get hj h3
  have hi:i < K + 3:=hF ▸ (List.getElem?_eq_some_iff.mp hu).1
  rw [List.append_assoc]
  refine seqS ⟨h + j,xs,xs++[.int 99],rfl,(mid_at j hl).trans (get_ap ex),m_app (Nat.lt_of_le_of_lt lx (Nat.lt_of_le_of_lt (show 90 + i ≤ 200 by (first | lia | omega)) (by decide))),?_⟩
  subst hl
  rw [set_mid (X:=H₀) j,List.set_append_left _ _ (w'.len ▸ hj),← List.append_assoc]
  exact TurnTo.here rfl ⟨_,_,rfl,w'.bump h3 ex,rfl⟩
 ·rintro lc H ⟨o,B',rfl,w',rfl⟩
  rw [hF] at w'
  exact hQ o B' ⟨w'.len,w'.rows,fun i xs a b=>⟨(w'.each i xs a b).1,Nat.le_trans (w'.each i xs a b).2 (by (first | lia | omega))⟩⟩
end
open PySem PyProof.Rows PySem.SeqAt
noncomputable def cts (G:AH) (js:List Nat):List AV:=js.map fun j=>.fl (G[j]?.getD [])
section
variable {P:PC} {l:Lv} {k:Nat} {H₀ H G B W:AH} {Xc:Str→Prop} {C:Addr} {s:St} {mv:List AV} {v:AV} {Q:AV→AH→Prop} {n h hh K m:Nat} {t:Int} {o:Option AV} {loc:Loc} {Qn:Loc→AH→Prop} {Qr:AV→AH→Prop} {Qx:Str→Loc→AH→Prop} {fr:List (Env × Obj)} {L:List AV}
theorem rens_cts {φ:List Nat}:∀ {js:List Nat},(∀ j ∈ js,j ∉ φ∧∃ xs,G[j]? = some xs∧H[j]? = some xs∧FVs xs)→Rens φ H (js.map AV.ref) (cts G js)
 | [],_=>.nil
 | j::js,h=>by
  obtain ⟨h1,xs,e1,e2,e3⟩:=h j (.head _)
  refine .cons ?_ (rens_cts (js:=js) fun i hi=>h i (.tail _ hi))
  show Ren φ H (.ref j) (.fl (G[j]?.getD []))
  rw [e1]
  exact .frz h1 e2 e3.rens
theorem rens_copies {φ:List Nat}:∀ {T:List AV} {c:Nat},RVs T→(∀ i,c ≤ i→i ∉ φ)→(∀ i xs,(T.map unfl)[i]? = some xs→H[c + i]? = some xs)→Rens φ H ((List.range' c T.length).map AV.ref) T
 | [],_,_,_,_=>.nil
 | w::T,c,hT,h0,h=>by
  obtain ⟨xs,rfl,hx⟩:=hT w (.head _)
  refine .cons (.frz (h0 c (Nat.le_refl _)) (h 0 xs rfl) hx.fv.rens) (rens_copies (T:=T) (c:=c + 1) (fun u hu=>hT u (.tail _ hu)) (fun i hi=>h0 i (Nat.le_of_succ_le hi)) fun i xs e=>?_)
  rw [Nat.add_assoc,Nat.add_comm 1 i]
  exact h (i + 1) xs e
theorem RensH.set {φ:List Nat} {a b:AH} {xs ys:List AV} (r:RensH φ H a b) (q:Rens φ H xs ys):∀ {i:Nat},RensH φ H (a.set i xs) (b.set i ys):=by
 induction r with
 | nil=>intro i;exact .nil
 | cons x r ih=>
  intro i
  cases i with
  | zero=>exact .cons q r
  | succ i=>exact .cons x ih
theorem cts_rvs {js:List Nat} (hj:∀ j ∈ js,∃ xs,G[j]? = some xs∧PVs xs∧xs.length ≤ 300):RVs (cts G js):=fun w hw=>by
 obtain ⟨j,hj',rfl⟩:=List.mem_map.mp hw
 obtain ⟨xs,e,hx,_⟩:=hj j hj'
 exact ⟨xs,by rw [e];rfl,hx⟩
theorem cts_small {js:List Nat} (hj:∀ j ∈ js,∃ xs,G[j]? = some xs∧PVs xs∧xs.length ≤ 300) {w:AV} (hw:w ∈ cts G js):∃ xs,w = .fl xs∧PVs xs∧xs.length ≤ 300:=by
 obtain ⟨j,hj',rfl⟩:=List.mem_map.mp hw
 obtain ⟨xs,e,hx,hl⟩:=hj j hj'
 exact ⟨xs,by rw [e];rfl,hx,hl⟩
noncomputable def ent:CE:=.tup [(.var 6),(.prim .list [(.var 6)]),(.var 8),(.comp (.prim .list [(.var 0)]) [] [] 0 (.var 8))]
theorem ent_ok {r js:List Nat} {j8:Nat} (hq:l.q = true) (h6:loc[6]?.join = some (.ref (h + 3))) (h8:loc[8]?.join = some (.ref j8)) (g6:G[h + 3]? = some (r.map AV.ref)) (g8:G[j8]? = some (js.map AV.ref)) (hr:r.length ≤ 90) (hs:js.length ≤ 90) (hj:∀ j ∈ js,∃ xs,G[j]? = some xs∧PVs xs∧xs.length ≤ 300)
  (hQ:Q (.tup [.ref (h + 3),.ref G.length,.ref j8,.ref (G.length + 1 + js.length)]) (G++[r.map AV.ref]++((cts G js).map unfl++[(List.range' (G.length + 1) js.length).map AV.ref]))):wpE P l Xc ent loc G Q:=by
 unfold ent
 tm_at "wps"
 rw [h6,h8]
 tm_at "wps"
 refine ⟨hq,?_⟩
 rw [g6]
 refine ⟨by rw [List.length_map];exact Nat.le_trans hr (by decide),hq,?_⟩
 refine ⟨js.map AV.ref,cts G js,[],get_ap g8,by rw [List.length_map];exact Nat.le_trans hs (by decide),rens_cts fun j hj'=>?_,.nil,comp_lists unfl (fun x hx k hk=>opt_bind0 hk) ?_ ?_⟩
 ·obtain ⟨xs,e,hx,_⟩:=hj j hj'
  exact ⟨List.not_mem_nil,xs,e,get_ap e,hx.fv⟩
 ·intro x hx n k hk
  obtain ⟨xs,rfl,px,lx⟩:=cts_small hj hx
  refine opt_bind0 ⟨hq,?_⟩
  tm_at "wps"
  refine ⟨Nat.le_trans lx (by decide),[0],[xs],.ref 0,RenH.one rfl px.fv.rens,.ref rfl,.inr ⟨.ref 0,fun ys hy=>List.mem_singleton.mp hy ▸ px.nofl⟩,?_⟩
  rw [show [xs].map (AV.shifts n) = [xs] from by rw [List.map_cons,px.fv.shifts];rfl]
  exact hk
 ·have e1:(cts G js).length = js.length:=List.length_map _
  have e2:(G++[r.map AV.ref]).length = G.length + 1:=by rw [List.length_append];rfl
  rw [List.length_map,e1,e2]
  exact ⟨by show 4 ≤ smallN;decide,hQ⟩
theorem on_ref {o:Option AV} {r:Nat} {K:AV→Prop} (e:o = some (.ref r)) (h:K (.ref r)):opt o fun v=>onL v (K v):=by subst e;exact h
noncomputable def sn6t:List CS:=[
 .assign 8 all3,
 .mut .append (.var 2) [ent],
 .ret (.const (.bool true))]
theorem sn6t_ok {js1:List Nat} (h0:FH H₀) (hl:H₀.length = h) (hh':H₀[hh]? = some L) (hL:L.length ≤ 1000) (h3:(H₀++W)[h + 3]? = some (js1.map AV.ref)) (hs:js1.length ≤ 80) (hj:∀ j ∈ js1++[h,h + 1,h + 2],h ≤ j∧∃ xs,(H₀++W)[j]? = some xs∧PVs xs∧xs.length ≤ 300) :
  wpSs P ⟨k,true,some ⟨h,fr⟩⟩ sn6t (wL C n hh t h o none) (H₀++W) Qn (Nrm h fun r H'=>r = .bool true∧∃ e,HE e∧H' = H₀.set hh (L++[e])) Qx:=by
 have hhl:hh < H₀.length:=(List.getElem?_eq_some_iff.mp hh').1
 unfold sn6t
 refine seqS (all3_ok rfl rfl rfl h3 (by rw [List.length_map];(first | lia | omega)) ?_)
 have er:js1.map AV.ref++r3 h = (js1++[h,h + 1,h + 2]).map AV.ref:=by rw [List.map_append];rfl
 rw [er]
 have hs':(js1++[h,h + 1,h + 2]).length ≤ 90:=by rw [List.length_append];exact Nat.le_trans (Nat.add_le_add_right hs 3) (by decide)
 have hsub:∀ j ∈ js1,j ∈ js1++[h,h + 1,h + 2]:=fun j h=>List.mem_append_left _ h
 generalize js1++[h,h + 1,h + 2] = js at hj hs' hsub ⊢
 have g8:(H₀++W++[r3 h]++[js.map AV.ref])[(H₀++W).length + 1]? = some (js.map AV.ref):=by rw [List.append_assoc];exact mid_get 1
 have g6:(H₀++W++[r3 h]++[js.map AV.ref])[h + 3]? = some (js1.map AV.ref):=get_ap (get_ap h3)
 have gj:∀ j ∈ js,h ≤ j∧∃ xs,(H₀++W++[r3 h]++[js.map AV.ref])[j]? = some xs∧PVs xs∧xs.length ≤ 300:=fun j q=>by obtain ⟨a,xs,b,c⟩:=hj j q;exact ⟨a,xs,get_ap (get_ap b),c⟩
 have eG:H₀++W++[r3 h]++[js.map AV.ref] = H₀++(W++[r3 h]++[js.map AV.ref]):=by simp only [List.append_assoc]
 have hj8:h ≤ (H₀++W).length + 1:=by rw [List.length_append,hl];(first | lia | omega)
 generalize (H₀++W).length + 1 = j8 at g8 hj8 ⊢
 rw [eG] at g8 g6 gj ⊢
 generalize W++[r3 h]++[js.map AV.ref] = W2 at g8 g6 gj ⊢
 clear eG hj h3 er
 refine seqS ?_
 rw [q_mut,w_var]
 refine on_ref (r:=hh) rfl ?_
 rw [w_cons]
 refine ent_ok rfl rfl rfl g6 g8 (by (first | lia | omega)) hs' (fun j q=>(gj j q).2) ?_
 rw [List.append_assoc,List.append_assoc]
 refine ⟨hh,L,_,rfl,get_ap hh',m_app (Nat.lt_of_le_of_lt hL (by decide)),?_⟩
 rw [List.set_append_left _ _ hhl]
 have hG:(H₀++W2).length = h + W2.length:=by rw [List.length_append,hl]
 have hlook:∀ {i:Nat} {y:List AV} {xs:List AV} {ex:AH},h ≤ i→(H₀++(W2++ex))[i]? = some xs→(H₀.set hh y++(W2++ex))[i]? = some xs:=fun {i y xs ex} hi e=>by
  rw [List.getElem?_append_right (by rw [List.length_set,hl];exact hi),List.length_set,← List.getElem?_append_right (by rw [hl];exact hi)]
  exact e
 have T:RVs (cts (H₀++W2) js):=cts_rvs fun j q=>(gj j q).2
 have T1:RVs (cts (H₀++W2) js1):=cts_rvs fun j q=>(gj j (hsub j q)).2
 refine ⟨H₀.set hh _,_,H₀.set hh (L++[.tup [.fl (cts (H₀++W2) js1),.fl (cts (H₀++W2) js1),.fl (cts (H₀++W2) js),.fl (cts (H₀++W2) js)]]),.bool true,rfl,by rw [List.length_set];exact hl,.bool true,?_,rfl,_,⟨_,_,rfl,T1,T⟩,rfl⟩
 generalize hex:([js1.map AV.ref]++((cts (H₀++W2) js).map unfl++[(List.range' ((H₀++W2).length + 1) js.length).map AV.ref])) = ex
 generalize hfin:H₀.set hh (L++[AV.tup [.ref (h + 3),.ref (H₀++W2).length,.ref j8,.ref ((H₀++W2).length + 1 + js.length)]])++(W2++ex) = Fin
 have look:∀ {i:Nat} {xs:List AV},h ≤ i→(H₀++W2++ex)[i]? = some xs→Fin[i]? = some xs:=fun {i xs} hi e=>by
  rw [← hfin]
  exact hlook hi (by rw [← List.append_assoc];exact e)
 have nr:∀ i,h ≤ i→i ∉ List.range h:=fun i hi=>not_range hi
 have q1:Rens (List.range h) Fin (js1.map AV.ref) (cts (H₀++W2) js1):=rens_cts fun j q=>by obtain ⟨a,xs,b,c,_⟩:=gj j (hsub j q);exact ⟨nr j a,xs,b,look a (get_ap b),c.fv⟩
 have q2:Rens (List.range h) Fin (js.map AV.ref) (cts (H₀++W2) js):=rens_cts fun j q=>by obtain ⟨a,xs,b,c,_⟩:=gj j q;exact ⟨nr j a,xs,b,look a (get_ap b),c.fv⟩
 have q3:Rens (List.range h) Fin ((List.range' ((H₀++W2).length + 1) js.length).map AV.ref) (cts (H₀++W2) js):=by
  have e1:(cts (H₀++W2) js).length = js.length:=List.length_map _
  rw [← e1]
  refine rens_copies T (fun i hi=>nr i (by (first | lia | omega))) fun i xs e=>look (by (first | lia | omega)) ?_
  rw [← hex,Nat.add_assoc,mid_get,Nat.add_comm 1 i]
  show ((cts (H₀++W2) js).map unfl++[_])[i]? = _
  exact get_ap e
 have n1:Fin[(H₀++W2).length]? = some (js1.map AV.ref):=look (by (first | lia | omega)) (by rw [← hex];exact at_end)
 have n3:Fin[(H₀++W2).length + 1 + js.length]? = some ((List.range' ((H₀++W2).length + 1) js.length).map AV.ref):=look (by (first | lia | omega)) (by
  rw [← hex,Nat.add_assoc,mid_get,Nat.add_comm 1]
  show ((cts (H₀++W2) js).map unfl++[_])[js.length]? = _
  have e1:((cts (H₀++W2) js).map unfl).length = js.length:=by rw [List.length_map];exact List.length_map _
  rw [← e1]
  exact at_end)
 have ee:Ren (List.range h) Fin (AV.tup [.ref (h + 3),.ref (H₀++W2).length,.ref j8,.ref ((H₀++W2).length + 1 + js.length)]) (.tup [.fl (cts (H₀++W2) js1),.fl (cts (H₀++W2) js1),.fl (cts (H₀++W2) js),.fl (cts (H₀++W2) js)]):=
  .tup (.cons (.frz (nr _ (by (first | lia | omega))) (look (by (first | lia | omega)) (get_ap g6)) q1) (.cons (.frz (nr _ (by (first | lia | omega))) n1 q1) (.cons (.frz (nr _ hj8) (look hj8 (get_ap g8)) q2) (.cons (.frz (nr _ (by (first | lia | omega))) n3 q3) .nil))))
 refine RensH.set ?_ ((h0 L (List.mem_of_getElem? hh')).rens.app (.cons ee .nil))
 exact RensH.self h0
end
open PySem PyProof.Rows PySem.SeqAt
section
variable {P:PC} {l:Lv} {k:Nat} {H₀ H G B W:AH} {Xc:Str→Prop} {C:Addr} {T:List St} {s:St} {mv:List AV} {v:AV} {Q:AV→AH→Prop} {n h hh K m:Nat} {t:Int} {o:Option AV} {loc:Loc} {Qn:Loc→AH→Prop} {Qr:AV→AH→Prop} {Qx:Str→Loc→AH→Prop} {fr:List (Env × Obj)} {L:List AV} {f fl fi fk fw:Nat} {ps rest:List Str}
theorem sn6_ok (h0:FH H₀) (hl:H₀.length = h) (hh':H₀[hh]? = some L) (hL:L.length ≤ 1000) (hK:K ≤ 30) (w:WB h K 200 B) :
  wpSs P ⟨k,true,some ⟨h,fr⟩⟩ sn6 (wL C n hh t h o none) (H₀++B++[r3 h,refs (h + 4) K++r3 h]) Qn (Nrm h fun r H'=>r = .bool true∧∃ e,HE e∧H' = H₀.set hh (L++[e])) Qx:=by
 show wpSs P _ (.mut .append (.var 6) [(.lst [])]::sn6t) _ _ _ _ _
 have hlen:(H₀++B++[r3 h,refs (h + 4) K++r3 h]).length = h + (4 + K + 2):=by rw [List.length_append,List.length_append,w.len,hl];rfl
 have e3:(H₀++B++[r3 h,refs (h + 4) K++r3 h])[h + 3]? = some (refs (h + 4) K):=get_ap ((mid_at 3 hl).trans w.rows)
 refine seqS ⟨by decide,h + 3,refs (h + 4) K,_,rfl,get_ap e3,m_app (by rw [refs_len];exact Nat.lt_of_le_of_lt hK (by decide)),?_⟩
 rw [hlen]
 rw [show (H₀++B++[r3 h,refs (h + 4) K++r3 h]++[[]]) = H₀++(B++[r3 h,refs (h + 4) K++r3 h,[]]) from by simp only [List.append_assoc,List.cons_append,List.nil_append]]
 have el:B.length = 4 + K:=w.len
 rw [show (H₀++(B++[r3 h,refs (h + 4) K++r3 h,[]])).set (h + 3) (refs (h + 4) K++[.ref (h + (4 + K + 2))]) = H₀++(B.set 3 (refs (h + 4) K++[.ref (h + (4 + K + 2))])++[r3 h,refs (h + 4) K++r3 h,[]]) from by
  subst hl
  rw [set_mid (X:=H₀) 3,List.set_append_left _ _ (by (first | lia | omega))]]
 generalize hy:refs (h + 4) K++[.ref (h + (4 + K + 2))] = y
 have ey:y = ((List.range K).map (h + 4 + ·)++[h + (4 + K + 2)]).map AV.ref:=by rw [← hy,List.map_append,List.map_map];rfl
 have es:(B.set 3 y).length = 4 + K:=by rw [List.length_set];exact el
 have wg:∀ i,i < 4 + K→i ≠ 3→∃ xs,(H₀++(B.set 3 y++[r3 h,refs (h + 4) K++r3 h,[]]))[h + i]? = some xs∧PVs xs∧xs.length ≤ 300:=fun i hi h3=>by
  obtain ⟨xs,e,px,lx⟩:=w.get hi h3
  refine ⟨xs,(mid_at i hl).trans (get_ap ?_),px,Nat.le_trans lx (by decide)⟩
  rw [List.getElem?_set_ne (Ne.symm h3)]
  exact e
 refine sn6t_ok (js1:=(List.range K).map (h + 4 + ·)++[h + (4 + K + 2)]) h0 hl hh' hL ?_ (by rw [List.length_append,List.length_map,List.length_range];exact Nat.le_trans (Nat.add_le_add_right hK 1) (by decide)) fun j hj=>?_
 ·refine (mid_at 3 hl).trans (get_ap ?_)
  rw [List.getElem?_set_self (by (first | lia | omega)),ey]
 ·rcases List.mem_append.mp hj with q | q
  ·rcases List.mem_append.mp q with q | q
   ·obtain ⟨i,hi,rfl⟩:=List.mem_map.mp q
    have hi:=List.mem_range.mp hi
    refine ⟨by (first | lia | omega),?_⟩
    rw [Nat.add_assoc]
    exact wg (4 + i) (by (first | lia | omega)) (by (first | lia | omega))
   ·cases List.mem_singleton.mp q
    refine ⟨by (first | lia | omega),[],(mid_at _ hl).trans ?_,(fun _ h=>nomatch h),by decide⟩
    exact mid_at 2 es
  ·simp only [List.mem_cons,List.not_mem_nil,or_false] at q
   rcases q with rfl | rfl | rfl
   ·exact ⟨by (first | lia | omega),wg 0 (by (first | lia | omega)) (by decide)⟩
   ·exact ⟨by (first | lia | omega),wg 1 (by (first | lia | omega)) (by decide)⟩
   ·exact ⟨by (first | lia | omega),wg 2 (by (first | lia | omega)) (by decide)⟩
theorem At5.frz (A:At5 H n T s mv) (hm:MKs mv):Ren [] H (oR C n) (oF C T s mv):=
 .obj (.cons (.frz (fun h=>nomatch h) A.a (FVs.sA.app (FVs.one (FV.sA s))).rens) (.cons (.frz (fun h=>nomatch h) A.b hm.fv.rens) .nil))
theorem lH_nofl (hm:MKs mv):∀ xs ∈ lH s mv,NoFls xs:=fun xs hx=>by
 rcases List.mem_append.mp hx with hx | hx
 ·simp only [List.mem_cons,List.not_mem_nil,or_false] at hx
  rcases hx with rfl | rfl | rfl | rfl
  ·exact NoFls.ints _
  ·exact NoFls.strs _
  ·exact .of fun v hv=>(hm v hv).nofl
  ·exact .of fun v hv=>by obtain ⟨j,_,rfl⟩:=refs_mem hv;exact .ref _
 ·obtain ⟨r,_,rfl⟩:=List.mem_map.mp hx
  exact NoFls.ints _
theorem lH_shift (hm:MKs mv):(lH s mv).map (AV.shifts h) = nB h s mv:=by
 unfold lH nB
 rw [List.map_append,rowsH_shift,List.map_cons,List.map_cons,List.map_cons,List.map_cons,refs_shift,FVs.ints.shifts,FVs.strs.shifts,hm.fv.shifts]
 rfl
theorem opt_is {α:Type} {o:Option α} {x:α} {K:α→Prop} (e:o = some x) (h:K x):opt o K:=by subst e;exact h
theorem stands_ok (F:FnIs P f ps rest (cs_stands fl fi fk fw)) (hp:ps.length = 4) (hr:rest.length = 5) (hk:1 < l.k) (hq:l.q = true) (h0:FH H₀) (A:At5 H₀ n T s mv) (hT:T.length ≤ 90) (hm:MKs mv) (hlm:mv.length ≤ 90) (g:GT s.ns s.ms s.pl) (hh':H₀[hh]? = some L) (hL:L.length ≤ 1000)
  (c1:CallJ P ⟨l.k - 1,l.q,none⟩ fl [oF C T s mv,.int t] (fun v H=>v = lV3∧H = lH s mv) fun _=>False) (c2:CallJ P ⟨l.k - 1,l.q,none⟩ fi [sS s,sS s] (fun r H=>r = .bool true∧H = []) fun _=>False)
  (c3:∀ v,MK v→CallJ P ⟨l.k - 1,l.q,none⟩ fk [v] (fun r H=>r = .bool true∧H = []) fun _=>False) (c4:∀ (X:Str→Prop) (i:Int),CallJ P ⟨l.k - 1,l.q,none⟩ fw [.int i] (fun r H=>r = .bool true∧H = []) X) :
  CallR P l f [oR C n,dR n,.ref hh,.int t] H₀ (fun r H'=>r = .bool true∧∃ e,HE e∧H' = H₀.set hh (L++[e])):=by
 have k0:=Nat.sub_pos_of_lt hk
 have hhl:hh < H₀.length:=(List.getElem?_eq_some_iff.mp hh').1
 refine CallR.nrm (F.callR (Nat.lt_trans (by decide) hk) (by rw [hp];rfl) fun fr=>?_)
 rw [hr]
 rw [hq] at c1 c2 c3 c4 ⊢
 generalize hl:H₀.length = h at hhl
 have hn:n + 4 < h:=hl ▸ A.lt
 unfold cs_stands
 refine seqS ⟨rfl,k0,?_⟩
 rw [w_cons,w_var]
 refine opt_is rfl ?_
 rw [w_cons,w_var]
 refine opt_is rfl ?_
 rw [w_nil]
 refine CallP.frz (.cons (A.frz hm) (.cons (.int t) .nil)) c1.any (fun v Hc ⟨e1,e2⟩=>?_) fun v Hc ⟨e1,e2⟩=>?_
 ·subst e1 e2
  exact ⟨.tup (.cons (.tup (.cons (.ref _) (.cons (.ref _) .nil))) (.cons (.ref _) (.cons (.ref _) .nil))),lH_nofl hm⟩
 subst e1 e2
 rw [hl,lH_shift hm]
 show wpSs P _ _ (wL C n hh t h none none) (H₀++nB h s mv) _ _ _
 have gp:=g.gp
 refine seqS (sn1_ok k0 h0 hl A hT hm c2.any ?_)
 refine seqS (sn2_ok h0 hl (Nat.le_refl _) hm hn hhl hlm gp ?_)
 refine seqS (sn3_ok h0 hl (Nat.le_refl _) hm hn hhl hlm gp k0 (fun v hv=>(c3 v hv).any) ?_)
 refine seqS (sn4_ok h0 hl (Nat.le_refl _) hm hn hhl hlm gp k0 (fun c i=>(c4 c i).any) fun o=>?_)
 refine seqS (sn5_ok hl gp.most (WB.of hm (fun m hm=>g.gs.marks m hm) hlm (Nat.le_trans g.gs.most (by decide)) (by have:=g.gs.len;have:=g.gs.most;(first | lia | omega)) gp) fun o B w=>?_)
 exact sn6_ok h0 hl hh' hL gp.most w
end
open PySem PyProof.Rows PySem.SeqAt
noncomputable def cs_again (fs fm:Nat):List CS:=[
 .assignT [2,3] (.idx (.idx (.var 1) (.const (.str "strips"))) (.neg (.const (.int (1))))),
 .assign 4 (.call fm [(.var 2),(.var 3)]),
 .ite (.cmp .Eq (.var 4) (.lst []))
  [      .ret (.const (.bool true))]
  [],
 .assign 5 (.idx (.var 4) (.neg (.const (.int (1))))),
 .while (.cmp .In (.var 5) (.call fm [(.var 2),(.var 3)]))
  [      .iteI (.not (.call fs [(.var 0),(.var 1),(.var 5)]))
    [          .ret (.const (.bool false))]
    [],
   .assignT [2,3] (.idx (.idx (.var 1) (.const (.str "strips"))) (.neg (.const (.int (1)))))],
 .retI (.and (.call fs [(.var 0),(.var 1),(.var 5)]) (.and (.call fs [(.var 0),(.var 1),(.const .none)]) (.call fs [(.var 0),(.var 1),(.var 5)])))]
inductive AE (X Y:AH) (r:AV) (H':AH):Prop
 | mk (e:r = .bool true) (T:List St) (s:St) (mv:List AV):MI T s mv→H' = lay X T s mv Y→AE X Y r H'
section
variable {P:PC} {l:Lv} {k:Nat} {H:AH} {Xc:Str→Prop} {C:Addr} {T:List St} {s:St} {mv:List AV} {v:AV} {Q:AV→AH→Prop} {n:Nat} {loc:Loc} {X Y ex:AH} {f fs fm:Nat} {ps rest:List Str} {cell:Int} {p:Option Pin}
theorem lay_app:lay X T s mv Y++ex = lay X T s mv (Y++ex):=by unfold lay;simp only [List.append_assoc,List.cons_append]
theorem lay_len:(lay X T s mv Y).length = X.length + (5 + Y.length):=by unfold lay;simp;(first | lia | omega)
theorem MK.va (h:MK v):VA s H v:=by
 by_cases q:v ∈ mvs s.ns s.ms
 ·exact .mv q
 ·have hi:inM s.ns s.ms (mD v) = false:=inM_mk h q
  have hf:=h.fv
  have hd:∀ H,Rd H 9 v (mD v):=fun H=>h.rd (k:=8)
  have go:Odd s v (mD v):=by
   cases h with
   | f=>exact .tup (.inl rfl) (fun w hw=>by cases List.mem_singleton.mp hw;exact fun _ _=>.str _) hd hi
   | l=>exact .tup (.inl rfl) (fun w hw=>by cases List.mem_singleton.mp hw;exact fun _ _=>.str _) hd hi
   | p j=>exact .tup (.inr rfl) (fun w hw=>by
     simp only [List.mem_cons,List.not_mem_nil,or_false] at hw
     rcases hw with rfl | rfl
     ·exact fun _ _=>.str _
     ·exact fun _ _=>.int _) hd hi
  exact .odd go h.not_none (hf _ _) (fun ex=>hd _) (.inl hi)
theorem callDeed (A:At5 H n T s mv) (hm:MKs mv) (hc:CallJ P l f [dF T s mv,.int cell] (DK s) Xc) (hQ:∀ v ex,(ex = [] ∨ ex = [[.str "first"]])→VA s (H++ex) v→Q v (H++ex)):CallP P l f [dR n,.int cell] H Q Xc:=by
 refine CallP.frz (.cons (.dict (.cons (.frz (fun h=>nomatch h) A.c (FVs.sS.app (FVs.one (FV.sS s))).rens) (.cons (.frz (fun h=>nomatch h) A.d hm.fv.rens) (.cons (.frz (fun h=>nomatch h) A.e (FVs.sP.app (FVs.one (FV.sP s))).rens) .nil)))) (.cons (.int _) .nil)) hc (fun v Hc h=>?_) fun v Hc h=>?_
 ·cases h with
  | none=>exact ⟨.none,fun _ h=>nomatch h⟩
  | mv h=>exact ⟨(mvs_mk h).nofl,fun _ h=>nomatch h⟩
  | odd _ _ _ _ h=>exact ⟨h,fun _ h=>nomatch h⟩
  | lst=>exact ⟨.ref _,fun xs h=>List.mem_singleton.mp h ▸ .cons (.str _) .nil⟩
 ·cases h with
  | none=>exact hQ _ [] (.inl rfl) .none
  | mv h=>rw [((mvs_mk h).fv [] []).noref];exact hQ _ [] (.inl rfl) (.mv h)
  | odd h1 h2 h3 h4 h5=>rw [(h1.fv [] []).noref];exact hQ _ [] (.inl rfl) (.odd h1 h2 (h1.fv _ _) (fun _=>h4 _) h3)
  | lst=>exact hQ (.ref H.length) _ (.inr rfl) (.odd .lst rfl (.frz (fun h=>nomatch h) at_end (.cons (.str _) .nil)) (fun ex=>.ref (get_ap at_end) (.cons (.str _ strOk_first) .nil)) (.inl inM_lst))
theorem and_call {es:List CE} {vs:List AV} {j:IE} (hk:0 < l.k) (hq:l.q = true) (hp:∃ n,l.p = some n) (he:∀ K:List AV→AH→Prop,K vs H→wpEs P l (fun _=>False) es loc H K) (h:CallR P l f vs H fun r H'=>r = .bool true∧wpI P l j loc H' Q):wpI P l (.and (.call f es) j) loc H Q:=by
 rw [j_and,j_call]
 exact ⟨hk,hq,hp,he _ (h.mono fun r H' ⟨e,h⟩=>by subst e;exact h)⟩
theorem not_call {es:List CE} {vs:List AV} {A:AV→AH→Prop} (hk:0 < l.k) (hq:l.q = true) (hp:∃ n,l.p = some n) (he:∀ K:List AV→AH→Prop,K vs H→wpEs P l (fun _=>False) es loc H K) (h:CallR P l f vs H fun r H'=>r = .bool true∧A (.bool false) H'):wpI P l (.not (.call f es)) loc H A:=by
 rw [j_not,j_call]
 exact ⟨hk,hq,hp,he _ (h.mono fun r H' ⟨e,h⟩=>by subst e;exact h)⟩
noncomputable def gL (C:Addr) (n:Nat) (s:St) (o4 o5:Option AV):Loc:=[some (oR C n),some (dR n),some (.fl (s.ns.map AV.int)),some (.fl (s.ms.map AV.str)),o4,o5]
noncomputable def gM (loc:Loc):Nat:=match loc with
 | _::_::some (.fl xs)::_=>xs.length
 | _=>0
theorem gL_drop {fr:List (Env × Obj)} {N:Nat} {o4:Option AV} {R:Loc→AH→Prop} (hN:(lay X T s mv Y).length = N) (hX:FH X) (hY:FH Y) (hm:MKs mv) (hv:FV v) {s0:St} (hR:R (gL C X.length s0 none (some v)) (lay X T s mv Y)):Cut (some ⟨N,fr⟩) R (gL C X.length s0 o4 (some v)) (lay X T s mv Y++ex):=by
 have h4:X.length + 4 < (lay X T s mv Y).length:=by rw [lay_len];(first | lia | omega)
 refine ⟨_,_,.inr ⟨List.range (lay X T s mv Y).length,fun P e i hi=>range_at (by cases e;rw [hN];exact hi),.front (RensH.self (hX.lay hY hm)),?_⟩,hR⟩
 exact .keep (BV.oR (by (first | lia | omega)) _) (.keep (BV.dR h4 _) (.keep (FVs.ints.fl _ _) (.keep (FVs.strs.fl _ _) (.drop (.keep (hv _ _) .nil)))))
theorem as_strips {o2 o3 o4 o5:Option AV} {K:List CS} {Qn:Loc→AH→Prop} {Qr:AV→AH→Prop} {Qx:Str→Loc→AH→Prop} (hq:l.q = true) (M:MI T s mv) (h:wpSs P l K (gL C X.length s o4 o5) (lay X T s mv Y) Qn Qr Qx):wpSs P l (.assignT [2,3] (.idx (.idx (.var 1) (.const (.str "strips"))) (.neg (.const (.int (1)))))::K) [some (oR C X.length),some (dR X.length),o2,o3,o4,o5] (lay X T s mv Y) Qn Qr Qx:=by
 (refine wpSs_cons.mpr ?_;tm_at "wps")
 refine ⟨hq,dx_strips (i_snoc (A:=T.map sS) (At5.lay (X:=X)).c (snoc_small (by rw [List.length_map];exact Nat.le_trans M.t90 (by decide))) ?_)⟩
 rw [seq_sS]
 exact h
theorem e_mvs {o4 o5:Option AV} (hk:0 < l.k) (hc:CallJ P l fm [.fl (s.ns.map AV.int),.fl (s.ms.map AV.str)] (fun v H=>v = .ref 0∧H = [mvs s.ns s.ms]) Xc) (h:Q (.ref H.length) (H++[mvs s.ns s.ms])):wpE P l Xc (.call fm [(.var 2),(.var 3)]) (gL C n s o4 o5) H Q:=by
 unfold gL
 tm_at "wps"
 exact ⟨hk,call_mvs strs_ren hc h⟩
inductive AgI (C:Addr) (X Y:AH) (v:AV) (lc:Loc) (H:AH):Prop
 | mk (T:List St) (s:St) (mv:List AV):MI T s mv→H = lay X T s mv Y→lc = gL C X.length s none (some v)→AgI C X Y v lc H
inductive AgB (C:Addr) (X Y:AH) (s:St) (v:AV) (lc:Loc) (H:AH):Prop
 | mk (T':List St) (s':St) (mv':List AV):lc = gL C X.length s none (some v)→MI T' s' mv'→H = lay X T' s' mv' (Y++[mvs s.ns s.ms])→s'.ns.length < s.ns.length→AgB C X Y s v lc H
theorem again_ok (F:FnIs P f ps rest (cs_again fs fm)) (hp:ps.length = 2) (hr:rest.length = 4) (hk:1 < l.k) (hq:l.q = true) (hX:FH X) (hY:FH Y) (M:MI T s mv)
  (hs:∀ Y T s mv v p,FH Y→MI T s mv→VA s (lay X T s mv Y) v→CallR P ⟨l.k - 1,l.q,p⟩ fs [oR C X.length,dR X.length,v] (lay X T s mv Y) (SE X s Y v))
  (hmv:∀ s:St,GS s.ns s.ms→CallJ P ⟨l.k - 1,l.q,none⟩ fm [.fl (s.ns.map AV.int),.fl (s.ms.map AV.str)] (fun v H=>v = .ref 0∧H = [mvs s.ns s.ms]) fun _=>False) :
  CallR P l f [oR C X.length,dR X.length] (lay X T s mv Y) (AE X Y):=by
 have k0:=Nat.sub_pos_of_lt hk
 refine CallR.nrm (F.callR (Nat.lt_trans (by decide) hk) (by rw [hp];rfl) fun fr=>?_)
 rw [hr]
 rw [hq] at hs hmv ⊢
 have fmv:∀ s:St,FVs (mvs s.ns s.ms):=fun s v hv=>(mvs_mk hv).fv
 generalize hN:(lay X T s mv Y).length = N
 have hNe:∀ {T s mv},(lay X T s mv Y).length = N:=fun {T s mv}=>by rw [← hN,lay_len,lay_len]
 unfold cs_again
 refine as_strips rfl M ?_
 refine seqS (e_mvs k0 (hmv s M.gt.gs).any ?_)
 rw [hN]
 show wpSs P _ _ (gL C X.length s (some (.ref N)) none) _ _ _ _
 refine seqS ⟨fun lc H=>lc = gL C X.length s (some (.ref N)) none∧(∃ ex,H = lay X T s mv Y++mvs s.ns s.ms::ex)∧mvs s.ns s.ms ≠ [],?_,?_⟩
 ·rintro lc H ⟨rfl,⟨ex,rfl⟩,hne⟩
  obtain ⟨A,v,eA⟩:∃ A v,mvs s.ns s.ms = A++[v]:=⟨_,_,(List.dropLast_concat_getLast hne).symm⟩
  have vk:MK v:=mvs_mk (ns:=s.ns) (ms:=s.ms) (by rw [eA];exact List.mem_append_right _ (.head _))
  have hs':(A++[v]).length ≤ smallN:=by
   rw [← eA]
   exact Nat.le_trans (mvs_len _ _) (by have:=M.gt.gs.len;have:=M.gt.gs.most;exact Nat.le_trans (show s.ms.length + 1 + 1 ≤ 40 by (first | lia | omega)) (by decide))
  refine seqS (i_snoc (A:=A) (y:=v) ((mid_at 0 hN).trans (congrArg some eA)) hs' ?_)
  show wpSs P _ _ (gL C X.length s (some (.ref N)) (some v)) _ _ _ _
  refine seqS ⟨AgI C X Y v,fun lc _=>gM lc,gL_drop hN hX hY M.mks vk.fv ⟨T,s,mv,M,rfl,rfl⟩,?_⟩
  rintro lc H ⟨T,s,mv,M,rfl,rfl⟩
  rw [w_cmp,w_var]
  refine opt_is (x:=v) rfl (e_mvs k0 (hmv s M.gt.gs).any ⟨_,_,_,vk.rd (k:=8),at_end,Rds.mvs (k:=8) fun m hm=>mvs_mk hm,?_⟩)
  show onBool (.bool (inM s.ns s.ms (mD v))) _
  refine br_if (fun hi=>?_) fun _=>?_
  ·have hv:v ∈ mvs s.ns s.ms:=Classical.byContradiction fun q=>by rw [inM_mk vk q] at hi;cases hi
   rw [lay_app]
   refine seqS ⟨AgB C X Y s v,?_,not_call k0 rfl ⟨_,rfl⟩ (fun K hK=>hK) ((hs _ T s mv v _ (hY.app (FH.cons (fmv s) fun _ h=>absurd h List.not_mem_nil)) M (.mv hv)).mono fun r H' ⟨e,T',s',mv',M',e',hl⟩=>⟨e,Cut.here ⟨T',s',mv',rfl,M',e',hl hv⟩⟩)⟩
   rintro lc H ⟨T',s',mv',rfl,M',rfl,hl⟩
   refine as_strips rfl M' ?_
   rw [← lay_app]
   exact gL_drop hNe hX hY M'.mks vk.fv ⟨⟨T',s',mv',M',rfl,rfl⟩,by show (s'.ns.map AV.int).length < (s.ns.map AV.int).length;rw [List.length_map,List.length_map];exact hl⟩
  ·refine gL_drop hNe hX hY M.mks vk.fv ?_
   refine seqS (and_call k0 rfl ⟨_,rfl⟩ (fun K hK=>hK) ((hs _ T s mv v _ hY M vk.va).mono fun r H' ⟨e,T,s,mv,M,e',_⟩=>⟨e,?_⟩))
   subst e'
   refine and_call k0 rfl ⟨_,rfl⟩ (fun K hK=>hK) ((hs _ T s mv .none _ hY M .none).mono fun r H' ⟨e,T,s,mv,M,e',_⟩=>⟨e,?_⟩)
   subst e'
   refine ⟨k0,rfl,⟨_,rfl⟩,(hs _ T s mv v _ hY M vk.va).mono fun r H' ⟨e,T,s,mv,M,e',_⟩=>?_⟩
   subst e e'
   exact Nrm.here hNe (hX.lay hY M.mks) (fun _ _=>.bool true) ⟨rfl,T,s,mv,M,rfl⟩
 ·unfold gL
  tm_at "wps"
  refine ⟨by decide,_,_,.ref (get_ap (mid_at 0 hN)) (Rds.mvs (k:=7) fun m h=>mvs_mk h),.ref at_end .nil,?_⟩
  cases q:mvs s.ns s.ms with
  | nil=>
   show Nrm N (AE X Y) (.bool true) (lay X T s mv Y++[[]]++[[]])
   rw [List.append_assoc]
   exact Nrm.same hN (hX.lay hY M.mks) (fun _ _=>.bool true) ⟨rfl,T,s,mv,M,rfl⟩
  | cons a b=>exact Cut.here ⟨rfl,⟨[[]],by rw [List.append_assoc];rfl⟩,List.cons_ne_nil _ _⟩
end
open PySem PyProof.Rows PySem.SeqAt
noncomputable def pl0 (K:Nat):List (List Int):=(List.range K).map fun (j:Nat)=>[(j:Int)]
theorem pl0_len (K:Nat):(pl0 K).length = K:=by simp [pl0]
noncomputable def rg:CE:=.prim .range [(.prim .len [(.idx (.var 0) (.const (.int (0))))])]
noncomputable def c1 (fc:Nat):CE:=.lst [(.tup [(.call fc [(.var 0)]),(.var 1)])]
noncomputable def oH (N:Nat) (ns:List Int) (ms:List Str):AH:=rowsH (pl0 ns.length)++[refs N ns.length,ns.map AV.int,ms.map AV.str,[.tup [.tup [.ref (N + (ns.length + 1)),.ref (N + (ns.length + 2))],.ref (N + ns.length)]],[]]
section
variable {P:PC} {l:Lv} {f fc:Nat} {ns:List Int} {ms:List Str} {C:Addr} {Q:AV→AH→Prop} {H A R:AH} {Xc:Str→Prop} {loc:Loc}
theorem oH_len {N:Nat}:(oH N ns ms).length = ns.length + 5:=by unfold oH;rw [List.length_append,rowsH_len,pl0_len];rfl
theorem rng_pl0 (K:Nat):((rngList 0 (K:Int) 1).map AV.int).map (fun x=>[x]) = rowsH (pl0 K):=by
 rw [rngList1]
 unfold rowsH pl0
 simp only [List.map_map]
 rw [show ((K:Int) - 0).toNat = K by omega]
 apply List.map_congr_left
 intro j _
 simp
theorem rng_len (K:Nat):((rngList 0 (K:Int) 1).map AV.int).length = K:=by rw [List.length_map,rngList1_len];(first | lia | omega)
theorem rng_ren {K:Nat} {φ:List Nat}:Rens φ H ((rngList 0 (K:Int) 1).map AV.int) ((rngList 0 (K:Int) 1).map AV.int):=Rens.ints _
theorem rows_comp (hq:l.q = true) {u:AV} (hv:loc[0]?.join = some (.tup [.fl (ns.map AV.int),u])) (hs:ns.length ≤ 30) (h:Q (.ref (H.length + ns.length)) (H++(rowsH (pl0 ns.length)++[refs H.length ns.length]))):wpE P l Xc (.comp (.lst [(.var 0)]) [] [] 0 rg) loc H Q:=by
 unfold rg
 tm_at "wps"
 rw [hv]
 tm_at "wps"
 rw [List.length_map]
 refine ⟨hq,hq,hq,Nat.le_trans hs (by decide),⟨by decide,by (first | lia | omega),by decide⟩,?_⟩
 refine ⟨_,_,_,rfl,by rw [rng_len];exact Nat.le_trans hs (by decide),rng_ren,.nil,comp_lists (fun x=>[x]) (fun x hx k hk=>opt_bind0 hk) ?_ ?_⟩
 ·intro x hx n k hk
  obtain ⟨i,_,rfl⟩:=List.mem_map.mp hx
  refine opt_bind0 ?_
  tm_at "wps"
  exact ⟨by decide,[0],[[.int i]],.ref 0,RenH.one rfl (.cons (.int i) .nil),.ref rfl,.inr ⟨.ref 0,fun ys hy=>List.mem_singleton.mp hy ▸ .cons (.int i) .nil⟩,hk⟩
 ·rw [rng_pl0,rng_len,refs_of,rowsH_len,pl0_len]
  exact h
theorem fnew_ok (D:InitIs P f (.lst [(.var 0)]) rg (c1 fc) (.lst [])) (hk:2 < l.k) (hq:l.q = true) (hC:P.cls = some C) (g:GS ns ms) (hc:CallJ P ⟨l.k - 2,l.q,none⟩ fc [stV ns ms] (Gives ns ms) fun _=>False) :
  NewJ P l [stV ns ms] (fun v H=>v = .obj C ["states","row"] [.ref (ns.length + 3),.ref (ns.length + 4)]∧H = oH 0 ns ms):=by
 refine new_of D (Nat.lt_of_succ_lt hk) (fun _=>?_) hC
 refine rows_comp (u:=.fl (ms.map AV.str)) hq rfl g.most ?_
 have eL:(rowsH (pl0 ns.length)++[refs 0 ns.length]).length = ns.length + 1:=by rw [List.length_append,rowsH_len,pl0_len];rfl
 show wpE P _ _ (c1 fc) _ (rowsH (pl0 ns.length)++[refs 0 ns.length]) _
 unfold c1
 tm_at "wps"
 refine ⟨by show 0 < l.k - 2;omega,callGives (.cons (.tup (.cons (.fl (Rens.ints _)) (.cons (.fl (Rens.strs _)) .nil))) .nil) hc ?_⟩
 rw [eL]
 refine ⟨by decide,by decide,by decide,?_⟩
 simp only [List.length_append,rowsH_len,pl0_len,List.length_cons,List.length_nil,List.append_assoc,List.cons_append,List.nil_append]
 unfold oH
 exact ⟨by simp,by simp⟩
end
open PySem PyProof.Rows PySem.SeqAt
inductive Pk (φ:List Nat) (H:AH):List Nat→AH→Prop
 | nil:Pk φ H [] []
 | cons {j:Nat} {r:List Nat} {xs ys:List AV} {b:AH}:H[j]? = some xs→Rens φ H xs ys→Pk φ H r b→Pk φ H (j::r) (ys::b)
theorem Pk.len {φ r:List Nat} {H b:AH} (p:Pk φ H r b):r.length = b.length:=by induction p<;>simp_all
theorem Pk.dom {φ r:List Nat} {H b:AH} (p:Pk φ H r b):∀ j ∈ r,j < H.length:=by
 induction p with
 | nil=>exact fun j h=>absurd h List.not_mem_nil
 | cons e _ _ ih=>exact fun j h=>(List.mem_cons.mp h).elim (fun q=>q ▸ (List.getElem?_eq_some_iff.mp e).1) (ih j)
theorem Pk.get {φ r:List Nat} {H b:AH} (p:Pk φ H r b):∀ {i j:Nat} {xs:List AV},r[i]? = some j→H[j]? = some xs→∃ ys,b[i]? = some ys∧Rens φ H xs ys:=by
 induction p with
 | nil=>intro i j xs e;simp at e
 | cons e q _ ih=>
  intro i j xs ei ej
  cases i with
  | zero=>cases ei;rw [e] at ej;cases ej;exact ⟨_,rfl,q⟩
  | succ i=>exact ih ei ej
theorem RenH.ofPk {φ:List Nat} {H b:AH} (p:Pk φ H φ b) (nd:φ.Nodup):RenH φ H b:=⟨p.len,nd,p.dom,fun _ _ _ a c=>p.get a c⟩
theorem rens_rowsK {φ:List Nat} {H:AH}:∀ {pl:List (List Int)} {r:Nat},(∀ i,i < pl.length→r + i ∉ φ)→(∀ i xs,(rowsH pl)[i]? = some xs→H[r + i]? = some xs)→Rens φ H ((List.range' r pl.length).map AV.ref) (pilesAV pl)
 | [],_,_,_=>.nil
 | p::pl,r,h0,h=>by
  refine .cons (.frz (h0 0 (Nat.succ_pos _)) (h 0 _ rfl) (Rens.ints p)) (rens_rowsK (pl:=pl) (r:=r + 1) (fun i hi=>?_) fun i xs e=>?_)
  ·rw [Nat.add_assoc,Nat.add_comm 1 i]
   exact h0 (i + 1) (Nat.succ_lt_succ hi)
  ·rw [Nat.add_assoc,Nat.add_comm 1 i]
   exact h (i + 1) xs e
noncomputable def HH (T0:List St) (s0:St) (m0:List AV) (T1:List St) (s1:St) (m1:List AV) (L:List AV):AH:=lay [] T0 s0 m0 (lay [] T1 s1 m1 [L])
noncomputable def lL (C:Addr) (sc:List Int) (o4 o8 o9 o10:Option AV):Loc:=[some (.fl (sc.map AV.int)),none,none,some (.fl [oR C 0,oR C 5]),o4,none,some (.fl [dR 0,dR 5]),some (.ref 10),o8,o9,o10]
noncomputable def dct (a b c:Nat):AV:=.dict ["strips","moves","piles"] [.ref a,.ref b,.ref c]
noncomputable def s0 (ns:List Int) (ms:List Str):St:=⟨ns,ms,pl0 ns.length⟩
noncomputable def tH (C:Addr) (K N:Nat):AH:=[[oV C (.ref (4 + (K + 3))) (.ref (4 + (K + 4))),oV C (.ref (K + 9 + (K + 3))) (.ref (K + 9 + (K + 4)))],pilesAV (pl0 K),
 [.tup [.ref 0,.ref 1]],[],[.ref (N + 1)],[.tup [.ref 0,.ref 1]],[],[.ref (N + 1)],[dct (N + 2) (N + 3) (N + 4),dct (N + 5) (N + 6) (N + 7)],[]]
noncomputable def fH (C:Addr) (ns:List Int) (ms:List Str) (h0 h1:List AV) (N:Nat):AH:=[ns.map AV.int,ms.map AV.str,h0,h1]++(oH 4 ns ms++(oH (ns.length + 9) ns ms++tH C ns.length N))
section
variable {C:Addr} {ns:List Int} {ms:List Str} {h0 h1:List AV} {fr:List (Env × Obj)} {sc:List Int} {m:Int}
theorem oH_at {A R:AH} {N:Nat} (hA:A.length = N) (j:Nat) {x:List AV} (e:([refs N ns.length,ns.map AV.int,ms.map AV.str,[.tup [.tup [.ref (N + (ns.length + 1)),.ref (N + (ns.length + 2))],.ref (N + ns.length)]],[]]:AH)[j]? = some x):(A++(oH N ns ms++R))[N + (ns.length + j)]? = some x:=by
 rw [mid_at _ hA]
 refine get_ap ?_
 unfold oH
 rw [mid_at j (by rw [rowsH_len,pl0_len])]
 exact e
theorem oH_row {A R:AH} {N:Nat} (hA:A.length = N):∀ i xs,(rowsH (pl0 ns.length))[i]? = some xs→(A++(oH N ns ms++R))[N + i]? = some xs:=fun i xs e=>by
 rw [mid_at _ hA]
 exact get_ap (get_ap e)
theorem oH_frz {A R:AH} {N:Nat} {φ:List Nat} (hA:A.length = N) (hφ:∀ i,i < ns.length + 3→N + i ∉ φ):Rens φ (A++(oH N ns ms++R)) [.tup [.tup [.ref (N + (ns.length + 1)),.ref (N + (ns.length + 2))],.ref (N + ns.length)]] [sA (s0 ns ms)]:=by
 refine .cons (.tup (.cons (.tup (.cons (.frz (hφ _ (by (first | lia | omega))) (oH_at hA 1 rfl) (Rens.ints _)) (.cons (.frz (hφ _ (by (first | lia | omega))) (oH_at hA 2 rfl) (Rens.strs _)) .nil))) (.cons (.frz (hφ _ (by (first | lia | omega))) (oH_at hA 0 rfl) ?_) .nil))) .nil
 rw [← refs_of]
 have:=rens_rowsK (φ:=φ) (H:=A++(oH N ns ms++R)) (pl:=pl0 ns.length) (r:=N) (fun i hi=>hφ i (by rw [pl0_len] at hi;(first | lia | omega))) (oH_row hA)
 rw [pl0_len] at this
 exact this
noncomputable def phi (a b:Nat):List Nat:=a::(a + 1)::([4,5,6,0,1,7,8,9,11]:List Nat).map (b + ·)
theorem phi_mem {a b i:Nat} (h:i ∈ phi a b):i = a ∨ i = a + 1 ∨ ∃ t ∈ ([4,5,6,0,1,7,8,9,11]:List Nat),b + t = i:=by
 rcases List.mem_cons.mp h with h | h
 ·exact .inl h
 ·rcases List.mem_cons.mp h with h | h
  ·exact .inr (.inl h)
  ·exact .inr (.inr (List.mem_map.mp h))
theorem phi_nd {a b:Nat} (h:a + 1 < b):(phi a b).Nodup:=by
 have no:∀ i,i < b→i ∉ ([4,5,6,0,1,7,8,9,11]:List Nat).map (b + ·):=fun i hi hm=>by
  obtain ⟨t,_,e⟩:=List.mem_map.mp hm
  exact absurd hi (Nat.not_lt.mpr (e ▸ Nat.le_add_right b t))
 refine List.nodup_cons.mpr ⟨fun hm=>?_,List.nodup_cons.mpr ⟨no _ h,?_⟩⟩
 ·rcases List.mem_cons.mp hm with e | hm
  ·exact absurd e (Nat.ne_of_lt (Nat.lt_succ_self a))
  ·exact no a (Nat.lt_of_succ_lt h) hm
 ·exact List.Pairwise.map (b + ·) (fun x y hne e=>hne (Nat.add_left_cancel e)) (by decide:([4,5,6,0,1,7,8,9,11]:List Nat).Nodup)
theorem phi_lo {a b i:Nat} (h:i < a) (hab:a < b):i ∉ phi a b:=fun hm=>by
 rcases phi_mem hm with rfl | rfl | ⟨t,_,rfl⟩
 ·exact Nat.lt_irrefl _ h
 ·exact Nat.lt_asymm h (Nat.lt_succ_self a)
 ·exact Nat.lt_irrefl _ (Nat.lt_of_le_of_lt (Nat.le_add_right b t) (Nat.lt_trans h hab))
theorem phi_mid {a b i:Nat} (h:a + 1 < i) (h':i < b):i ∉ phi a b:=fun hm=>by
 rcases phi_mem hm with rfl | rfl | ⟨t,_,rfl⟩
 ·exact Nat.lt_asymm h (Nat.lt_succ_self i)
 ·exact Nat.lt_irrefl _ h
 ·exact Nat.lt_irrefl _ (Nat.lt_of_le_of_lt (Nat.le_add_right b t) h')
theorem phi_hi {a b t:Nat} (h:a + 1 < b) (ht:t ∉ ([4,5,6,0,1,7,8,9,11]:List Nat)):b + t ∉ phi a b:=fun hm=>by
 rcases phi_mem hm with e | e | ⟨u,hu,e⟩
 ·exact absurd (Nat.lt_of_succ_lt h) (Nat.not_lt.mpr (e ▸ Nat.le_add_right b t))
 ·exact absurd h (Nat.not_lt.mpr (e ▸ Nat.le_add_right b t))
 ·exact ht (Nat.add_left_cancel e ▸ hu)
theorem law_norm {N:Nat} (hN:N = ns.length + 9 + (ns.length + 5)):RenL (some ⟨0,fr⟩) [some (.fl (sc.map AV.int)),some (.tup [.ref 0,.ref 1]),some (.tup [.ref 2,.ref 3]),some (.ref N),none,some (.ref (N + 1)),some (.ref (N + 8)),some (.ref (N + 9)),none,none,none,some (.rng 16 m 1)] (fH C ns ms h0 h1 N)
  (lL C sc none none none none++[some (.rng 16 m 1)]) (HH [] (s0 ns ms) [] [] (s0 ns ms) [] []):=by
 subst hN
 have hab:4 + (ns.length + 3) + 1 < ns.length + 9 + (ns.length + 3):=by (first | lia | omega)
 have e1:([ns.map AV.int,ms.map AV.str,h0,h1]++oH 4 ns ms).length = ns.length + 9:=by rw [List.length_append,oH_len];show 4 + (ns.length + 5) = _;(first | lia | omega)
 have e2:(([ns.map AV.int,ms.map AV.str,h0,h1]++oH 4 ns ms)++oH (ns.length + 9) ns ms).length = ns.length + 9 + (ns.length + 5):=by rw [List.length_append,e1,oH_len]
 have l1:∀ i,i < ns.length + 3→4 + i ∉ phi (4 + (ns.length + 3)) (ns.length + 9 + (ns.length + 3)):=fun i hi=>phi_lo (Nat.add_lt_add_left hi 4) (Nat.lt_of_succ_lt hab)
 have l2:∀ i,i < ns.length + 3→ns.length + 9 + i ∉ phi (4 + (ns.length + 3)) (ns.length + 9 + (ns.length + 3)):=fun i hi=>phi_mid (by (first | lia | omega)) (Nat.add_lt_add_left hi _)
 generalize hK:ns.length = K at hab e1 e2 l1 l2 ⊢
 have f2:fH C ns ms h0 h1 (K + 9 + (K + 5)) = ([ns.map AV.int,ms.map AV.str,h0,h1]++oH 4 ns ms)++(oH (K + 9) ns ms++tH C K (K + 9 + (K + 5))):=by unfold fH;rw [hK,List.append_assoc]
 have f3:fH C ns ms h0 h1 (K + 9 + (K + 5)) = (([ns.map AV.int,ms.map AV.str,h0,h1]++oH 4 ns ms)++oH (K + 9) ns ms)++tH C K (K + 9 + (K + 5)):=by rw [f2,← List.append_assoc]
 have t:∀ j,(fH C ns ms h0 h1 (K + 9 + (K + 5)))[K + 9 + (K + 5) + j]? = (tH C K (K + 9 + (K + 5)))[j]?:=fun j=>by rw [f3];exact mid_at j e2
 have o1:∀ j x,([refs 4 K,ns.map AV.int,ms.map AV.str,[.tup [.tup [.ref (4 + (K + 1)),.ref (4 + (K + 2))],.ref (4 + K)]],[]]:AH)[j]? = some x→(fH C ns ms h0 h1 (K + 9 + (K + 5)))[4 + (K + j)]? = some x:=fun j x e=>by
  subst hK
  exact oH_at (A:=[_,_,_,_]) rfl j e
 have o2:∀ j x,([refs (K + 9) K,ns.map AV.int,ms.map AV.str,[.tup [.tup [.ref (K + 9 + (K + 1)),.ref (K + 9 + (K + 2))],.ref (K + 9 + K)]],[]]:AH)[j]? = some x→(fH C ns ms h0 h1 (K + 9 + (K + 5)))[K + 9 + (K + j)]? = some x:=fun j x e=>by
  subst hK
  rw [f2]
  exact oH_at e1 j e
 have p1:Rens (phi (4 + (K + 3)) (K + 9 + (K + 3))) (fH C ns ms h0 h1 (K + 9 + (K + 5))) [.tup [.tup [.ref (4 + (K + 1)),.ref (4 + (K + 2))],.ref (4 + K)]] [sA (s0 ns ms)]:=by
  subst hK
  exact oH_frz (A:=[_,_,_,_]) rfl l1
 have p2:Rens (phi (4 + (K + 3)) (K + 9 + (K + 3))) (fH C ns ms h0 h1 (K + 9 + (K + 5))) [.tup [.tup [.ref (K + 9 + (K + 1)),.ref (K + 9 + (K + 2))],.ref (K + 9 + K)]] [sA (s0 ns ms)]:=by
  subst hK
  rw [f2]
  exact oH_frz e1 l2
 have n0:(fH C ns ms h0 h1 (K + 9 + (K + 5)))[0]? = some (ns.map AV.int):=rfl
 have n1:(fH C ns ms h0 h1 (K + 9 + (K + 5)))[1]? = some (ms.map AV.str):=rfl
 have hp:pilesAV (pl0 K) = pilesAV (s0 ns ms).pl:=by rw [← hK];rfl
 have t1:=t 1
 have t0:=t 0
 have t2:=t 2
 have t3:=t 3
 have t4:=t 4
 have t5:=t 5
 have t6:=t 6
 have t7:=t 7
 have t8:=t 8
 have t9:=t 9
 have a3:=o1 3 _ rfl
 have a4:=o1 4 _ rfl
 have b3:=o2 3 _ rfl
 have b4:=o2 4 _ rfl
 generalize fH C ns ms h0 h1 (K + 9 + (K + 5)) = G at *
 have hi:∀ u,u ∉ ([4,5,6,0,1,7,8,9,11]:List Nat)→K + 9 + (K + 3) + u ∉ phi (4 + (K + 3)) (K + 9 + (K + 3)):=fun u hu=>phi_hi hab hu
 have z0:∀ i,i < 4→i ∉ phi (4 + (K + 3)) (K + 9 + (K + 3)):=fun i hi=>phi_lo (Nat.lt_of_lt_of_le hi (Nat.le_add_right 4 _)) (Nat.lt_of_succ_lt hab)
 have nd:=phi_nd hab
 have p3:Rens (phi (4 + (K + 3)) (K + 9 + (K + 3))) G [.tup [.ref 0,.ref 1]] [sS (s0 ns ms)]:=.cons (.tup (.cons (.frz (z0 0 (by decide)) n0 (Rens.ints _)) (.cons (.frz (z0 1 (by decide)) n1 (Rens.strs _)) .nil))) .nil
 have p4:Rens (phi (4 + (K + 3)) (K + 9 + (K + 3))) G [.ref (K + 9 + (K + 5) + 1)] [sP (s0 ns ms)]:=.cons (.frz (hi 3 (by decide)) t1 (hp ▸ rens_piles _)) .nil
 have pk:Pk (phi (4 + (K + 3)) (K + 9 + (K + 3))) G (phi (4 + (K + 3)) (K + 9 + (K + 3))) (HH [] (s0 ns ms) [] [] (s0 ns ms) [] []):=
  .cons a3 p1 (.cons a4 .nil (.cons t2 p3 (.cons t3 .nil (.cons t4 p4 (.cons b3 p2 (.cons b4 .nil (.cons t5 p3 (.cons t6 .nil (.cons t7 p4 (.cons t9 .nil .nil))))))))))
 have h0':=hi 2 (by decide)
 have h8':=hi 10 (by decide)
 refine .inr ⟨phi (4 + (K + 3)) (K + 9 + (K + 3)),fun P e i hi=>(by cases e;exact absurd hi (Nat.not_lt_zero _)),RenH.ofPk pk nd,?_⟩
 exact .keep (.fl (Rens.ints _)) (.drop (.drop (.keep (.frz h0' t0 (.cons (.obj (.cons (.ref rfl) (.cons (.ref rfl) .nil))) (.cons (.obj (.cons (.ref rfl) (.cons (.ref rfl) .nil))) .nil))) (.drop (.drop (.keep (.frz h8' t8 (.cons (.dict (.cons (.ref rfl) (.cons (.ref rfl) (.cons (.ref rfl) .nil)))) (.cons (.dict (.cons (.ref rfl) (.cons (.ref rfl) (.cons (.ref rfl) .nil)))) .nil))) (.keep (.ref rfl) (.drop (.drop (.drop (.keep (.rng _ _ _) .nil)))))))))))
end
open PySem PyProof.Rows PySem.SeqAt
noncomputable def la1 (fl:Nat):CS:=.assign 1 (.call fl [(.var 0)])
noncomputable def la2:CS:=.assign 2 (.tup [(.prim .list [(.idx (.var 1) (.const (.int (0))))]),(.prim .list [(.idx (.var 1) (.const (.int (1))))])])
noncomputable def la3:CS:=.assign 3 (.lst [(.new [(.var 2)]),(.new [(.var 2)])])
noncomputable def la4:CS:=.mut .clear (.idx (.var 2) (.const (.int (0)))) []
noncomputable def la5:CS:=.mut .append (.idx (.var 2) (.const (.int (1)))) [(.const (.str ""))]
noncomputable def la6:CS:=.assign 5 (.comp (.lst [(.var 0)]) [] [] 0 (.prim .range [(.prim .len [(.idx (.var 1) (.const (.int (0))))])]))
noncomputable def la7:CS:=.assign 6 (.lst [(.dct ["strips","moves","piles"] [(.lst [(.var 1)]),(.lst []),(.lst [(.var 5)])]),(.dct ["strips","moves","piles"] [(.lst [(.var 1)]),(.lst []),(.lst [(.var 5)])])])
noncomputable def la8:CS:=.assign 7 (.lst [])
section
variable {P:PC} {k:Nat} {C:Addr} {ns:List Int} {ms:List Str} {fr:List (Env × Obj)} {sc:List Int} {fl:Nat} {l:Lv} {H:AH} {Q:AV→AH→Prop} {vs:List AV} {Qn:Loc→AH→Prop} {Qr:AV→AH→Prop} {Qx:Str→Loc→AH→Prop}
theorem oH_shift {n N:Nat}:(oH N ns ms).map (AV.shifts n) = oH (n + N) ns ms:=by
 unfold oH
 rw [List.map_append,rowsH_shift]
 simp only [List.map_cons,List.map_nil,refs_shift,FVs.ints.shifts,FVs.strs.shifts]
 congr 1
 simp only [Nat.add_assoc]
 rfl
theorem oH_nofl {N:Nat}:∀ xs ∈ oH N ns ms,NoFls xs:=fun xs hx=>by
 rcases List.mem_append.mp hx with hx | hx
 ·obtain ⟨r,_,rfl⟩:=List.mem_map.mp hx
  exact NoFls.ints _
 ·simp only [List.mem_cons,List.not_mem_nil,or_false] at hx
  rcases hx with rfl | rfl | rfl | rfl | rfl
  ·exact .of fun v hv=>by obtain ⟨j,_,rfl⟩:=refs_mem hv;exact .ref _
  ·exact NoFls.ints _
  ·exact NoFls.strs _
  ·exact .cons (.tup (.cons (.tup (.cons (.ref _) (.cons (.ref _) .nil))) (.cons (.ref _) .nil))) .nil
  ·exact .nil
theorem callNew (hr:Rens [] H vs [stV ns ms]) (hc:NewJ P l [stV ns ms] (fun v H=>v = .obj C ["states","row"] [.ref (ns.length + 3),.ref (ns.length + 4)]∧H = oH 0 ns ms)) (h:Q (oV C (.ref (H.length + (ns.length + 3))) (.ref (H.length + (ns.length + 4)))) (H++oH H.length ns ms)):NewP P l vs H Q:=by
 refine ⟨_,hr,?_⟩
 intro A s S xs C' a1 a2 a3 a4 a5 a6 a7
 refine wpAny_mono (hc A s S xs C' a1 a2 a3 a4 a5 a6 a7) (fun rv s' h'=>?_) fun _ _ e=>e
 obtain ⟨h1,tk,ρ,v,Hc,b1,b2,b3,b4,b5,e1,e2⟩:=h'
 refine ⟨h1,tk,ρ,v,Hc,b1,b2,b3,b4,b5,.inr ?_,?_⟩
 ·subst e1 e2
  exact ⟨.obj (.cons (.ref _) (.cons (.ref _) .nil)),oH_nofl⟩
 ·subst e1 e2
  rw [oH_shift]
  exact h
theorem NewJ.any {q:Bool} {p p':Option Pin} {Q:AV→AH→Prop} (h:NewJ P ⟨k,q,p⟩ vs Q):NewJ P ⟨k,q,p'⟩ vs Q:=h
theorem law_head {K:List CS} (hk:1 < k) (hC:P.cls = some C) (hl:CallJ P ⟨k,true,none⟩ fl [.fl (sc.map AV.int)] (GivesStrip 2000) fun _=>False)
  (hn:∀ ns ms,GS ns ms→NewJ P ⟨k,true,none⟩ [stV ns ms] (fun v H=>v = .obj C ["states","row"] [.ref (ns.length + 3),.ref (ns.length + 4)]∧H = oH 0 ns ms))
  (h:∀ ns ms N,GS ns ms→N = ns.length + 9 + (ns.length + 5)→wpSs P ⟨k,true,some ⟨0,fr⟩⟩ K [some (.fl (sc.map AV.int)),some (.tup [.ref 0,.ref 1]),some (.tup [.ref 2,.ref 3]),some (.ref N),none,some (.ref (N + 1)),some (.ref (N + 8)),some (.ref (N + 9)),none,none,none] (fH C ns ms [] (ms.map AV.str++[.str ""]) N) Qn Qr (fun _ _ _=>False)) :
  wpSs P ⟨k,true,some ⟨0,fr⟩⟩ (la1 fl::la2::la3::la4::la5::la6::la7::la8::K) [some (.fl (sc.map AV.int)),none,none,none,none,none,none,none,none,none,none] [] Qn Qr (fun _ _ _=>False):=by
 unfold la1
 (refine wpSs_cons.mpr ?_;tm_at "wps")
 refine ⟨Nat.lt_trans (by decide) hk,call_strip (.cons (.fl (Rens.ints sc)) .nil) hl.any fun ns ms hS=>?_⟩
 have g:GS ns ms:=⟨hS.len,hS.most,hS.marks⟩
 have hN:=h ns ms _ g rfl
 unfold la2
 (refine wpSs_cons.mpr ?_;tm_at "wps")
 refine ⟨rfl,mapI_le g.sn,rfl,mapS_le g.sm,by decide,?_⟩
 unfold la3
 (refine wpSs_cons.mpr ?_;tm_at "wps")
 refine ⟨hk,C,hC,?_⟩
 tm_at "wps"
 have hr2:∀ R:AH,Rens [] ([ns.map AV.int,ms.map AV.str,ns.map AV.int,ms.map AV.str]++R) [.tup [.ref 2,.ref 3]] [stV ns ms]:=fun R=>.cons (.tup (.cons (.frz (fun h=>nomatch h) rfl (Rens.ints _)) (.cons (.frz (fun h=>nomatch h) rfl (Rens.strs _)) .nil))) .nil
 have e1:([ns.map AV.int,ms.map AV.str,ns.map AV.int,ms.map AV.str]++oH 4 ns ms).length = ns.length + 9:=by rw [List.length_append,oH_len];exact Nat.add_comm 4 (ns.length + 5)
 refine callNew (C:=C) (ns:=ns) (ms:=ms) (hr2 []) (hn ns ms g).any ?_
 rw [w_new]
 refine ⟨hk,C,hC,?_⟩
 tm_at "wps"
 refine callNew (C:=C) (ns:=ns) (ms:=ms) (hr2 _) (hn ns ms g).any ?_
 show 2 ≤ smallN∧wpSs P _ _ _ (_++oH ([ns.map AV.int,ms.map AV.str,ns.map AV.int,ms.map AV.str]++oH 4 ns ms).length ns ms++[[_,oV C (.ref (([ns.map AV.int,ms.map AV.str,ns.map AV.int,ms.map AV.str]++oH 4 ns ms).length + _)) (.ref (([ns.map AV.int,ms.map AV.str,ns.map AV.int,ms.map AV.str]++oH 4 ns ms).length + _))]]) _ _ _
 rw [e1]
 refine ⟨by decide,?_⟩
 have e2:([ns.map AV.int,ms.map AV.str,ns.map AV.int,ms.map AV.str]++oH 4 ns ms++oH (ns.length + 9) ns ms).length = ns.length + 9 + (ns.length + 5):=by rw [List.length_append,e1,oH_len]
 have e1':(ns.map AV.int::ms.map AV.str::ns.map AV.int::ms.map AV.str::oH 4 ns ms).length = ns.length + 9:=e1
 rw [e1']
 have e2':(ns.map AV.int::ms.map AV.str::ns.map AV.int::ms.map AV.str::oH 4 ns ms++oH (ns.length + 9) ns ms).length = ns.length + 9 + (ns.length + 5):=e2
 rw [e2']
 have e3:(oH 4 ns ms++oH (ns.length + 9) ns ms).length + 4 = ns.length + 9 + (ns.length + 5):=by rw [← e2'];rfl
 generalize ns.length + 9 + (ns.length + 5) = N at hN e3 ⊢
 simp only [List.cons_append]
 unfold la4
 (refine wpSs_cons.mpr ?_;tm_at "wps")
 refine ⟨2,_,_,rfl,rfl,m_clear (mapI_le g.sn),?_⟩
 unfold la5
 (refine wpSs_cons.mpr ?_;tm_at "wps")
 refine ⟨3,_,_,rfl,rfl,m_app (by rw [List.length_map];exact Nat.lt_of_le_of_lt g.m30 (by decide)),?_⟩
 unfold la6
 (refine wpSs_cons.mpr ?_;tm_at "wps")
 rw [List.length_map]
 refine ⟨rfl,rfl,rfl,g.sn,⟨by decide,⟨Int.le_trans (by decide) (Int.natCast_nonneg _),Int.le_trans (Int.ofNat_le.mpr g.most) (by decide)⟩,by decide⟩,?_⟩
 refine ⟨_,_,[],rfl,by rw [rng_len];exact Nat.le_trans g.most (by decide),rng_ren,.nil,comp_map (fun x=>.fl [x]) (fun x hx k hk=>opt_bind0 hk) ?_ ?_⟩
 ·intro x hx n k hk
  obtain ⟨i,_,rfl⟩:=List.mem_map.mp hx
  refine opt_bind0 ?_
  tm_at "wps"
  exact ⟨by decide,eltK.frz (.frz (fun h=>nomatch h) rfl (.cons (.int i) .nil)) (.inl ⟨rfl,rfl⟩) hk⟩
 have ep:((rngList 0 (ns.length:Int) 1).map AV.int).map (fun x=>AV.fl [x]) = pilesAV (pl0 ns.length):=by
  rw [rngList1]
  unfold pilesAV pl0
  simp only [List.map_map]
  rw [Int.sub_zero,Int.toNat_natCast]
  apply List.map_congr_left
  intro j _
  simp
 rw [ep]
 generalize hW:[oV C (AV.ref (4 + (ns.length + 3))) (AV.ref (4 + (ns.length + 4))),oV C (AV.ref (ns.length + 9 + (ns.length + 3))) (AV.ref (ns.length + 9 + (ns.length + 4)))] = W
 have e5:(oH 4 ns ms++oH (ns.length + 9) ns ms++[W]).length + 1 + 1 + 1 + 1 + ([]:AH).length = N + 1:=by rw [List.length_append (bs:=[W])];simp only [List.length_cons,List.length_nil];(first | lia | omega)
 rw [e5]
 have hf:fH C ns ms [] (ms.map AV.str++[AV.str ""]) N = (ns.map AV.int::ms.map AV.str::[]::(ms.map AV.str++[AV.str ""])::(oH 4 ns ms++oH (ns.length + 9) ns ms++[W]++([]++[pilesAV (pl0 ns.length)])))++[[.tup [.ref 0,.ref 1]],[],[.ref (N + 1)],[.tup [.ref 0,.ref 1]],[],[.ref (N + 1)],[dct (N + 2) (N + 3) (N + 4),dct (N + 5) (N + 6) (N + 7)],[]]:=by
  unfold fH tH
  rw [hW]
  simp only [List.append_assoc,List.cons_append,List.nil_append]
 have hG:(ns.map AV.int::ms.map AV.str::[]::(ms.map AV.str++[AV.str ""])::(oH 4 ns ms++oH (ns.length + 9) ns ms++[W]++([]++[pilesAV (pl0 ns.length)]))).length = N + 2:=by
  have q:(oH 4 ns ms++oH (ns.length + 9) ns ms++[W]++([]++[pilesAV (pl0 ns.length)])).length = (oH 4 ns ms++oH (ns.length + 9) ns ms++[W]).length + 1:=List.length_append
  show _ + 1 + 1 + 1 + 1 = _
  rw [q]
  have:([]:AH).length = 0:=rfl
  (first | lia | omega)
 rw [hf] at hN
 generalize (ns.map AV.int::ms.map AV.str::[]::(ms.map AV.str++[AV.str ""])::(oH 4 ns ms++oH (ns.length + 9) ns ms++[W]++([]++[pilesAV (pl0 ns.length)]))) = G at hN hG ⊢
 unfold la7
 (refine wpSs_cons.mpr ?_;tm_at "wps")
 refine ⟨by decide,by decide,by decide,by decide,by decide,by decide,by decide,?_⟩
 unfold la8
 (refine wpSs_cons.mpr ?_;tm_at "wps")
 refine ⟨by decide,?_⟩
 simp only [List.length_append,List.length_cons,List.length_nil,hG,List.append_assoc,List.cons_append,List.nil_append]
 exact hN
end
open PySem PyProof.Rows PySem.SeqAt
noncomputable def no9:List CS:=[.ret (.const (.bool false))]
noncomputable def wA (fc:Nat):CS:=.assign 9 (.call fc [(.var 0),(.var 8)])
noncomputable def wB:CS:=.assign 10 (.bin .Mod (.var 9) (.const (.int (2))))
noncomputable def wC (fs fd:Nat):CS:=.iteI (.not (.call fs [(.idx (.var 3) (.var 10)),(.idx (.var 6) (.var 10)),(.call fd [(.idx (.var 6) (.var 10)),(.var 9)])])) no9 []
noncomputable def wE (ft:Nat):CS:=.iteI (.and (.pure (.cmp .Gt (.bin .Mod (.bin .FloorDiv (.var 9) (.const (.int (128)))) (.const (.int (4)))) (.const (.int (0))))) (.not (.call ft [(.idx (.var 3) (.var 4)),(.idx (.var 6) (.var 4)),(.var 7),(.bin .Add (.bin .FloorDiv (.var 9) (.const (.int (512)))) (.var 4))]))) no9 []
noncomputable def wD (ft:Nat):CS:=.for1 4 (.prim .range [(.const (.int (2)))]) [wE ft]
noncomputable def wF (fc fs fd ft:Nat):CS:=.for1 8 (.prim .range [(.const (.int (16))),(.prim .min [(.const (.int (40))),(.prim .len [(.var 0)])])]) [wA fc,wB,wC fs fd,wD ft]
noncomputable def wG (fa ft:Nat):CS:=.iteI (.or (.not (.call fa [(.idx (.var 3) (.var 10)),(.idx (.var 6) (.var 10))])) (.not (.call ft [(.idx (.var 3) (.var 10)),(.idx (.var 6) (.var 10)),(.var 7),(.var 10)]))) no9 []
noncomputable def wH (fa ft:Nat):CS:=.for1 10 (.prim .range [(.const (.int (2)))]) [wG fa ft]
noncomputable def wZ:CS:=.ret (.prim .all [(.comp (.and (.cmp .Eq (.var 0) (.var 1)) (.cmp .Eq (.var 2) (.var 3))) [] [] 4 (.var 7))])
noncomputable def cs_law (fl fc fs fd ft fa:Nat):List CS:=la1 fl::la2::la3::la4::la5::la6::la7::la8::wF fc fs fd ft::wH fa ft::[wZ]
noncomputable def HEs (L:List AV):Prop:=∀ e ∈ L,HE e
theorem HEs.fv {L:List AV} (h:HEs L):FVs L:=fun e he=>(h e he).fv
inductive LI (L:List AV) (H:AH):Prop
 | mk (he:HEs L) (T0:List St) (s0:St) (m0:List AV) (T1:List St) (s1:St) (m1:List AV):MI T0 s0 m0→MI T1 s1 m1→H = HH T0 s0 m0 T1 s1 m1 L→LI L H
theorem LI.hes {L:List AV} {H:AH} (h:LI L H):HEs L:=by obtain ⟨h,_⟩:=h;exact h
inductive Wh:Nat→Nat→Prop
 | a:Wh 0 0
 | b:Wh 1 5
theorem FH.nil:FH []:=fun _ h=>absurd h List.not_mem_nil
section
variable {L:List AV} {H:AH} {w n:Nat} {C:Addr} {e:AV}
theorem LI.at (h:LI L H) (hw:Wh w n):∃ X T s m Y,X.length = n∧FH X∧FH Y∧MI T s m∧H = lay X T s m Y∧∀ T' s' m',MI T' s' m'→LI L (lay X T' s' m' Y):=by
 obtain ⟨hL,T0,s0,m0,T1,s1,m1,M0,M1,rfl⟩:=h
 cases hw with
 | a=>exact ⟨[],T0,s0,m0,lay [] T1 s1 m1 [L],rfl,.nil,FH.nil.lay (FH.cons hL.fv .nil) M1.mks,M0,rfl,fun T' s' m' M'=>⟨hL,_,_,_,_,_,_,M',M1,rfl⟩⟩
 | b=>exact ⟨lay [] T0 s0 m0 [],T1,s1,m1,[L],rfl,FH.nil.lay .nil M0.mks,FH.cons hL.fv .nil,M1,rfl,fun T' s' m' M'=>⟨hL,_,_,_,_,_,_,M0,M',rfl⟩⟩
theorem LI.fh (h:LI L H):FH H:=by
 obtain ⟨hL,T0,s0,m0,T1,s1,m1,M0,M1,rfl⟩:=h
 exact FH.nil.lay (FH.nil.lay (FH.cons hL.fv .nil) M1.mks) M0.mks
theorem LI.len (h:LI L H):H.length = 11:=by
 obtain ⟨hL,T0,s0,m0,T1,s1,m1,M0,M1,rfl⟩:=h
 rfl
theorem LI.held (h:LI L H):H[10]? = some L:=by
 obtain ⟨hL,T0,s0,m0,T1,s1,m1,M0,M1,rfl⟩:=h
 rfl
theorem LI.put (h:LI L H) (he:HE e):LI (L++[e]) (H.set 10 (L++[e])):=by
 obtain ⟨hL,T0,s0,m0,T1,s1,m1,M0,M1,rfl⟩:=h
 exact ⟨fun x hx=>(List.mem_append.mp hx).elim (hL x) fun q=>List.mem_singleton.mp q ▸ he,_,_,_,_,_,_,M0,M1,rfl⟩
theorem Wh.o (hw:Wh w n):([oR C 0,oR C 5]:List AV)[w]? = some (oR C n):=by cases hw<;>rfl
theorem Wh.d (hw:Wh w n):([dR 0,dR 5]:List AV)[w]? = some (dR n):=by cases hw<;>rfl
theorem Wh.of (h:w < 2):∃ n,Wh w n:=by
 match w,h with
 | 0,_=>exact ⟨0,.a⟩
 | 1,_=>exact ⟨5,.b⟩
end
noncomputable def FVo (o:Option AV):Prop:=∀ w,o = some w→FV w
theorem FVo.int (i:Int):FVo (some (.int i)):=fun _ e=>by cases e;exact fun _ _=>.int i
theorem FVo.none:FVo none:=fun _ e=>nomatch e
section
variable {P:PC} {k:Nat} {C:Addr} {fr:List (Env × Obj)} {sc:List Int} {L:List AV} {H:AH} {w n:Nat} {o4 o8 o9 o10:Option AV} {loc:Loc} {l:Lv} {Q:AV→AH→Prop} {f fs fd ft fa fc:Nat} {Qn:Loc→AH→Prop} {Qr:AV→AH→Prop} {it:AV} {c t:Int} {Xc:Str→Prop}
theorem lL_bv (h4:FVo o4) (h8:FVo o8) (h9:FVo o9) (h10:FVo o10) (hi:FV it):∀ v,some v ∈ lL C sc o4 o8 o9 o10++[some it]→BV 11 v:=fun v hv=>by
 unfold lL at hv
 simp only [List.cons_append,List.nil_append,List.mem_cons,List.not_mem_nil,or_false,Option.some.injEq,reduceCtorEq,false_or] at hv
 rcases hv with rfl | rfl | e | rfl | rfl | e | e | e | rfl
 ·exact FVs.ints.fl.bv
 ·exact fun H=>.fl (.cons (BV.oR (n:=11) (by decide) H) (.cons (BV.oR (n:=11) (by decide) H) .nil))
 ·exact (h4 v e.symm).bv
 ·exact fun H=>.fl (.cons (BV.dR (n:=11) (by decide) H) (.cons (BV.dR (n:=11) (by decide) H) .nil))
 ·exact .ref (by decide)
 ·exact (h8 v e.symm).bv
 ·exact (h9 v e.symm).bv
 ·exact (h10 v e.symm).bv
 ·exact hi.bv
structure C9 (P:PC) (k:Nat) (C:Addr) (sc:List Int) (fs fd ft fa fc:Nat):Prop where
 step:∀ {X Y:AH} {T:List St} {s:St} {m:List AV} {v:AV},FH X→FH Y→MI T s m→VA s (lay X T s m Y) v→∀ p,CallR P ⟨k,true,p⟩ fs [oR C X.length,dR X.length,v] (lay X T s m Y) (SE X s Y v)
 deed:∀ {T:List St} {s:St} {m:List AV} {c:Int},MI T s m→CallJ P ⟨k,true,none⟩ fd [dF T s m,.int c] (DK s) fun _=>False
 stands:∀ {H:AH} {n hh:Nat} {T:List St} {s:St} {m L:List AV} {t:Int},FH H→At5 H n T s m→MI T s m→H[hh]? = some L→L.length ≤ 1000→∀ p,CallR P ⟨k,true,p⟩ ft [oR C n,dR n,.ref hh,.int t] H (fun r H'=>r = .bool true∧∃ e,HE e∧H' = H.set hh (L++[e]))
 again:∀ {X Y:AH} {T:List St} {s:St} {m:List AV},FH X→FH Y→MI T s m→∀ p,CallR P ⟨k,true,p⟩ fa [oR C X.length,dR X.length] (lay X T s m Y) (AE X Y)
 cell:∀ j:Int,0 ≤ j→j < 100000→CallJ P ⟨k,true,none⟩ fc [.fl (sc.map AV.int),.int j] IsCell fun _=>False
theorem C9.stand (c9:C9 P k C sc fs fd ft fa fc) (h:LI L H) (hw:Wh w n) (hL:L.length ≤ 1000) (p:Option Pin):CallR P ⟨k,true,p⟩ ft [oR C n,dR n,.ref 10,.int t] H (fun r H'=>r = .bool true∧∃ e,LI (L++[e]) H'):=by
 obtain ⟨X,T,s,m,Y,rfl,_,_,M,eH,_⟩:=h.at hw
 exact (c9.stands h.fh (eH ▸ At5.lay) M h.held hL p).mono fun r H' ⟨e1,e,he,e2⟩=>⟨e1,e,e2 ▸ h.put he⟩
theorem wC_ok {x:Int} (c9:C9 P k C sc fs fd ft fa fc) (hk:0 < k) (h:LI L H) (hw:Wh w n) (ew:c % 2 = (w:Int)) (h4:FVo o4) (hi:FV it) (hQ:∀ H',LI L H'→Qn (lL C sc o4 (some (.int x)) (some (.int c)) (some (.int (c % 2)))++[some it]) H'):wpS P ⟨k,true,some ⟨0,fr⟩⟩ (wC fs fd) (lL C sc o4 (some (.int x)) (some (.int c)) (some (.int (c % 2)))++[some it]) H Qn Qr (fun _ _ _=>False):=by
 obtain ⟨X,T,s,m,Y,hX,fX,fY,M,eH,put⟩:=h.at hw
 unfold wC
 rw [q_iteI]
 refine ⟨fun lc H=>lc = lL C sc o4 (some (.int x)) (some (.int c)) (some (.int (c % 2)))++[some it]∧LI L H,fun _ _ ⟨a,b⟩=>a ▸ hQ _ b,?_⟩
 rw [j_not,j_call]
 refine ⟨hk,rfl,⟨_,rfl⟩,?_⟩
 unfold lL
 tm_at "wps"
 refine i_pos w rfl (show 2 ≤ smallN by decide) ew (hw.o (C:=C)) (i_pos w rfl (show 2 ≤ smallN by decide) ew hw.d ⟨hk,i_pos w rfl (show 2 ≤ smallN by decide) ew hw.d (callDeed (T:=T) (s:=s) (mv:=m) (eH ▸ hX ▸ At5.lay) M.mks (c9.deed M).any fun v ex hex va=>?_)⟩)
 have fex:FH ex:=by
  rcases hex with rfl | rfl
  ·exact .nil
  ·exact FH.cons (fun w hw=>by cases List.mem_singleton.mp hw;exact fun _ _=>.str _) .nil
 subst hX
 subst eH
 rw [lay_app] at va ⊢
 refine (c9.step fX (fY.app fex) M va _).mono fun r H' ⟨e1,T',s',m',M',e2,_⟩=>?_
 subst e1 e2
 rw [← lay_app]
 have h':=put _ _ _ M'
 refine Cut.front (loc:=lL C sc o4 (some (.int x)) (some (.int c)) (some (.int (c % 2)))++[some it]) (fun P e=>by cases e;exact Nat.zero_le _) ?_ h'.fh.bv ⟨rfl,h'⟩
 rw [h'.len]
 exact lL_bv h4 (.int _) (.int _) (.int _) hi
end
open PySem PyProof.Rows PySem.SeqAt
section
variable {P:PC} {k:Nat} {C:Addr} {fr:List (Env × Obj)} {sc:List Int} {L:List AV} {H:AH} {w n:Nat} {o4 o8 o9 o10:Option AV} {loc:Loc} {l:Lv} {Q:AV→AH→Prop} {f fs fd ft fa fc:Nat} {Qn:Loc→AH→Prop} {Qr:AV→AH→Prop} {it:AV} {c t:Int} {Xc:Str→Prop}
theorem rng2 {u:AV} {j:Nat} (h:((rngList 0 2 1).map AV.int)[j]? = some u):j < 2∧u = .int (j:Int):=by
 obtain ⟨rfl,h2⟩:=rngList1_get h
 exact ⟨Int.ofNat_lt.mp h2,by rw [Int.zero_add]⟩
theorem rng2_len:((rngList 0 2 1).map AV.int).length = 2:=by rw [List.length_map,rngList1_len];rfl
theorem FV.rng (a b c:Int):FV (.rng a b c):=fun _ _=>.rng a b c
theorem or_not_call {es:List CE} {vs:List AV} {j:IE} (hk:0 < l.k) (hq:l.q = true) (hp:∃ n,l.p = some n) (he:∀ K:List AV→AH→Prop,K vs H→wpEs P l (fun _=>False) es loc H K) (h:CallR P l f vs H fun r H'=>r = .bool true∧wpI P l j loc H' Q):wpI P l (.or (.not (.call f es)) j) loc H Q:=by
 rw [j_or,j_not,j_call]
 exact ⟨hk,hq,hp,he _ (h.mono fun r H' ⟨e,h⟩=>by subst e;exact h)⟩
theorem wE_ok {x:Int} {N:Nat} (c9:C9 P k C sc fs fd ft fa fc) (hk:0 < k) (h:LI L H) (hw:Wh w n) (hL:L.length ≤ N) (hN:N ≤ 1000) {r2:AV} (hQ:∀ L' H',LI L' H'→L'.length ≤ N + 1→Qn (lL C sc (some (.int (w:Int))) (some (.int x)) (some (.int c)) o10++[some it]++[some r2]) H'):wpS P ⟨k,true,some ⟨0,fr⟩⟩ (wE ft) (lL C sc (some (.int (w:Int))) (some (.int x)) (some (.int c)) o10++[some it]++[some r2]) H Qn Qr (fun _ _ _=>False):=by
 unfold wE
 rw [q_iteI]
 refine ⟨fun lc H=>lc = lL C sc (some (.int (w:Int))) (some (.int x)) (some (.int c)) o10++[some it]++[some r2]∧∃ L',LI L' H∧L'.length ≤ N + 1,fun _ _ ⟨a,L',b,b'⟩=>a ▸ hQ L' _ b b',?_⟩
 rw [j_and,j_pure]
 unfold lL
 tm_at "wps"
 refine ⟨⟨by decide,by decide⟩,by decide,brk (fun _=>?_) fun _=>?_⟩
 ·refine not_call (vs:=[oR C n,dR n,.ref 10,.int (c / 512 + (w:Int))]) hk rfl ⟨_,rfl⟩ (fun K hK=>?_) ((c9.stand h hw (Nat.le_trans hL hN) _).mono fun r H' ⟨e1,e,he⟩=>⟨e1,?_⟩)
  ·tm_at "wps"
   exact i_pos w rfl (show 2 ≤ smallN by decide) rfl (hw.o (C:=C)) (i_pos w rfl (show 2 ≤ smallN by decide) rfl hw.d ⟨⟨by decide,by decide⟩,hK⟩)
  ·exact Cut.here ⟨rfl,_,he,by rw [List.length_append];exact Nat.add_le_add_right hL 1⟩
 ·exact Cut.here ⟨rfl,L,h,Nat.le_succ_of_le hL⟩
inductive WDI (C:Addr) (sc:List Int) (N:Nat) (x c:Int) (o10:Option AV) (it:AV) (j:Nat) (lc:Loc) (H:AH):Prop
 | mk (o4:Option AV) (L':List AV):FVo o4→LI L' H→L'.length ≤ N + j→lc = lL C sc o4 (some (.int x)) (some (.int c)) o10++[some it]→WDI C sc N x c o10 it j lc H
theorem wD_ok {x:Int} {N:Nat} (c9:C9 P k C sc fs fd ft fa fc) (hk:0 < k) (h:LI L H) (h4:FVo o4) (hL:L.length ≤ N) (hN:N ≤ 900) (hQ:∀ o4 L' H',FVo o4→LI L' H'→L'.length ≤ N + 2→Qn (lL C sc o4 (some (.int x)) (some (.int c)) o10++[some it]) H'):wpS P ⟨k,true,some ⟨0,fr⟩⟩ (wD ft) (lL C sc o4 (some (.int x)) (some (.int c)) o10++[some it]) H Qn Qr (fun _ _ _=>False):=by
 refine st_for (.rng 0 2 1) ((rngList 0 2 1).map AV.int) (WDI C sc N x c o10 it) rfl (fun K hK=>⟨rfl,⟨by decide,by decide,by decide⟩,hK⟩) (by rw [rng2_len];decide) (fun _ _ _ _=>rfl) (TurnTo.here rfl ⟨o4,L,h4,h,hL,rfl⟩) ?_ ?_
 ·rintro j lc H u _ hu ⟨o4,L',h4,h',hL',rfl⟩
  obtain ⟨hj,rfl⟩:=rng2 hu
  obtain ⟨n,hw⟩:=Wh.of hj
  refine seqS (wE_ok (N:=N + j) c9 hk h' hw hL' (Nat.le_trans (Nat.add_le_add hN (Nat.le_of_lt hj)) (by decide)) fun L' H' h' hL'=>?_)
  exact TurnTo.here rfl ⟨_,L',.int _,h',hL',rfl⟩
 ·rintro lc H ⟨o4,L',h4,h',hL',rfl⟩
  rw [rng2_len] at hL'
  exact hQ o4 L' H h4 h' hL'
theorem pl0_flat (K:Nat):(pl0 K).flatten.length = K:=by
 have:∀ l:List Nat,(l.map fun (j:Nat)=>[(j:Int)]).flatten.length = l.length:=fun l=>by
  induction l with
  | nil=>rfl
  | cons a l ih=>rw [List.map_cons,List.flatten_cons,List.length_append,ih];simp;(first | lia | omega)
 exact (this _).trans List.length_range
theorem m40 (n:Nat):0 ≤ (if (n:Int) < 40 then (n:Int) else 40)∧(if (n:Int) < 40 then (n:Int) else 40) ≤ 40:=by
 split
 ·exact ⟨Int.natCast_nonneg _,Int.le_of_lt ‹_›⟩
 ·exact ⟨by decide,Int.le_refl _⟩
theorem mod2 (c:Int):∃ w:Nat,w < 2∧c % 2 = (w:Int):=⟨(c % 2).toNat,(Int.toNat_lt (Int.emod_nonneg _ (by decide))).mpr (Int.emod_lt_of_pos _ (by decide)),(Int.toNat_of_nonneg (Int.emod_nonneg _ (by decide))).symm⟩
inductive WFI (C:Addr) (sc:List Int) (i:Nat) (lc:Loc) (H:AH):Prop
 | mk (o4 o8 o9 o10:Option AV) (L':List AV):FVo o4→LI L' H→L'.length ≤ 2 * i→lc = lL C sc o4 o8 o9 o10→WFI C sc i lc H
theorem wF_ok {ns:List Int} {ms:List Str} {N:Nat} (c9:C9 P k C sc fs fd ft fa fc) (hk:0 < k) (hsc:sc.length ≤ 63) (g:GS ns ms) (hN:N = ns.length + 9 + (ns.length + 5)) (hQ:∀ o4 o8 o9 o10 L H,LI L H→L.length ≤ 500→Qn (lL C sc o4 o8 o9 o10) H) :
  wpS P ⟨k,true,some ⟨0,fr⟩⟩ (wF fc fs fd ft) [some (.fl (sc.map AV.int)),some (.tup [.ref 0,.ref 1]),some (.tup [.ref 2,.ref 3]),some (.ref N),none,some (.ref (N + 1)),some (.ref (N + 8)),some (.ref (N + 9)),none,none,none] (fH C ns ms [] (ms.map AV.str++[.str ""]) N) Qn Qr (fun _ _ _=>False):=by
 have M0:MI [] (s0 ns ms) []:=.one ⟨g,pl0_len _,by
  have:(pl0 ns.length).flatten.length ≤ 30:=by
   rw [pl0_flat]
   exact g.most
  exact this⟩
 obtain ⟨m,em,hm⟩:∃ m:Int,(if (sc.length:Int) < 40 then (sc.length:Int) else 40) = m∧0 ≤ m∧m ≤ 40:=⟨_,rfl,m40 _⟩
 have hlen:((rngList 16 m 1).map AV.int).length ≤ 24:=by rw [List.length_map,rngList1_len];exact Int.toNat_le.mpr (Int.sub_le_sub_right hm.2 16)
 refine st_for (H₁:=fH C ns ms [] (ms.map AV.str++[.str ""]) N) (.rng 16 m 1) ((rngList 16 m 1).map AV.int) (WFI C sc) rfl (fun K hK=>?_) (Nat.le_trans hlen (by decide)) (fun _ _ _ _=>rfl) ?_ ?_ ?_
 ·tm_at "wps"
  rw [List.length_map]
  refine ⟨rfl,rfl,rfl,Nat.le_trans hsc (by decide),?_⟩
  rw [em]
  exact ⟨⟨by decide,⟨Int.le_trans (by decide) hm.1,Int.le_trans hm.2 (by decide)⟩,by decide⟩,hK⟩
 ·exact ⟨_,_,_,law_norm hN,rfl,rfl,none,none,none,none,[],.none,⟨fun _ h=>absurd h List.not_mem_nil,_,_,_,_,_,_,M0,M0,rfl⟩,Nat.le_refl _,rfl⟩
 ·rintro i lc H u _ hu ⟨o4,o8,o9,o10,L',h4,h',hL',rfl⟩
  have hi:i < 24:=Nat.lt_of_lt_of_le (List.getElem?_eq_some_iff.mp hu).1 hlen
  obtain ⟨rfl,hi2⟩:=rngList1_get hu
  unfold wA lL
  (refine wpSs_cons.mpr ?_;tm_at "wps")
  refine ⟨hk,call_cell (fun j a b=>(c9.cell j a b).any) (by (first | lia | omega)) (by (first | lia | omega)) fun c hc0 hc1=>?_⟩
  unfold wB
  (refine wpSs_cons.mpr ?_;tm_at "wps")
  refine ⟨by decide,?_⟩
  obtain ⟨w,hw2,ew⟩:∃ w:Nat,w < 2∧c % 2 = (w:Int):=mod2 c
  obtain ⟨n,hw⟩:=Wh.of hw2
  refine seqS (wC_ok c9 hk h' hw ew h4 (FV.rng 16 m 1) fun H' h'=>?_)
  refine seqS (wD_ok c9 hk h' h4 hL' (Nat.le_trans (Nat.mul_le_mul_left 2 (Nat.le_of_lt hi)) (by decide)) fun o4 L' H' h4 h' hL'=>?_)
  exact TurnTo.here rfl ⟨o4,_,_,_,L',h4,h',hL',rfl⟩
 ·rintro lc H ⟨o4,o8,o9,o10,L',h4,h',hL',rfl⟩
  exact hQ _ _ _ _ _ _ h' (Nat.le_trans hL' (Nat.le_trans (Nat.mul_le_mul_left 2 hlen) (by decide)))
inductive WHI (C:Addr) (sc:List Int) (o4 o8 o9:Option AV) (j:Nat) (lc:Loc) (H:AH):Prop
 | mk (o10:Option AV) (L':List AV):LI L' H→L'.length ≤ 500 + j→lc = lL C sc o4 o8 o9 o10→WHI C sc o4 o8 o9 j lc H
inductive WGI (C:Addr) (sc:List Int) (o4 o8 o9:Option AV) (j:Nat) (lc:Loc) (H:AH):Prop
 | mk (L':List AV):lc = lL C sc o4 o8 o9 (some (.int (j:Int)))++[some (.rng 0 2 1)]→LI L' H→L'.length ≤ 500 + j + 1→WGI C sc o4 o8 o9 j lc H
theorem wH_ok (c9:C9 P k C sc fs fd ft fa fc) (hk:0 < k) (h:LI L H) (hL:L.length ≤ 500) (hQ:∀ o4 o8 o9 o10 L H,LI L H→L.length ≤ 502→Qn (lL C sc o4 o8 o9 o10) H):wpS P ⟨k,true,some ⟨0,fr⟩⟩ (wH fa ft) (lL C sc o4 o8 o9 o10) H Qn Qr (fun _ _ _=>False):=by
 refine st_for (.rng 0 2 1) ((rngList 0 2 1).map AV.int) (WHI C sc o4 o8 o9) rfl (fun K hK=>⟨rfl,⟨by decide,by decide,by decide⟩,hK⟩) (by rw [rng2_len];decide) (fun _ _ _ _=>rfl) (TurnTo.here rfl ⟨o10,L,h,hL,rfl⟩) ?_ ?_
 ·rintro j lc H u _ hu ⟨o10,L',h',hL',rfl⟩
  obtain ⟨hj,rfl⟩:=rng2 hu
  obtain ⟨n,hw⟩:=Wh.of hj
  unfold wG
  refine seqS ?_
  rw [q_iteI]
  refine ⟨WGI C sc o4 o8 o9 j,?_,?_⟩
  ·rintro _ _ ⟨L',rfl,b,b'⟩
   exact TurnTo.here rfl ⟨_,L',b,b',rfl⟩
  obtain ⟨X,T,s,m,Y,hX,fX,fY,M,eH,put⟩:=h'.at hw
  subst hX eH
  refine or_not_call (vs:=[oR C X.length,dR X.length]) hk rfl ⟨_,rfl⟩ (fun K hK=>?_) ((c9.again fX fY M _).mono fun r H' ⟨e1,T',s',m',M',e2⟩=>⟨e1,?_⟩)
  ·unfold lL
   tm_at "wps"
   exact i_pos j rfl (show 2 ≤ smallN by decide) rfl (hw.o (C:=C)) (i_pos j rfl (show 2 ≤ smallN by decide) rfl hw.d hK)
  subst e2
  refine not_call (vs:=[oR C X.length,dR X.length,.ref 10,.int (j:Int)]) hk rfl ⟨_,rfl⟩ (fun K hK=>?_) ((c9.stand (put _ _ _ M') hw (Nat.le_trans hL' (Nat.le_trans (Nat.add_le_add_left (Nat.le_of_lt hj) 500) (by decide))) _).mono fun r H' ⟨e1,e,he⟩=>⟨e1,?_⟩)
  ·unfold lL
   tm_at "wps"
   exact i_pos j rfl (show 2 ≤ smallN by decide) rfl (hw.o (C:=C)) (i_pos j rfl (show 2 ≤ smallN by decide) rfl hw.d hK)
  ·exact Cut.here ⟨_,rfl,he,by rw [List.length_append];exact Nat.add_le_add_right hL' 1⟩
 ·rintro lc H ⟨o10,L',h',hL',rfl⟩
  rw [rng2_len] at hL'
  exact hQ _ _ _ _ _ _ h' hL'
theorem RVs.rd {R:List AV} {H:AH} (h:RVs R):∃ d,Rd H 9 (.fl R) d:=by
 have go:∀ {R:List AV},RVs R→∃ ds,Rds H 8 R ds:=fun {R} h=>by
  induction R with
  | nil=>exact ⟨[],.nil⟩
  | cons w R ih=>
   obtain ⟨ds,hd⟩:=ih fun u hu=>h u (.tail _ hu)
   obtain ⟨xs,rfl,hx⟩:=h w (.head _)
   have:∃ es,Rds H 7 xs es:=by
    clear h
    induction xs with
    | nil=>exact ⟨[],.nil⟩
    | cons x xs ih=>
     obtain ⟨es,he⟩:=ih fun u hu=>hx u (.tail _ hu)
     obtain ⟨_,_,d,hd⟩:=hx x (.head _)
     exact ⟨d::es,.cons (hd H) he⟩
   obtain ⟨es,he⟩:=this
   exact ⟨_,.cons (.fl he) hd⟩
 obtain ⟨ds,hd⟩:=go h
 exact ⟨_,.fl hd⟩
end
open PySem PyProof.Rows PySem.SeqAt
structure C8 (P:PC) (C cN cD:Addr):Prop extends C7 P C cN cD where
 f7:FnN P 7 2 0 cs_cell_at
 f8:FnN P 8 3 8 (cs_unfolded 7)
 f9:FnN P 9 1 8 (cs_strip 7 8)
 f10:FnN P 10 1 3 (cs_left 9 7)
 f20:FnN P 20 4 5 (cs_stands 19 15 17 14)
 f21:FnN P 21 2 5 (cs_deed 11)
 f23:FnN P 23 2 4 (cs_again 22 11)
 f24:FnN P 24 1 10 (cs_law 10 7 22 21 20 23)
 i25:InitIs P 25 (.lst [(.var 0)]) rg (c1 6) (.lst [])
section
variable {P:PC} {C cN cD:Addr} {k:Nat} {sc:List Int} {L:List AV} {H:AH} {o4 o8 o9 o10:Option AV} {fr:List (Env × Obj)} {Qn:Loc→AH→Prop} {Qr:AV→AH→Prop}
theorem HE.eq {e:AV} (h:HE e) {l:Lv} {Xc:Str→Prop} {K:AV→AH→Prop} (hK:K (.bool true) []):opt (bindItem 4 e) fun bx=>wpE P l Xc (.and (.cmp .Eq (.var 0) (.var 1)) (.cmp .Eq (.var 2) (.var 3))) ([]++bx) [] K:=by
 obtain ⟨R,T,rfl,hR,hT⟩:=h
 show wpE P l Xc (.and (.cmp .Eq (.var 0) (.var 1)) (.cmp .Eq (.var 2) (.var 3))) [some (.fl R),some (.fl R),some (.fl T),some (.fl T)] [] K
 obtain ⟨d,hd⟩:=hR.rd (H:=[])
 obtain ⟨d',hd'⟩:=hT.rd (H:=[])
 tm_at "wps"
 refine ⟨d,d,hd,hd,?_⟩
 rw [hd.refl]
 tm_at "wps"
 refine ⟨d',d',hd',hd',?_⟩
 rw [hd'.refl]
 exact hK
theorem bind4 {e:AV} (h:HE e) {K:List (Option AV)→Prop} (hK:∀ bx,K bx):opt (bindItem 4 e) K:=by
 obtain ⟨R,T,rfl,hR,hT⟩:=h
 exact hK _
theorem wZ_ok (h:LI L H) (hL:L.length ≤ 502) (hQ:∀ H,Qr (.bool true) H):wpS P ⟨k,true,some ⟨0,fr⟩⟩ wZ (lL C sc o4 o8 o9 o10) H Qn Qr (fun _ _ _=>False):=by
 unfold wZ
 rw [q_ret,w_prim]
 refine ⟨rfl,?_⟩
 rw [w_cons,w_comp]
 refine ⟨rfl,?_⟩
 rw [w_var]
 refine opt_is (x:=.ref 10) rfl ?_
 refine ⟨L,L,[],h.held,Nat.le_trans hL (by decide),h.hes.fv.rens,.nil,comp_map (fun _=>.bool true) (fun x hx k hk=>bind4 (h.hes x hx) fun bx=>hk) (fun x hx n k hk=>?_) ?_⟩
 ·exact (h.hes x hx).eq (eltK.frz (.bool _) (.inr (.bool _)) hk)
 ·rw [w_nil]
  refine ⟨L.map fun _=>true,?_,?_⟩
  ·rw [List.map_map]
   exact mid_at (a:=H) 0 (by simp)
  ·rw [show (L.map fun _=>true).all id = true from by simp]
   exact hQ _
theorem C8.c9 (c:C8 P C cN cD) (hk:8 < k) (hsc:sc.length ≤ 63):C9 P k C sc 22 21 20 23 7 where
 step:=fun hX hY M va p=>c.toC7.step (kl hk (by decide)) hX hY M va p
 deed:=fun {T s m cc} M=>by
  obtain ⟨_,_,h1,h2,F⟩:=c.f21
  exact deed_ok F h1 h2 (kl hk (by decide)) rfl M.t90 M.gt.gs (c.lmoves (kd hk (by decide)) M.gt.gs)
 stands:=fun {H n hh T s m L t} hH A M e hL p=>by
  obtain ⟨_,_,h1,h2,F⟩:=c.f20
  have len:=M.len
  exact stands_ok F h1 h2 (kl hk (by decide)) rfl hH A M.t90 M.mks M.m90 M.gt e hL (c.looked (kd hk (by decide)) (by (first | lia | omega)) M.mks (by (first | lia | omega)) M.gt) (c.isStrip (kd hk (by decide)) M.gt.gs) (fun v hv=>c.kinds (kd hk (by decide)) hv) fun X i=>(c.whole (kd hk (by decide)) i).mono fun _ _ h=>h
 again:=fun {X Y T s m} hX hY M p=>by
  obtain ⟨_,_,h1,h2,F⟩:=c.f23
  exact again_ok F h1 h2 (kl hk (by decide)) rfl hX hY M (fun Y T s mv v p hY M va=>c.toC7.step (kd hk (by decide)) hX hY M va p) fun s g=>c.lmoves (kd hk (by decide)) g
 cell:=by
  obtain ⟨_,_,h1,h2,F⟩:=c.f7
  exact cell_all F h1 h2 hsc (kl hk (by decide))
theorem C8.law (c:C8 P C cN cD) (hk:9 < k) (hsc:sc.length ≤ 63) (p:Option Pin):CallR P ⟨k,true,p⟩ 24 [.fl (sc.map AV.int)] [] (fun r _=>r = .bool true):=by
 obtain ⟨_,_,h1,h2,F⟩:=c.f24
 refine F.callR (kl hk (by decide)) (by rw [h1];rfl) fun fr=>?_
 rw [h2]
 have k1:8 < k - 1:=kd hk (by decide)
 have c9:=c.c9 (sc:=sc) k1 hsc
 unfold cs_law
 obtain ⟨_,_,a1,a2,F7⟩:=c.f7
 obtain ⟨_,_,b1,b2,F8⟩:=c.f8
 obtain ⟨_,_,d1,d2,F9⟩:=c.f9
 obtain ⟨_,_,e1,e2,F10⟩:=c.f10
 obtain ⟨_,_,g1,g2,F6⟩:=c.f6
 refine law_head (kd hk (by decide)) c.cls (left_all F7 F8 F9 F10 a1 a2 b1 b2 d1 d2 e1 e2 hsc (kd hk (by decide))) (fun ns ms g=>fnew_ok c.i25 (kd hk (by decide)) rfl c.cls g (copied_ok F6 g1 g2 (kd3 hk (by decide)) rfl g)) fun ns ms N g hN=>?_
 refine seqS (wF_ok c9 (kd hk (by decide)) hsc g hN fun o4 o8 o9 o10 L H h hL=>?_)
 refine seqS (wH_ok c9 (kd hk (by decide)) h hL fun o4 o8 o9 o10 L H h hL=>?_)
 exact seqS (wZ_ok h hL fun _=>rfl)
end
open PySem PyProof.Rows PySem.SeqAt PySem.W
theorem law_callR {P:PC} {s₁:Shared} {x:Str} {f:Nat} {fa l:Addr} {ns:List Int} {Pa:Params} {Q:Value→Shared→Prop} {E:Value→Shared→Prop} (G:GOk P s₁.heap) (hf:P.nt.nm f = some x) (hx:P.ma x = some (.ref fa))
  (hw:Well Pa s₁.heap (.ref l) (ofPy (PyData.list (ns.map PyData.int)))) (hc:CallR P ⟨20,true,none⟩ f [.fl (ns.map AV.int)] [] (fun v _=>v = .bool true))
  (h:∀ h' tk,Kp s₁.heap h'→Q (.bool true) { s₁ with heap:=h',toks:=tk }):wpAny (model P.prog P.w) callerA (call (.ref fa) [.ref l]) Q E s₁:=by
 have hpl:∃ vs,s₁.heap.PlainList l vs∧VRels ⟨[],P.prog,P.w⟩ [] s₁.heap (ns.map AV.int) vs.toList:=by
  have e:ofPy (PyData.list (ns.map PyData.int)) = .list (ns.map WData.int):=by
   simp only [ofPy,ofPy_ints]
  rw [e] at hw
  cases hw with
  | list hg hwl=>exact ⟨_,⟨_,hg⟩,by simpa using ints_of_well hwl rfl _ _ _⟩
 obtain ⟨vs,hp,V⟩:=hpl
 refine wpAny_call (codeAny_mono (hc callerA s₁ ⟨[],P.prog,P.w⟩ [] [.ref l] x fa s₁.heap [] ⟨fun _=>rfl,by decide,by decide⟩ G hf hx rfl rfl (fun _ h=>nomatch h) ⟨rfl,List.nodup_nil,(fun _ hm=>nomatch hm),fun i vs e=>by simp at e⟩ (.cons (.fl (fun h=>nomatch h) (fun h=>nomatch h) hp V) .nil) rfl (fun _ _ e=>e) (Nat.le_refl _) (fun _ h=>nomatch h) (fun _ h=>nomatch h) fun _ _ e _ _=>e) fun r s' hr=>?_)
 obtain ⟨rv,h',tk,e,v,H',rfl,rfl,k,_,_,Z,V',rfl⟩:=hr
 obtain rfl:=V'.ofBool
 exact h h' tk k
noncomputable def mtup (m:MethRec):Str × Arguments × List PySem.Stmt × Scope:=(m.name,m.params,m.body,m.scope)
noncomputable def dtup (d:DefRec):Str × Arguments × List PySem.Stmt × Scope:=(d.name,d.params,d.body,d.scope)
theorem Str.cancel {a b c:Str} (h:a++b = a++c):b = c:=by
 have h1:a.cps++b.cps = a.cps++c.cps:=congrArg Str.cps h
 have h2:a.cps.toList++b.cps.toList = a.cps.toList++c.cps.toList:=by rw [← Array.toList_append,← Array.toList_append,h1]
 cases b;cases c
 exact congrArg Str.mk (Array.ext' (List.append_cancel_left h2))
section
variable {h:Heap} {c:ClsRec} {C N:Addr} {mN:Str→Option Value} {mds:List DefRec}
theorem meth_at (hm:c.meths.map mtup = mds.map dtup) (P:PlainAt h c C N mN) {j:Nat} {d:DefRec} (hj:mds[j]? = some d):∃ f o pm cd doc,mN d.name = some (.ref f)∧h.get? f = some o∧o.cls = .type "function" ∧
  o.data = .func (methDef d.name (c.name++"."++d.name) d.params d.body d.scope pm cd doc)∧h.CodeRec cd (c.name++"."++d.name):=by
 have e:(c.meths.map mtup)[j]? = some (dtup d):=by rw [hm,List.getElem?_map,hj];rfl
 rw [List.getElem?_map] at e
 obtain ⟨m,em,e2⟩:=Option.map_eq_some_iff.mp e
 obtain ⟨f,o,pm,cd,doc,x1,x2,x3,x4,x5⟩:=P.meths m (List.mem_of_getElem? em)
 simp only [mtup,dtup,Prod.mk.injEq] at e2
 obtain ⟨y1,y2,y3,y4⟩:=e2
 rw [y1] at x1 x4 x5
 rw [y2,y3,y4] at x4
 exact ⟨f,o,pm,cd,doc,x1,x2,x3,x4,x5⟩
end
open PySem PyProof.Rows PySem.SeqAt
noncomputable def defIn (st:PySem.Stmt):Option DefRec:=match st with
 | .FunctionDef n a b _ _ _ sc _ _ pos=>some ⟨n,a,b,sc,pos⟩
 | _=>none
noncomputable def defs07:List DefRec:=PySem.Challenge.pw_uf030009_07.main.body.filterMap defIn
noncomputable def methIn (c:Str) (st:PySem.Stmt):List DefRec:=match st with
 | .ClassDef name _ _ body _ _ _ _ _ _ _=>if name = c then body.filterMap defIn else []
 | _=>[]
noncomputable def mds07:List DefRec:=PySem.Challenge.pw_uf030009_07.main.body.flatMap (methIn "Fold")
noncomputable abbrev mt07:List (Str × Str):=[("Fold.__init__","__init__"),("Fold.here","here"),("Fold.done","done"),("Fold.layers","layers"),("Fold.take","take"),("Fold.back","back")]
noncomputable def ma07 (mg mN:Str→Option Value) (x:Str):Option Value:=match mt07.lookup x with
 | some m=>mN m
 | none=>mg x
noncomputable abbrev PC07 (prog:Program) (w:World) (mg mb:Str→Option Value) (cls:Option Addr) (mN:Str→Option Value):PC:=
 ⟨prog,w,mg,mb,⟨defs07.map (·.name),[],mt07.map (·.1),"Fold",["take","back","_law_done","_law_stands","_law_step","_law_again"]⟩,defs07++mds07,own6 mg,adOf mg "FoldError",ma07 mg mN,cls,mN⟩
section
variable {P:PC} {f k:Nat} {x:Str} {ps rest:List Str} {cs:List CS} {Sh:(Str→Option NameKind)→List PySem.Stmt→Prop}
theorem FnIs.at1 (h:f < P.defs.length) (hx:P.nt.nm f = some x) (hs:defOk (P.defs[f]'h).scope ps rest = true) (hc:allSome ((P.defs[f]'h).body.map (compS P.nt 40 (fun y=>(P.defs[f]'h).scope.names.lookup y) (ps++rest))) = some cs) (hl:ps.length = 1)
  (hb:∀ a pm code doc,bindArgs (methDef (P.defs[f]'h).name x (P.defs[f]'h).params (P.defs[f]'h).body (P.defs[f]'h).scope pm code doc) ⟨[a],[]⟩ = pure (ps.zip [a])):FnIs P f ps rest cs:=
 FnIs.of hx (List.getElem?_eq_getElem h) hs hc (bnd1 hl hb)
theorem FnIs.at2 (h:f < P.defs.length) (hx:P.nt.nm f = some x) (hs:defOk (P.defs[f]'h).scope ps rest = true) (hc:allSome ((P.defs[f]'h).body.map (compS P.nt 40 (fun y=>(P.defs[f]'h).scope.names.lookup y) (ps++rest))) = some cs) (hl:ps.length = 2)
  (hb:∀ a b pm code doc,bindArgs (methDef (P.defs[f]'h).name x (P.defs[f]'h).params (P.defs[f]'h).body (P.defs[f]'h).scope pm code doc) ⟨[a,b],[]⟩ = pure (ps.zip [a,b])):FnIs P f ps rest cs:=
 FnIs.of hx (List.getElem?_eq_getElem h) hs hc (bnd2 hl hb)
theorem FnIs.at3 (h:f < P.defs.length) (hx:P.nt.nm f = some x) (hs:defOk (P.defs[f]'h).scope ps rest = true) (hc:allSome ((P.defs[f]'h).body.map (compS P.nt 40 (fun y=>(P.defs[f]'h).scope.names.lookup y) (ps++rest))) = some cs) (hl:ps.length = 3)
  (hb:∀ a b c pm code doc,bindArgs (methDef (P.defs[f]'h).name x (P.defs[f]'h).params (P.defs[f]'h).body (P.defs[f]'h).scope pm code doc) ⟨[a,b,c],[]⟩ = pure (ps.zip [a,b,c])):FnIs P f ps rest cs:=
 FnIs.of hx (List.getElem?_eq_getElem h) hs hc (bnd3 hl hb)
theorem FnIs.at4 (h:f < P.defs.length) (hx:P.nt.nm f = some x) (hs:defOk (P.defs[f]'h).scope ps rest = true) (hc:allSome ((P.defs[f]'h).body.map (compS P.nt 40 (fun y=>(P.defs[f]'h).scope.names.lookup y) (ps++rest))) = some cs) (hl:ps.length = 4)
  (hb:∀ a b c e pm code doc,bindArgs (methDef (P.defs[f]'h).name x (P.defs[f]'h).params (P.defs[f]'h).body (P.defs[f]'h).scope pm code doc) ⟨[a,b,c,e],[]⟩ = pure (ps.zip [a,b,c,e])):FnIs P f ps rest cs:=
 FnIs.of hx (List.getElem?_eq_getElem h) hs hc (bnd4 hl hb)
theorem PreIs.at1 (h:f < P.defs.length) (hx:P.nt.nm f = some x) (hs:defOk (P.defs[f]'h).scope ps rest = true) (hc:allSome (((P.defs[f]'h).body.take k).map (compS P.nt 40 (fun y=>(P.defs[f]'h).scope.names.lookup y) (ps++rest))) = some cs) (hS:Sh (fun y=>(P.defs[f]'h).scope.names.lookup y) ((P.defs[f]'h).body.drop k)) (hl:ps.length = 1)
  (hb:∀ a pm code doc,bindArgs (methDef (P.defs[f]'h).name x (P.defs[f]'h).params (P.defs[f]'h).body (P.defs[f]'h).scope pm code doc) ⟨[a],[]⟩ = pure (ps.zip [a])):PreIs P f ps rest k cs Sh:=
 ⟨x,_,40,hx,List.getElem?_eq_getElem h,hs,hc,hS,bnd1 hl hb⟩
theorem PreIs.at2 (h:f < P.defs.length) (hx:P.nt.nm f = some x) (hs:defOk (P.defs[f]'h).scope ps rest = true) (hc:allSome (((P.defs[f]'h).body.take k).map (compS P.nt 40 (fun y=>(P.defs[f]'h).scope.names.lookup y) (ps++rest))) = some cs) (hS:Sh (fun y=>(P.defs[f]'h).scope.names.lookup y) ((P.defs[f]'h).body.drop k)) (hl:ps.length = 2)
  (hb:∀ a b pm code doc,bindArgs (methDef (P.defs[f]'h).name x (P.defs[f]'h).params (P.defs[f]'h).body (P.defs[f]'h).scope pm code doc) ⟨[a,b],[]⟩ = pure (ps.zip [a,b])):PreIs P f ps rest k cs Sh:=
 ⟨x,_,40,hx,List.getElem?_eq_getElem h,hs,hc,hS,bnd2 hl hb⟩
end
section
variable {prog:Program} {w:World} {mg mb:Str→Option Value} {cls:Option Addr} {mN:Str→Option Value}
theorem lt07 {f:Nat} (h:f < (defs07++mds07).length):f < (PC07 prog w mg mb cls mN).defs.length:=h
theorem le07 {f:Nat} (h:(defs07.map (·.name)).length ≤ f):(PC07 prog w mg mb cls mN).nt.fns.length ≤ f:=h
theorem f07_0:FnN (PC07 prog w mg mb cls mN) 0 3 0 cs_isnum:=
 ⟨["thing","least","most"],[],rfl,rfl,FnIs.at3 (x := "is_number") (lt07 (by decide +kernel)) (by kernel_rfl) (by kernel_rfl) (by kernel_rfl) rfl fun a b c pm code doc=>by kernel_rfl⟩
theorem f07_1:FnN (PC07 prog w mg mb cls mN) 1 1 4 cs_moves:=
 ⟨["strip"],["lengths","marks","found","crease"],rfl,rfl,FnIs.at1 (x := "moves") (lt07 (by decide +kernel)) (by kernel_rfl) (by kernel_rfl) (by kernel_rfl) rfl fun a pm code doc=>by kernel_rfl⟩
theorem f07_2:FnN (PC07 prog w mg mb cls mN) 2 2 0 (cs_need_move 1 0):=
 ⟨["strip","move"],[],rfl,rfl,FnIs.at2 (x := "need_move") (lt07 (by decide +kernel)) (by kernel_rfl) (by kernel_rfl) (by kernel_rfl) rfl fun a b pm code doc=>by kernel_rfl⟩
theorem f07_3:FnN (PC07 prog w mg mb cls mN) 3 2 4 (cs_taken 2):=
 ⟨["strip","move"],["lengths","marks","at","one"],rfl,rfl,FnIs.at2 (x := "taken") (lt07 (by decide +kernel)) (by kernel_rfl) (by kernel_rfl) (by kernel_rfl) rfl fun a b pm code doc=>by kernel_rfl⟩
theorem f07_4:FnN (PC07 prog w mg mb cls mN) 4 3 0 cs_laid:=
 ⟨["under","upper","mark"],[],rfl,rfl,FnIs.at3 (x := "laid") (lt07 (by decide +kernel)) (by kernel_rfl) (by kernel_rfl) (by kernel_rfl) rfl fun a b c pm code doc=>by kernel_rfl⟩
theorem f07_5:FnN (PC07 prog w mg mb cls mN) 5 3 3 (cs_layers_behind 4):=
 ⟨["strip","some","move"],["marks","at","one"],rfl,rfl,FnIs.at3 (x := "layers_behind") (lt07 (by decide +kernel)) (by kernel_rfl) (by kernel_rfl) (by kernel_rfl) rfl fun a b c pm code doc=>by kernel_rfl⟩
theorem f07_6:FnN (PC07 prog w mg mb cls mN) 6 1 0 cs_copied:=
 ⟨["strip"],[],rfl,rfl,FnIs.at1 (x := "copied") (lt07 (by decide +kernel)) (by kernel_rfl) (by kernel_rfl) (by kernel_rfl) rfl fun a pm code doc=>by kernel_rfl⟩
theorem f07_7:FnN (PC07 prog w mg mb cls mN) 7 2 0 cs_cell_at:=
 ⟨["_law_script","_law_k"],[],rfl,rfl,FnIs.at2 (x := "_law_cell_at") (lt07 (by decide +kernel)) (by kernel_rfl) (by kernel_rfl) (by kernel_rfl) rfl fun a b pm code doc=>by kernel_rfl⟩
theorem f07_8:FnN (PC07 prog w mg mb cls mN) 8 3 8 (cs_unfolded 7):=
 ⟨["_law_script","_law_first","_law_many"],["_law_lengths","_law_marks","_law_turn","_law_cell","_law_mark","_law_at","_law_step_here","_law_short"],rfl,rfl,FnIs.at3 (x := "_law_unfolded") (lt07 (by decide +kernel)) (by kernel_rfl) (by kernel_rfl) (by kernel_rfl) rfl fun a b c pm code doc=>by kernel_rfl⟩
theorem f07_9:FnN (PC07 prog w mg mb cls mN) 9 1 8 (cs_strip 7 8):=
 ⟨["_law_script"],["_law_head","_law_lengths","_law_marks","_law_cells","_law_cell","_law_more","_law_at","_law_found"],rfl,rfl,FnIs.at1 (x := "_law_strip") (lt07 (by decide +kernel)) (by kernel_rfl) (by kernel_rfl) (by kernel_rfl) rfl fun a pm code doc=>by kernel_rfl⟩
theorem f07_10:FnN (PC07 prog w mg mb cls mN) 10 1 3 (cs_left 9 7):=
 ⟨["_law_script"],["_law_lengths","_law_marks","_law_cell"],rfl,rfl,FnIs.at1 (x := "_law_left") (lt07 (by decide +kernel)) (by kernel_rfl) (by kernel_rfl) (by kernel_rfl) rfl fun a pm code doc=>by kernel_rfl⟩
theorem f07_11:FnN (PC07 prog w mg mb cls mN) 11 2 2 cs_lmoves:=
 ⟨["_law_lengths","_law_marks"],["_law_found","_law_k"],rfl,rfl,FnIs.at2 (x := "_law_moves") (lt07 (by decide +kernel)) (by kernel_rfl) (by kernel_rfl) (by kernel_rfl) rfl fun a b pm code doc=>by kernel_rfl⟩
theorem f07_12:FnN (PC07 prog w mg mb cls mN) 12 3 2 cs_behind:=
 ⟨["_law_lengths","_law_marks","_law_move"],["_law_k","_law_length"],rfl,rfl,FnIs.at3 (x := "_law_behind") (lt07 (by decide +kernel)) (by kernel_rfl) (by kernel_rfl) (by kernel_rfl) rfl fun a b c pm code doc=>by kernel_rfl⟩
theorem f07_13:FnN (PC07 prog w mg mb cls mN) 13 3 3 cs_piled:=
 ⟨["_law_piles","_law_marks","_law_move"],["_law_rest","_law_k","_law_three"],rfl,rfl,FnIs.at3 (x := "_law_piled") (lt07 (by decide +kernel)) (by kernel_rfl) (by kernel_rfl) (by kernel_rfl) rfl fun a b c pm code doc=>by kernel_rfl⟩
theorem f07_14:FnN (PC07 prog w mg mb cls mN) 14 1 0 cs_whole:=
 ⟨["_law_found"],[],rfl,rfl,FnIs.at1 (x := "_law_whole") (lt07 (by decide +kernel)) (by kernel_rfl) (by kernel_rfl) (by kernel_rfl) rfl fun a pm code doc=>by kernel_rfl⟩
theorem f07_15:FnN (PC07 prog w mg mb cls mN) 15 2 0 (cs_is_strip 14):=
 ⟨["_law_found","_law_due"],[],rfl,rfl,FnIs.at2 (x := "_law_is_strip") (lt07 (by decide +kernel)) (by kernel_rfl) (by kernel_rfl) (by kernel_rfl) rfl fun a b pm code doc=>by kernel_rfl⟩
theorem f07_16:FnN (PC07 prog w mg mb cls mN) 16 2 1 cs_sole:=
 ⟨["_law_error","_law_due"],["_law_kinds_here"],rfl,rfl,FnIs.at2 (x := "_law_sole") (lt07 (by decide +kernel)) (by kernel_rfl) (by kernel_rfl) (by kernel_rfl) rfl fun a b pm code doc=>by kernel_rfl⟩
theorem f07_17:FnN (PC07 prog w mg mb cls mN) 17 1 0 (cs_kinds 14):=
 ⟨["_law_move"],[],rfl,rfl,FnIs.at1 (x := "_law_kinds") (lt07 (by decide +kernel)) (by kernel_rfl) (by kernel_rfl) (by kernel_rfl) rfl fun a pm code doc=>by kernel_rfl⟩
theorem f07_18:FnN (PC07 prog w mg mb cls mN) 18 2 1 (cs_ldone 30 29):=
 ⟨["_law_work","_law_move"],["_law_error"],rfl,rfl,FnIs.at2 (x := "_law_done") (lt07 (by decide +kernel)) (by kernel_rfl) (by kernel_rfl) (by kernel_rfl) rfl fun a b pm code doc=>by kernel_rfl⟩
theorem f07_19:FnN (PC07 prog w mg mb cls mN) 19 2 3 (cs_looked 26 27 28):=
 ⟨["_law_work","_law_turn"],["_law_strip_here","_law_moved","_law_rows"],rfl,rfl,FnIs.at2 (x := "_law_looked") (lt07 (by decide +kernel)) (by kernel_rfl) (by kernel_rfl) (by kernel_rfl) rfl fun a b pm code doc=>by kernel_rfl⟩
theorem f07_20:FnN (PC07 prog w mg mb cls mN) 20 4 5 (cs_stands 19 15 17 14):=
 ⟨["_law_work","_law_state","_law_held","_law_turn"],["_law_strip_here","_law_moved","_law_rows","_law_row","_law_told"],rfl,rfl,FnIs.at4 (x := "_law_stands") (lt07 (by decide +kernel)) (by kernel_rfl) (by kernel_rfl) (by kernel_rfl) rfl fun a b c e pm code doc=>by kernel_rfl⟩
theorem f07_21:FnN (PC07 prog w mg mb cls mN) 21 2 5 (cs_deed 11):=
 ⟨["_law_state","_law_cell"],["_law_lengths","_law_marks","_law_some","_law_kind","_law_odd"],rfl,rfl,FnIs.at2 (x := "_law_deed") (lt07 (by decide +kernel)) (by kernel_rfl) (by kernel_rfl) (by kernel_rfl) rfl fun a b pm code doc=>by kernel_rfl⟩
theorem f07_22:FnN (PC07 prog w mg mb cls mN) 22 3 3 (cs_step 18 17 11 13 12):=
 ⟨["_law_work","_law_state","_law_move"],["_law_found","_law_lengths","_law_marks"],rfl,rfl,FnIs.at3 (x := "_law_step") (lt07 (by decide +kernel)) (by kernel_rfl) (by kernel_rfl) (by kernel_rfl) rfl fun a b c pm code doc=>by kernel_rfl⟩
theorem f07_23:FnN (PC07 prog w mg mb cls mN) 23 2 4 (cs_again 22 11):=
 ⟨["_law_work","_law_state"],["_law_lengths","_law_marks","_law_some","_law_move"],rfl,rfl,FnIs.at2 (x := "_law_again") (lt07 (by decide +kernel)) (by kernel_rfl) (by kernel_rfl) (by kernel_rfl) rfl fun a b pm code doc=>by kernel_rfl⟩
theorem f07_24:FnN (PC07 prog w mg mb cls mN) 24 1 10 (cs_law 10 7 22 21 20 23):=
 ⟨["_law_script"],["_law_strip_here","_law_handed","_law_works","_law_k","_law_piles","_law_states","_law_held","_law_at","_law_cell","_law_which"],rfl,rfl,FnIs.at1 (x := "law") (lt07 (by decide +kernel)) (by kernel_rfl) (by kernel_rfl) (by kernel_rfl) rfl fun a pm code doc=>by kernel_rfl⟩
theorem f07_26:FnN (PC07 prog w mg mb cls mN) 26 1 0 (cs_here 6):=
 ⟨["self"],[],rfl,rfl,FnIs.at1 (x := "Fold.here") (lt07 (by decide +kernel)) (by kernel_rfl) (by kernel_rfl) (by kernel_rfl) rfl fun a pm code doc=>by kernel_rfl⟩
theorem f07_27:FnN (PC07 prog w mg mb cls mN) 27 1 0 cs_done:=
 ⟨["self"],[],rfl,rfl,FnIs.at1 (x := "Fold.done") (lt07 (by decide +kernel)) (by kernel_rfl) (by kernel_rfl) (by kernel_rfl) rfl fun a pm code doc=>by kernel_rfl⟩
theorem f07_28:FnN (PC07 prog w mg mb cls mN) 28 1 0 cs_layers:=
 ⟨["self"],[],rfl,rfl,FnIs.at1 (x := "Fold.layers") (lt07 (by decide +kernel)) (by kernel_rfl) (by kernel_rfl) (by kernel_rfl) rfl fun a pm code doc=>by kernel_rfl⟩
theorem f07_29:FnN (PC07 prog w mg mb cls mN) 29 2 2 (cs_take 2 3 5):=
 ⟨["self","move"],["strip","some"],rfl,rfl,FnIs.at2 (x := "Fold.take") (lt07 (by decide +kernel)) (by kernel_rfl) (by kernel_rfl) (by kernel_rfl) rfl fun a b pm code doc=>by kernel_rfl⟩
theorem f07_30:FnN (PC07 prog w mg mb cls mN) 30 1 0 cs_back:=
 ⟨["self"],[],rfl,rfl,FnIs.at1 (x := "Fold.back") (lt07 (by decide +kernel)) (by kernel_rfl) (by kernel_rfl) (by kernel_rfl) rfl fun a pm code doc=>by kernel_rfl⟩
theorem n07_1:PreN (PC07 prog w mg mb cls mN) 2 2 0 0 [] (fun ns=>ShIf (PC07 prog w mg mb cls mN).nt ns "NoFold" (ct1 1)):=
 ⟨["strip","move"],[],rfl,rfl,PreIs.at2 (x := "need_move") (lt07 (by decide +kernel)) (by kernel_rfl) (by kernel_rfl) (by kernel_rfl) ⟨_,_,_,_,_,_,_,_,_,40,rfl,by kernel_rfl,by kernel_rfl⟩ rfl fun a b pm code doc=>by kernel_rfl⟩
theorem n07_2:PreN (PC07 prog w mg mb cls mN) 2 2 0 1 [.ite (ct1 1) [.raise ""] []] (fun ns=>ShIf (PC07 prog w mg mb cls mN).nt ns "NoFold" (ct2 0)):=
 ⟨["strip","move"],[],rfl,rfl,PreIs.at2 (x := "need_move") (lt07 (by decide +kernel)) (by kernel_rfl) (by kernel_rfl) (by kernel_rfl) ⟨_,_,_,_,_,_,_,_,_,40,rfl,by kernel_rfl,by kernel_rfl⟩ rfl fun a b pm code doc=>by kernel_rfl⟩
theorem t07_1:PreN (PC07 prog w mg mb cls mN) 29 2 2 1 [.assignT [2,3] (.idx (.attr (.var 0) "states") (.neg (.const (.int (1)))))] (fun ns=>ShCall (PC07 prog w mg mb cls mN).nt ns 2 (.var 2) [.var 1]):=
 ⟨["self","move"],["strip","some"],rfl,rfl,PreIs.at2 (x := "Fold.take") (lt07 (by decide +kernel)) (by kernel_rfl) (by kernel_rfl) (by kernel_rfl) ⟨_,_,_,_,_,_,40,rfl,by kernel_rfl,by kernel_rfl,by kernel_rfl⟩ rfl fun a b pm code doc=>by kernel_rfl⟩
theorem b07_1:PreN (PC07 prog w mg mb cls mN) 30 1 0 0 [] (fun ns=>ShIf (PC07 prog w mg mb cls mN).nt ns "NothingDone" cbk):=
 ⟨["self"],[],rfl,rfl,PreIs.at1 (x := "Fold.back") (lt07 (by decide +kernel)) (by kernel_rfl) (by kernel_rfl) (by kernel_rfl) ⟨_,_,_,_,_,_,_,_,_,40,rfl,by kernel_rfl,by kernel_rfl⟩ rfl fun a pm code doc=>by kernel_rfl⟩
theorem d07:DoneIs (PC07 prog w mg mb cls mN) 18 ["_law_work","_law_move"] ["_law_error"] 30 29 16:=
 ⟨"_law_done",(defs07++mds07)[18]'(by decide +kernel),40,_,_,_,_,_,_,_,_,_,_,_,_,_,_,_,_,_,_,_,_,_,_,_,_,_,_,_,_,_,_,by kernel_rfl,List.getElem?_eq_getElem _,by kernel_rfl,rfl,⟨by kernel_rfl,by kernel_rfl⟩,⟨by kernel_rfl,by kernel_rfl,by kernel_rfl,by kernel_rfl⟩,⟨by kernel_rfl,by kernel_rfl,by kernel_rfl,by kernel_rfl⟩,⟨by kernel_rfl,by kernel_rfl,by kernel_rfl,by kernel_rfl,by kernel_rfl,by kernel_rfl⟩,⟨by kernel_rfl,by kernel_rfl,le07 (by decide +kernel),le07 (by decide +kernel)⟩,bnd2 rfl fun a b pm code doc=>by kernel_rfl⟩
theorem i07:InitIs (PC07 prog w mg mb cls mN) 25 (.lst [(.var 0)]) rg (c1 6) (.lst []):=
 ⟨(defs07++mds07)[25]'(by decide +kernel),40,_,_,_,_,_,_,_,_,_,_,_,_,_,_,_,_,⟨by kernel_rfl,le07 (by decide +kernel),List.getElem?_eq_getElem _⟩,⟨by kernel_rfl,by kernel_rfl,by kernel_rfl⟩,⟨by kernel_rfl,by kernel_rfl,by kernel_rfl,by kernel_rfl⟩,rfl,⟨by kernel_rfl,by kernel_rfl,by kernel_rfl,by kernel_rfl⟩,⟨by kernel_rfl,by kernel_rfl⟩,(fun env e=>by cases env;cases e;kernel_rfl),(fun env=>by kernel_rfl),(fun env=>by kernel_rfl),fun a b pm code doc=>by kernel_rfl⟩
theorem c07 {h:Heap} {C:Addr} (X:Cls6 mg h) (hC:cls = some C):C8 (PC07 prog w mg mb cls mN) C (adOf mg "NoFold") (adOf mg "NothingDone") where
 cls:=hC
 f0:=f07_0
 f1:=f07_1
 f2:=f07_2
 f3:=f07_3
 f4:=f07_4
 f5:=f07_5
 f6:=f07_6
 f7:=f07_7
 f8:=f07_8
 f9:=f07_9
 f10:=f07_10
 f11:=f07_11
 f12:=f07_12
 f13:=f07_13
 f14:=f07_14
 f15:=f07_15
 f17:=f07_17
 f18:=f07_18
 f19:=f07_19
 f20:=f07_20
 f21:=f07_21
 f22:=f07_22
 f23:=f07_23
 f24:=f07_24
 f26:=f07_26
 f27:=f07_27
 f28:=f07_28
 f29:=f07_29
 f30:=f07_30
 n1:=n07_1
 n2:=n07_2
 t1:=t07_1
 b1:=b07_1
 d18:=⟨_,_,rfl,rfl,d07⟩
 i25:=i07
 oN:=own6_is X (i:=2) (j:=2) rfl rfl
 mN:=(X.at6 _ (by decide)).1
 oD:=own6_is X (i:=3) (j:=3) rfl rfl
 mD:=(X.at6 _ (by decide)).1
 sup:=X.sup
 sN:=fun k hk due hd=>by
  obtain ⟨_,_,h1,h2,F⟩:=f07_16 (prog:=prog) (w:=w) (mg:=mg) (mb:=mb) (cls:=cls) (mN:=mN)
  exact sole_ok F h1 h2 hk (b0:=false) (b1:=false) (b2:=true) (b3:=false) (b4:=false) (b5:=false) ⟨own6_is X (i:=0) (j:=2) rfl rfl,own6_is X (i:=1) (j:=2) rfl rfl,own6_is X (i:=2) (j:=2) rfl rfl,own6_is X (i:=3) (j:=2) rfl rfl,own6_is X (i:=4) (j:=2) rfl rfl,own6_is X (i:=5) (j:=2) rfl rfl,own6_ve (j:=2) rfl⟩ (j:=2) rfl rfl rfl (by rcases hd with rfl | rfl<;>decide +kernel) (by decide +kernel)
 sD:=fun k hk due hd=>by
  obtain ⟨_,_,h1,h2,F⟩:=f07_16 (prog:=prog) (w:=w) (mg:=mg) (mb:=mb) (cls:=cls) (mN:=mN)
  exact sole_ok F h1 h2 hk (b0:=false) (b1:=false) (b2:=false) (b3:=true) (b4:=false) (b5:=false) ⟨own6_is X (i:=0) (j:=3) rfl rfl,own6_is X (i:=1) (j:=3) rfl rfl,own6_is X (i:=2) (j:=3) rfl rfl,own6_is X (i:=3) (j:=3) rfl rfl,own6_is X (i:=4) (j:=3) rfl rfl,own6_is X (i:=5) (j:=3) rfl rfl,own6_ve (j:=3) rfl⟩ (j:=3) rfl rfl rfl (by rcases hd with rfl | rfl<;>decide +kernel) (by decide +kernel)
end
set_option Elab.async false
set_option maxRecDepth 100000
open PySem PySem.W PyProof.Rows
noncomputable def view07:Program:=view PySem.Challenge.pw_uf030009_07 [1,2,3,4,5,6,7,9,11,12,13,15,16,17,18,20,21,22,23,24,25,26,27,28,29,30,31,32,33,34,35,36,37]
noncomputable def dl07:DefRec × List (Str × PySem.Expr):=(defOf view07 "law").get (by kernel_rfl)
noncomputable def cl07:ClsRec:=((plainsOf view07 (looseW view07 [])).find? (fun c=>c.name == ("Fold" : Str))).get (by kernel_rfl)
theorem cl07_mem:cl07 ∈ plainsOf view07 (looseW view07 []):=List.mem_of_find?_eq_some (Option.some_get _).symm
theorem cl07_name:cl07.name = "Fold":=by kernel_rfl
theorem cl07_m:cl07.meths.map mtup = mds07.map dtup:=by kernel_rfl
theorem cl07_q:(["__getattribute__","__getattr__","__setattr__","states","row"]:List Str).all (fun x=>cl07.quiet.contains x) = true:=by kernel_rfl
theorem mt07_is:mt07 = mds07.map (fun d=>(("Fold" : Str)++"."++d.name,d.name)):=by kernel_rfl
theorem mt07_look:∀ p ∈ mt07,mt07.lookup p.1 = some p.2:=by decide +kernel
theorem ma07_off:defs07.all (fun d=>(mt07.lookup d.name).isNone) = true:=by kernel_rfl
theorem recs07:recsOf view07 = defs07:=by kernel_rfl
theorem bi07:biFree view07 (looseW view07 []) = true:=by kernel_rfl
theorem ve07:veFree view07 (looseW view07 []) = true:=by kernel_rfl
theorem g07 {prog:Program} {w:World} {mean:ExcName→Option Value} {mg mb:Str→Option Value} {h:Heap} (T:Top view07 (looseW view07 []) mean mg mb h) (TE:TopE view07 (looseW view07 []) mg h) (X:Cls6 mg h):∃ C mN,GOk (PC07 prog w mg mb (some C) mN) h:=by
 obtain ⟨C,N,mN,hC,P⟩:=TE.topC cl07 cl07_mem
 rw [cl07_name] at hC
 have q:∀ x ∈ (["__getattribute__","__getattr__","__setattr__","states","row"]:List Str),mN x = none:=fun x hx=>P.quiet x (List.contains_iff_mem.mp (List.all_eq_true.mp cl07_q x hx))
 have look:∀ {j:Nat} {x:Str} {d:DefRec},(mt07.map (·.1))[j]? = some x→mds07[j]? = some d→x = ("Fold" : Str)++"."++d.name∧ma07 mg mN x = mN d.name:=fun {j x d} e1 e2=>by
  have e3:mt07[j]? = some (("Fold" : Str)++"."++d.name,d.name):=by rw [mt07_is,List.getElem?_map,e2];rfl
  rw [List.getElem?_map,e3] at e1
  cases e1
  refine ⟨rfl,?_⟩
  unfold ma07
  rw [mt07_look _ (List.mem_of_getElem? e3)]
 refine ⟨C,mN,GOk.of_top T recs07 bi07 rfl (fun x v e=>nomatch e) (own_of (P:=PC07 prog w mg mb (some C) mN) X (ve_of T ve07) rfl) (fun d hd=>?_) (fun j x d e1 e2=>?_) (fun C' e=>?_) fun m j e=>?_⟩
 ·have:=List.all_eq_true.mp ma07_off d hd
  unfold ma07
  rw [Option.isNone_iff_eq_none.mp this]
 ·obtain ⟨rfl,e3⟩:=look e1 e2
  obtain ⟨f,o,pm,cd,doc,x1,x2,x3,x4,x5⟩:=meth_at cl07_m P e2
  rw [cl07_name] at x4 x5
  exact ⟨f,o,pm,cd,doc,e3.trans x1,x2,x4,x5⟩
 ·cases e
  exact ⟨⟨N,P.cls⟩,hC,q _ (by decide),q _ (by decide),q _ (by decide),q _ (by decide),q _ (by decide)⟩
 ·obtain ⟨d,e2⟩:∃ d,mds07[j]? = some d:=by
   have hl:(mt07.map (·.1)).length = mds07.length:=by rw [mt07_is,List.length_map,List.length_map]
   have:=(List.getElem?_eq_some_iff.mp e).1
   exact ⟨_,List.getElem?_eq_getElem (hl ▸ this)⟩
  obtain ⟨e4,e3⟩:=look e e2
  have hm:d.name = m:=(Str.cancel e4).symm
  subst hm
  obtain ⟨f,o,pm,cd,doc,x1,x2,x3,x4,x5⟩:=meth_at cl07_m P e2
  exact ⟨⟨C,rfl⟩,f,o,x1,e3.trans x1,x2,x3,_,x4⟩
theorem op07:opening PySem.Challenge.pw_uf030009_07 = plainProg PySem.Challenge.pw_uf030009_07.main.scope.names:=by kernel_rfl
theorem fe07 (s:Shared):fenceModules? PySem.Challenge.pw_uf030009_07 s = some s:=by kernel_rfl
theorem left07:LeftO PySem.Challenge.pw_uf030009_07 view07 [] (fun s=>recOk [] s && clsT s.heap) (fun _=>()) (fun _=>()) 5440:=left_tree op07 (by decide) fe07 fun w os=>by kernel_rfl
theorem said07:PySem.Challenge.rw_uf030009_07.wellSaid = true:=said_quick (by kernel_rfl)
end Mine
open PySem PySem.W PyProof.Rows
set_option maxHeartbeats 8000000 in
theorem PySem.Challenge.cw_uf030009_07_holds : PySem.Challenge.rw_uf030009_07.Holds := by
 refine holds_law Mine.said07 fun said=>holds_open (q:=Mine.view07) (loose:=[]) (Xt:=fun s=>recOk [] s && Mine.clsT s.heap) (XP:=fun mg h=>Mine.Cls6 mg h) (Yf:=fun _=>()) (Ya:=fun _=>()) (YP:=fun _ _=>True) (d:=Mine.dl07.1) (kwd:=Mine.dl07.2) (N:=5440) Mine.left07 (fun _ _ _=>trivial) (fun _ _ _ _ _=>trivial) (fun s e=>Mine.Cls6.of (Bool.and_eq_true_iff.mp e).2) (fun mg h h' x k=>x.keeps k) (by kernel_rfl) (by kernel_rfl) (by kernel_rfl) (fun s e=>recFacts_of (Bool.and_eq_true_iff.mp e).1) (by kernel_rfl) said (by decide +kernel) ⟨rfl,rfl,rfl,rfl,rfl,by decide +kernel⟩ ?hw ?hc
 case hw=>w_witness2
 case hc=>
  intro w s₀ s₁ mg mb G Y fa o pm cd doc dV kV ho hd hcd hD hmg hg args vals as hpre hlay hrd hwl hlo
  have X:=G.X
  refine Ground.open G ?_
  intro T B D TE TW
  clear hd hD ho hcd
  wrow_args hpre hlay hrd hwl hlo
  obtain ⟨C,mN,hG⟩:=Mine.g07 (prog:=PySem.Challenge.rw_uf030009_07.row.prog) (w:=w) T TE X
  refine Mine.law_callR (P:=Mine.PC07 PySem.Challenge.rw_uf030009_07.row.prog w mg mb (some C) mN) (f:=24) (x := "law") hG (by kernel_rfl) hmg (by assumption) ((Mine.c07 X rfl).law (by decide) ?_ none) ?_
  ·omega
  intro h' tk k
  exact Mine.law_good (fun _=>rfl) (by kernel_rfl) k rfl hg
