import PyProof.Rows.All
import Wide.All
import OpenK.AllK
import Wide.FinOn
import PyProof.EqAt
import PyProof.EqKinds
import PyProof.TupleCall
import HandS.Base
import HandS.Call
import HandS.List
import HandS.Comp
import HandS.Ends
import HandS.Dict
import HandS.Iter
import HandS.Exc
import HandS.ExcOwn
import HandS.Words
import HandS.WordsList
import HandS.WordsExc
import HandS.Lambda
import HandS.Deep
import HandS.Wide
import HandS.IsInst
import HandS.Flow
import HandS.TupAny
import HandS.Text
import HandS.Zip
import KE.GoesEnum
import HandS.Codes
import HandS.Defaults
import HandS.ExcInit
import HandS.ExcField
import HandS.TryMany
import KE.KStateDown
import HandS.Head0
import HandS.Head1
import HandS.Head2
import HandS.HeadEnd
import HandS.HeadHook1
import HandS.HeadHook2
import HandS.HeadHook3
import HandS.HeadHook4
import HandS.EndTab
import HandS.EndBits
import KE.KTupSum
import HandS.DictComp
import HandS.Conv
import KE.KDictCopyH
import KE.SortKeyHeap
import KE.SortData
import HandS.SortKw
import KE.KNestM
import KE.KDflt
import HandS.ExcIs
import KE.DataMinMax
import HandS.Style
import KE.DataFind
import HandS.TupLe
import PyProof.P3Eq
import HandS.TupSets
import HandS.Strs
import HandS.TupMul
import KE.KDictDisplayH
import PySem.Challenge.RW_unithouse_k36_ways_and_units
set_option Elab.async false
set_option linter.all false
set_option maxRecDepth 100000
set_option maxHeartbeats 4000000
set_option exponentiation.threshold 2000
section
namespace DL
open PySem PySem.Spec PyProof.Rows L2
class Tbs where
  T:List (Addr × Str)
  K:PySem.W.Frag
abbrev Tab:=Str → Str → Option Bool
def oexB (K:PySem.W.Frag) (C:Addr):Bool:=(match K.lookup C with
  | some ⟨.type "type",_,.cls cd,sl⟩=>(match cd.mro,sl.toList with
    | .ref C' :: bm,[_,_,_,_,some (.builtin n),_]=>C' == C && n == "ValueError.__new__" && !cd.hasDel && cd.hasDict && PySem.HandSPX.refsVE bm
    | _,_=>false)
  | _=>false) && (decide (PySem.W.findIn K (.ref C) "__setattr__" = some (some (.builtin "object.__setattr__"))) && (decide (PySem.W.subIn K (.ref C) (.type "BaseException") = some true) &&
    (decide (PySem.W.typeIn K (.ref C) = some (.type "type")) && PySem.W.keepIn K (.ref C))))
def bseB (K:PySem.W.Frag):Bool:=PySem.W.readsIn K (He.ga K "UnitError") (.type "type") && ((match PySem.W.findCls K (.ref (He.ga K "UnitError")) (.type "type") "__init__" with
  | some (.val (.builtin n))=>n == "ValueError.__init__"
  | _=>false) && decide (PySem.W.specialIn K (.ref (He.ga K "UnitError")) "__getattribute__" = some (some (.builtin "type.__getattribute__"))))
def isB (K:PySem.W.Frag) (C:Addr):Bool:=decide (PySem.W.findIn K (.ref C) "__class__" = some (some (.builtin "object.__class__"))) && (decide (PySem.W.specialIn K (.builtin "object.__class__") "__get__" = some (some (.builtin "getset_descriptor.__get__"))) &&
  (decide (PySem.W.takesIn K (.builtin "object.__class__") = some true) && (decide (PySem.W.mroIn K C (.type "object") = some true) && decide (PySem.W.subIn K (.ref C) (.type "ValueError") = some true))))
def errB0 (K:PySem.W.Frag) (q:Str × List Str):Bool:=oexB K (He.ga K q.1) && (xfB K (He.ga K q.1) && ((q.2.all fun f=>decide (PySem.W.findIn K (.ref (He.ga K q.1)) f = some none)) &&
  (decide (PySem.W.findIn K (.ref (He.ga K q.1)) "__init__" = some (some (.ref (He.fAd K (q.1,some "__init__"))))) && decide (PySem.W.typeIn K (.ref (He.fAd K (q.1,some "__init__"))) = some (.type "function")))))
def errB (K:PySem.W.Frag) (q:Str × List Str):Bool:=errB0 K q && isB K (He.ga K q.1)
def exmB (K:PySem.W.Frag) (tab:Tab) (cs xs:List Str):Bool:=cs.all fun c=>xs.all fun x=>match tab c x with
  | some b=>decide (PySem.W.exmOne K (.ref (He.ga K c)) (.ref (He.ga K x)) = some b)
  | none=>true
def notT1:Value → Bool
  | .type c=>!decide (c = "tuple")
  | _=>true
def ndB (K:PySem.W.Frag):Bool:=K.all fun q=>q.2.dict.isNone || notT1 q.2.cls
def exB (es:List (Str × List Str)) (tab:Tab) (cs xs:List Str) (K:PySem.W.Frag):Bool:=bseB K && (es.all (errB K) && (exmB K tab cs xs && ndB K))
def bitE (m a:Nat):Bool:=Nat.beq (Nat.land (Nat.shiftRight m a) 1) 1
def pushAll:List Nat → Nat → List Nat → Nat × List Nat
  | [],m,acc=>(m,acc)
  | a :: r,m,acc=>match bitE m a with
    | true=>pushAll r m acc
    | false=>pushAll r (Nat.lor m (Nat.shiftLeft 1 a)) (a :: acc)
def refsG (g:Addr → Option Obj) (a:Addr):List Addr:=match g a with
  | some o=>He.refsD o
  | none=>[]
def lvE (g:Addr → Option Obj):Nat → Nat → List Addr → List Addr → List Addr
  | 0,_,_,acc=>acc
  | k + 1,m,fr,acc=>match pushAll (fr.flatMap (refsG g)) m [] with
    | (m',nf)=>lvE g k m' nf (acc ++ nf)
def adC (g:Addr → Option Obj) (n:Nat):List Addr:=cStatics :: lvE g n (Nat.lor (Nat.shiftLeft 1 mainGlobals) (Nat.shiftLeft 1 cStatics)) [mainGlobals] [mainGlobals]
def apartB (tf:List He.Defn) (K:PySem.W.Frag):Bool:=decide ((tf.map fun p=>(He.cT K p).2).Nodup)
abbrev AlC:Type:=He.AlD × Bool
def obC (n:Nat) (fa:List He.Fa) (fn:List He.DefD) (tf:List He.Defn) (ex:PySem.W.Frag → Bool) (g:Addr → Option Obj):AlC:=
  (He.obsD fa fn (He.frT g (adC g n)),ex (He.frT g (adC g n)) && (apartB tf (He.frT g (adC g n)) && He.tabsB g tf (He.frT g (adC g n))))
structure SaysC (fa:List He.Fa) (fn:List He.DefD) (tf:List He.Defn) (ex:PySem.W.Frag → Bool) (h:Heap) (K:PySem.W.Frag):Prop where
  d:He.SaysD fa fn K
  more:ex K = true
  apart:(tf.map fun p=>(He.cT K p).2).Nodup
  tabs:∀ p ∈ tf,PySem.W.codeHdIn K (He.cT K p).1 (He.cT K p).2 = true ∧ K.lookup (He.cT K p).2 = none ∧ h.get? (He.cT K p).2 = some { cls:=.none,data:=.fields #[] }
theorem saysC_of {n:Nat} {fa:List He.Fa} {fn:List He.DefD} {tf:List He.Defn} {ex:PySem.W.Frag → Bool} {h:Heap} (e:obC n fa fn tf ex h.get? = (He.valD fn,true)):SaysC fa fn tf ex h (He.frT h.get? (adC h.get? n)):=by
  have e1:=congrArg Prod.fst e
  have e2:(ex (He.frT h.get? (adC h.get? n)) && (apartB tf (He.frT h.get? (adC h.get? n)) && He.tabsB h.get? tf (He.frT h.get? (adC h.get? n)))) = true:=congrArg Prod.snd e
  rw [Bool.and_eq_true,Bool.and_eq_true] at e2
  refine ⟨e1,e2.1,of_decide_eq_true e2.2.1,fun p hp=>?_⟩
  have z:=List.all_eq_true.mp e2.2.2 p hp
  rw [Bool.and_eq_true] at z
  refine ⟨z.1,?_⟩
  have z2:=z.2
  split at z2
  · rename_i o g
    exact ⟨He.frT_none g z2,by rw [g,He.emptyTab_eq z2]⟩
  · cases z2
def hookC (n:Nat) (fa:List He.Fa) (fn:List He.DefD) (tf:List He.Defn) (ex:PySem.W.Frag → Bool):PySem.W.Hook where
  α:=AlC
  obs:=fun s=>obC n fa fn tf ex s.heap.get?
  val:=fun _=>(He.valD fn,true)
  says:=fun _ h=>∃ K:PySem.W.Frag,K.In h ∧ SaysC fa fn tf ex h K
  of:=fun _ _ e=>⟨_,He.frT_in,saysC_of e⟩
  keeps:=fun _ _ _ ⟨K,hK,c⟩ k=>⟨K,PySem.W.Frag.In.keeps hK k,c.d,c.more,c.apart,fun p hp=>⟨(c.tabs p hp).1,(c.tabs p hp).2.1,k _ _ (c.tabs p hp).2.2⟩⟩
def obT (n:Nat) (fa:List He.Fa) (fn:List He.DefD) (tf:List He.Defn) (ex:PySem.W.Frag → Bool) (s:PySem.W.SharedT):AlC:=obC n fa fn tf ex (HandSHeadRun.getT s)
def tabU (cs xs:List Str):Tab:=fun c x=>if decide (c ∈ cs) && decide (x ∈ xs) then some (decide (x = "UnitError") || decide (c = x)) else none
end DL
end
section
namespace G
open PySem PySem.Spec PyProof.Rows L2 DL C8
variable [Tbs]
def top (i:Nat):Stmt:=PySem.Challenge.pw_unithouse_k36_ways_and_units.main.body.getD i (.Pass ⟨0,0,0,0⟩)
def dd (x:Str) (i:Nat):He.DefD:=⟨(x,none),x,x,L2.defArgs (top i),L2.defBody (top i),L2.defScope (top i),[],[]⟩
def de (c:Str) (i:Nat) (q:Str):He.DefD:=⟨(c,some "__init__"), "__init__",q,L2.defArgs ((clsBody (top i)).getD 0 (.Pass ⟨0,0,0,0⟩)),L2.defBody ((clsBody (top i)).getD 0 (.Pass ⟨0,0,0,0⟩)),L2.defScope ((clsBody (top i)).getD 0 (.Pass ⟨0,0,0,0⟩)),[],[]⟩
def fn:List He.DefD:=[dd "is_from" 8,dd "need_many" 9,dd "is_content" 12,dd "need_content" 13,dd "falling" 15,dd "top_sums" 16,dd "goes_under" 17,dd "is_name" 19,dd "is_deed" 20,dd "row_behind" 21,dd "need_way" 22,dd "rows_on" 23,dd "units" 24,dd "next_places" 25,dd "evening_deeds" 26,dd "sorting_deeds" 27,dd "way_to" 28,dd "is_way" 29,dd "_law_mixed" 31,dd "_law_begin" 32,dd "_law_draw" 33,dd "_law_of" 34,dd "_law_two" 35,dd "_law_like" 36,dd "_law_row_behind" 37,dd "_law_way" 38,dd "_law_rows_on" 39,dd "_law_row" 40,dd "_law_near_row" 41,dd "_law_tops" 42,dd "_law_evener" 43,dd "_law_is_deed" 44,dd "_law_way_error" 45,dd "_law_leads" 46,dd "_law_bent_way" 47,dd "_law_heard" 48,dd "_law_goal_right" 49,dd "_law_ways_right" 50,dd "_law_refused_right" 51,dd "_law_by_hand" 52,dd "law" 53,de "BadMany" 2 "BadMany.__init__",de "BadContent" 3 "BadContent.__init__",de "BadTotal" 4 "BadTotal.__init__",de "BadWay" 5 "BadWay.__init__",de "BadStep" 6 "BadStep.__init__"]
def fa:List He.Fa:=[.free "isinstance",.free "int",.free "bool",.glo "is_from",.free "list",.free "sorted",.glo "falling",.glo "is_name",.free "tuple",.glo "row_behind",.glo "next_places",.free "len",.free "range",.glo "sorting_deeds",.glo "_law_mixed",.glo "_law_begin",.free "repr",.glo "_law_like",.glo "_law_row_behind",.glo "_law_tops",.free "str",.glo "_law_is_deed",.glo "top_sums",.glo "is_deed",.free "sum",.glo "evening_deeds",.glo "_law_draw",.glo "_law_rows_on",.free "zip",.glo "_law_evener",.free "enumerate",.glo "_law_way_error",.glo "need_many",.glo "goes_under",.glo "need_way",.glo "_law_of",.glo "_law_two",.glo "_law_row",.glo "_law_leads",.int "MOST_OF_A_NAME" 24,.glo "is_content",.glo "_law_way",.glo "_law_near_row",.glo "_law_bent_way",.glo "need_content",.glo "rows_on",.free "abs",.glo "units",.glo "way_to",.glo "BadWay",.glo "BadStep",.glo "is_way",.glo "BadTotal",.glo "BadContent",.glo "BadMany",.glo "_law_heard",.glo "_law_goal_right",.glo "_law_refused_right",.glo "_law_ways_right",.glo "_law_by_hand",.free "min",.glo "law",.glo "UnitError"]
def es:List (Str × List Str):=[("BadMany",["value"]),("BadContent",["value"]),("BadTotal",["value"]),("BadWay",["place"]),("BadStep",["place"])]
def cs:List Str:=["BadMany", "BadContent", "BadTotal", "BadWay", "BadStep"]
def xs:List Str:=["BadWay", "BadStep", "BadMany", "BadContent", "BadTotal"]
def tab:Tab:=tabU cs xs
def ft:Str → List Str:=fun c=>(es.lookup c).getD []
def tf:List (He.Defn × Str):=[(("way_to",none),("way_to" : Str) ++ ".<locals>." ++ "<lambda>"),(("_law_goal_right",none),("_law_goal_right" : Str) ++ ".<locals>." ++ "<lambda>"),(("_law_refused_right",none),("_law_refused_right" : Str) ++ ".<locals>." ++ "<lambda>"),(("_law_ways_right",none),("_law_ways_right" : Str) ++ ".<locals>." ++ "<lambda>"),(("_law_by_hand",none),("_law_by_hand" : Str) ++ ".<locals>." ++ "<lambda>")]
def loose0:List Str:=["UnitError", "BadMany", "BadContent", "BadTotal", "BadWay", "BadStep", "is_from", "need_many", "MOST_OF_A_NAME", "is_content", "need_content", "falling", "top_sums", "goes_under", "is_name", "is_deed", "row_behind", "need_way", "rows_on", "units", "next_places", "evening_deeds", "sorting_deeds", "way_to", "is_way", "_law_mixed", "_law_begin", "_law_draw", "_law_of", "_law_two"]
def loose1:List Str:=["_law_like", "_law_row_behind", "_law_way", "_law_rows_on", "_law_row", "_law_near_row", "_law_tops", "_law_evener", "_law_is_deed", "_law_way_error", "_law_leads", "_law_bent_way", "_law_heard", "_law_goal_right", "_law_ways_right", "_law_refused_right", "_law_by_hand"]
def loose:List Str:=loose0 ++ loose1
abbrev R:PySem.W.OpenRow:=PySem.W.OpenLaw.row PySem.Challenge.rw_unithouse_k36_ways_and_units
abbrev hk:PySem.W.Hook:=hookC 5 fa fn (tf.map (·.1)) (exB es tab cs xs)
abbrev ob:PySem.W.SharedT → AlC:=obT 5 fa fn (tf.map (·.1)) (exB es tab cs xs)
end G
end
section
set_option maxHeartbeats 0
namespace G
open PySem PySem.Spec PyProof.Rows L2 DL
theorem comb2 {α β γ δ:Type} {X:Option α} {f:α → β × γ} {o:α → δ} {x:β} {y:γ} {z:δ} (a:X.map f = some (x,y)) (b:X.map o = some z):X.map (fun s=>((f s).1,(f s).2,o s)) = some (x,y,z):=by
  cases X with
  | none=>cases a
  | some s =>
    simp only [Option.map_some,Option.some.injEq] at a b ⊢
    rw [a,b]
theorem run_a (w:World) (os:OsState):(HandSHeadRun.endF (HandSHeadRun.stepQ (HandSHeadRun.denQ HandSHeadRun.tabQ) R.prog w) 2820 R.prog w os).map (fun s=>(HandSHeadRun.looksF R.prog (PySem.W.boot_heap w.params) s.abs,HandSHeadRun.seenQ (PySem.W.view R.prog [53]) loose (importedModules R.prog.main.body) (fun s=>PySem.W.xlAt (PySem.W.view R.prog [53]) [] s && PySem.W.recOk R.toRowW.records s) s.abs)) = some (true,PySem.W.openGood (PySem.W.view R.prog [53]) loose):=by
  kernel_rfl
theorem run_b (w:World) (os:OsState):(HandSHeadRun.endF (HandSHeadRun.stepQ (HandSHeadRun.denQ HandSHeadRun.tabQ) R.prog w) 2820 R.prog w os).map ob = some (hk.val w):=by
  kernel_rfl
theorem run (w:World):HandSHeadRun.RunEq R (PySem.W.view R.prog [53]) hk ob 2820 loose w:=fun os=>comb2 (run_a w os) (run_b w os)
end G
end
section
namespace DL
open PySem PySem.Spec PyProof.Rows L2
open LamX (Tabs TabS CodeO)
abbrev D:=PyData
abbrev Sg:=L2.St
/-- the draws' state: the cells, what is left of the great ones, how many draws -/
structure DS where
  cells:List Int
  lefts:List Int
  pos:Int
  acc:List (List D):=[]
/-- what an expression gives: data; a list of the call's own, new or held by a slot; the draws' state -/
inductive Rv where
  | d (x:D) | l (xs:List D) | b (xs:List D) | s | a (k:Nat)
inductive Rs (α:Type) where
  | ok (a:α) (t:Option DS)
  | ex (c:Str) (fs:List (Str × D)) (t:Option DS)
  | stuck
/-- what a call without arguments does -/
abbrev Th:=Option DS → Rs Rv
/-- what a slot holds -/
inductive Sl where
  | un | d (x:D) | l (xs:List D) | s | e (c:Str) (fs:List (Str × D)) | a (k:Nat) | c (th:Th)
abbrev Gm:=List Sl
def Rs.bind {α β:Type}:Rs α → (α → Option DS → Rs β) → Rs β
  | .ok a t,f=>f a t
  | .ex c fs t,_=>.ex c fs t
  | .stuck,_=>.stuck
def Rs.of {α:Type}:Option α → Option DS → Rs α
  | some a,t=>.ok a t
  | none,_=>.stuck
/-- a new list of one's own is given away -/
def Rv.fz:Rv → Rv
  | .l xs=>.d (.list xs)
  | r=>r
def Rs.fz (r:Rs Rv):Rs Rv:=r.bind fun a t=>.ok a.fz t
abbrev EM:=Gm → Option DS → Rs Rv
abbrev AM:=Gm → Option DS → Rs (List Rv)
abbrev BM:=Gm → Option DS → Rs Bool
variable [Tbs]
def tabA:List Addr:=Tbs.T.map (·.1)
/-- data that stand: over the frozen part of the heap -/
structure Grow (As:List Addr) (F H:Hp) (As':List Addr) (F' H':Hp):Prop where
  ff:Same F F'
  fh:Same F' H'
  hh:∀ p o,p ∉ As → H p = some o → H' p = some o
  nn:∀ p,F p = none → H p ≠ none → F' p = none
  dd:∀ p,H p ≠ none → H' p ≠ none
  ss:As' = As ∨ ∃ l,As' = As ++ l ∧ ∀ p ∈ l,H p = none
  ll:∀ p x u,H p = some (.frz x u) → H' p = some (.frz x u)
theorem Grow.refl {As:List Addr} {F H:Hp} (h:Same F H):Grow As F H As F H:=
  ⟨Same.refl _,h,fun _ _ _ e=>e,fun _ e _=>e,fun _ e=>e,.inl rfl,fun _ _ _ e=>e⟩
theorem Grow.mem {As As':List Addr} {F F' H H':Hp} (g:Grow As F H As' F' H') {p:Addr} (hp:p ∈ As'):p ∈ As ∨ H p = none:=by
  rcases g.ss with e | ⟨l,e2,h⟩
  · exact .inl (e ▸ hp)
  · rw [e2] at hp
    rcases List.mem_append.mp hp with z | z
    · exact .inl z
    · exact .inr (h p z)
theorem Grow.trans {As As1 As2:List Addr} {F F1 F2 H H1 H2:Hp} (a:Grow As F H As1 F1 H1) (b:Grow As1 F1 H1 As2 F2 H2):Grow As F H As2 F2 H2 where
  ff:=a.ff.trans b.ff
  fh:=b.fh
  hh:=fun p o n e=>b.hh p o (fun z=>by
    rcases a.mem z with q | q
    · exact n q
    · rw [q] at e; cases e) (a.hh p o n e)
  nn:=fun p e n=>b.nn p (a.nn p e n) (a.dd p n)
  dd:=fun p n=>b.dd p (a.dd p n)
  ll:=fun p x u e=>b.ll p x u (a.ll p x u e)
  ss:=by
    rcases b.ss with e | ⟨l,e2,h⟩
    · rw [e]; exact a.ss
    · have back:∀ p ∈ l,H p = none:=fun p hp=>by
        cases q:H p with
        | none=>rfl
        | some o=>exact absurd (h p hp) (a.dd p (by rw [q]; simp))
      rcases a.ss with z | ⟨l',z,hl⟩
      · exact .inr ⟨l,by rw [e2,z],back⟩
      · refine .inr ⟨l' ++ l,by rw [e2,z,List.append_assoc],fun p hp=>?_⟩
        rcases List.mem_append.mp hp with q | q
        · exact hl p q
        · exact back p q
end DL
namespace L2
open PySem PySem.Spec PyProof.Rows
theorem Same.seqT {K:PySem.W.Frag} {H H':Hp} {a:Addr} {xs:List V} (e:Same H H') (h:SqT K H a xs):SqT K H' a xs:=by
  rcases h with (h | ⟨o,h⟩) | h
  · exact .inl (.inl (e _ _ h))
  · exact .inl (.inr ⟨o,e _ _ h⟩)
  · exact .inr h
end L2
namespace DL
open PySem PySem.Spec PyProof.Rows L2
/-- a dict by tuples of whole numbers: at a, its keys, where these stand, its values -/
def DtoF (a:Addr) (es:List (List Int × Addr × V)) (h:Heap):Prop:=
  es.length ≤ sizeLine ∧ (a == sysModules) = false ∧ ∃ xs:List (List Int × Addr × Value),Paired (fun (p:List Int × Addr × V) (q:List Int × Addr × Value)=>p.1 = q.1 ∧ p.2.1 = q.2.1 ∧ RelV p.2.2 q.2.2) es xs ∧
    ∃ o cs n,h.get? a = some o ∧ o.ExactDict ∧ o.data = .dict cs n ∧ (∀ P w,cs.toList = xs.map (entryOfKey (tupleKind (intKind P w)))) ∧ (xs.map (·.1)).Nodup
def DTO (a:Addr) (es:List (List Int × Addr × V)):HO:=.ext (DtoF a es)
mutual
/-- data in the heap: as the library's, and dicts without entries -/
inductive Dp (K:PySem.W.Frag) (H:Hp):V → PyData → Prop
  | non:Dp K H .non .none
  | bl (b:Bool):Dp K H (.bl b) (.bool b)
  | int (i:Int):Dp K H (.int i) (.int i)
  | str (x:Str):Dp K H (.str x) (.str x)
  | lst {a:Addr} {vs:List V} {ds:List PyData} (h:SqL K H a vs) (g:DpAll K H vs ds):Dp K H (.ref a) (.list ds)
  | tup {a:Addr} {vs:List V} {ds:List PyData} (h:SqT K H a vs) (g:DpAll K H vs ds):Dp K H (.ref a) (.tuple ds)
  | dct {a:Addr} (h:H a = some (DTO a [])):Dp K H (.ref a) (.dict [])
inductive DpAll (K:PySem.W.Frag) (H:Hp):List V → List PyData → Prop
  | nil:DpAll K H [] []
  | cons {v:V} {vs:List V} {d:PyData} {ds:List PyData} (h:Dp K H v d) (g:DpAll K H vs ds):DpAll K H (v :: vs) (d :: ds)
end
mutual
theorem Dp.kit {K:PySem.W.Frag} {H:Hp}:∀ (d:PyData) (v:V),d.canLay0 = true → Dp K H v d → L2.Dp K H v d
  | .none,_,_,h=>by cases h; exact .non
  | .bool b,_,_,h=>by cases h; exact .bl b
  | .int i,_,_,h=>by cases h; exact .int i
  | .str x,_,_,h=>by cases h; exact .str x
  | .list ds,_,c,h=>by
    cases h with
    | lst hs ha=>exact .lst hs (DpAll.kit ds _ (by simpa [PyData.canLay0] using c) ha)
  | .tuple ds,_,c,h=>by
    cases h with
    | tup hs ha=>exact .tup hs (DpAll.kit ds _ (by simpa [PyData.canLay0] using c) ha)
  | .dict _,_,c,_=>by simp [PyData.canLay0] at c
theorem DpAll.kit {K:PySem.W.Frag} {H:Hp}:∀ (ds:List PyData) (vs:List V),PyData.canLayAll0 ds = true → DpAll K H vs ds → L2.DpAll K H vs ds
  | [],_,_,h=>by cases h; exact .nil
  | d :: ds,_,c,h=>by
    have c:(d.canLay0 && PyData.canLayAll0 ds) = true:=by simpa [PyData.canLayAll0] using c
    rw [Bool.and_eq_true] at c
    cases h with
    | cons h1 h2=>exact .cons (Dp.kit d _ c.1 h1) (DpAll.kit ds _ c.2 h2)
end
theorem Dp.kitS {K:PySem.W.Frag} {H:Hp} {d:PyData} {v:V} (s:SeqAt.shaped d = true) (h:Dp K H v d):L2.Dp K H v d:=Dp.kit d v (SeqAt.canLay_of_shaped s) h
section
variable {X:Cx} {pins:List (Addr × Obj)} {σ:L2.St} {H:Hp} {s:Shared}
mutual
theorem Dp.reads (I:L2.Inv X pins σ H s):∀ (d:PyData) (v:V) (u:Value),Dp X.K H v d → RelV v u → ∃ as,Reads s.heap u d as
  | .none,_,_,h,r=>by cases h; cases r; exact ⟨_,.none⟩
  | .bool b,_,_,h,r=>by cases h; cases r; exact ⟨_,.bool b⟩
  | .int i,_,_,h,r=>by cases h; obtain ⟨t,rfl⟩:=r; exact ⟨_,.int i t⟩
  | .str x,_,_,h,r=>by cases h; obtain ⟨t,rfl⟩:=r; exact ⟨_,.str x t⟩
  | .list ds,_,_,h,r=>by
    cases h with
    | lst hs ha =>
      cases r
      obtain ⟨js,rv,c,_⟩:=I.list hs
      obtain ⟨q,m,e1,e2,_,e3⟩:=c
      obtain ⟨as,z⟩:=DpAll.reads I ds _ js ha rv
      exact ⟨_,.list e1 e2 e3 z⟩
  | .tuple ds,_,_,h,r=>by
    cases h with
    | tup hs ha =>
      cases r
      obtain ⟨js,rv,c,_⟩:=I.tuple hs
      obtain ⟨q,e1,e2,m,e3⟩:=c
      obtain ⟨as,z⟩:=DpAll.reads I ds _ js ha rv
      exact ⟨_,.tuple e1 e2 e3 z⟩
  | .dict _,_,_,h,r=>by
    cases h with
    | dct he =>
      cases r
      obtain ⟨⟨_,_,xs,rl,q,cs,m,e1,e2,e3,e4,_⟩,_,_⟩:=(show ObjOk X.prog X.w H s.heap _ (DTO _ []) from I.hok _ _ he)
      have xn:xs = []:=by cases rl; rfl
      have cn:cs.toList = []:=by rw [e4 X.prog X.w,xn]; rfl
      exact ⟨_,.dict e1 e2.1 e3 (by rw [cn]; exact .nil) (by rw [cn]; exact .nil)⟩
theorem DpAll.reads (I:L2.Inv X pins σ H s):∀ (ds:List PyData) (vs:List V) (us:List Value),DpAll X.K H vs ds → Vals vs us → ∃ as,ReadsAll s.heap us ds as
  | [],_,_,h,r=>by cases h; cases r; exact ⟨_,.nil⟩
  | d :: ds,_,_,h,r=>by
    cases h with
    | cons h1 h2 =>
      cases r with
      | cons r1 r2 =>
        obtain ⟨_,z1⟩:=Dp.reads I d _ _ h1 r1
        obtain ⟨_,z2⟩:=DpAll.reads I ds _ _ h2 r2
        exact ⟨_,.cons z1 z2⟩
end
end
mutual
theorem Dp.mono {K:PySem.W.Frag} {H H':Hp} (k:Same H H'):∀ (d:PyData) (v:V),Dp K H v d → Dp K H' v d
  | .none,_,h=>by cases h; exact .non
  | .bool b,_,h=>by cases h; exact .bl b
  | .int i,_,h=>by cases h; exact .int i
  | .str x,_,h=>by cases h; exact .str x
  | .list ds,_,h=>by
    cases h with
    | lst hs ha=>exact .lst (k.seq hs) (DpAll.mono k ds _ ha)
  | .tuple ds,_,h=>by
    cases h with
    | tup hs ha=>exact .tup (Same.seqT k hs) (DpAll.mono k ds _ ha)
  | .dict _,_,h=>by
    cases h with
    | dct he=>exact .dct (k _ _ he)
theorem DpAll.mono {K:PySem.W.Frag} {H H':Hp} (k:Same H H'):∀ (ds:List PyData) (vs:List V),DpAll K H vs ds → DpAll K H' vs ds
  | [],_,h=>by cases h; exact .nil
  | d :: ds,_,h=>by
    cases h with
    | cons h1 h2=>exact .cons (Dp.mono k d _ h1) (DpAll.mono k ds _ h2)
end
theorem DpAll.length {K:PySem.W.Frag} {H:Hp}:∀ {vs:List V} {ds:List PyData},DpAll K H vs ds → vs.length = ds.length
  | _,[],h=>by cases h; rfl
  | _,d :: ds,h=>by
    cases h with
    | cons h1 h2=>simp [DpAll.length h2]
theorem DpAll.get {K:PySem.W.Frag} {H:Hp}:∀ {vs:List V} {ds:List PyData} {i:Nat} {d:PyData},DpAll K H vs ds → ds[i]? = some d → ∃ v,vs[i]? = some v ∧ Dp K H v d
  | _,[],_,_,h,e=>by simp at e
  | _,d :: ds,0,_,h,e=>by
    cases h with
    | cons h1 h2=>simp at e; subst e; exact ⟨_,rfl,h1⟩
  | _,d :: ds,i + 1,_,h,e=>by
    cases h with
    | cons h1 h2 =>
      obtain ⟨v,e2,h3⟩:=DpAll.get h2 (i:=i) (by simpa using e)
      exact ⟨v,by simpa using e2,h3⟩
theorem DpAll.append {K:PySem.W.Frag} {H:Hp}:∀ {vs ws:List V} {ds es:List PyData},DpAll K H vs ds → DpAll K H ws es → DpAll K H (vs ++ ws) (ds ++ es)
  | _,_,[],_,h,g=>by cases h; exact g
  | _,_,d :: ds,_,h,g=>by
    cases h with
    | cons h1 h2=>exact .cons h1 (DpAll.append h2 g)
theorem DpAll.take {K:PySem.W.Frag} {H:Hp}:∀ (n:Nat) {vs:List V} {ds:List PyData},DpAll K H vs ds → DpAll K H (vs.take n) (ds.take n)
  | 0,_,_,_=>by simp; exact .nil
  | n + 1,_,[],h=>by cases h; simp; exact .nil
  | n + 1,_,d :: ds,h=>by
    cases h with
    | cons h1 h2=>simp; exact .cons h1 (DpAll.take n h2)
theorem DpAll.drop {K:PySem.W.Frag} {H:Hp}:∀ (n:Nat) {vs:List V} {ds:List PyData},DpAll K H vs ds → DpAll K H (vs.drop n) (ds.drop n)
  | 0,_,_,h=>by simpa using h
  | n + 1,_,[],h=>by cases h; simp; exact .nil
  | n + 1,_,d :: ds,h=>by
    cases h with
    | cons h1 h2=>simpa using DpAll.drop n h2
theorem DpAll.set {K:PySem.W.Frag} {H:Hp} {v:V} {d:PyData} (hd:Dp K H v d):∀ (n:Nat) {vs:List V} {ds:List PyData},DpAll K H vs ds → DpAll K H (vs.set n v) (ds.set n d)
  | _,_,[],h=>by cases h; exact .nil
  | 0,_,e :: ds,h=>by
    cases h with
    | cons h1 h2=>exact .cons hd h2
  | n + 1,_,e :: ds,h=>by
    cases h with
    | cons h1 h2=>exact .cons h1 (DpAll.set hd n h2)
theorem DpAll.one {K:PySem.W.Frag} {H:Hp} {v:V} {d:PyData} (h:Dp K H v d):DpAll K H [v] [d]:=.cons h .nil
variable [Tbs]
open LamX (Tabs TabS CodeO)
/-- things that need no heap -/
def flatD:D → Bool
  | .none | .bool _ | .int _=>true
  | .str x=>PyData.strOk x
  | _=>false
def flatV:D → V
  | .none=>.non
  | .bool b=>.bl b
  | .int i=>.int i
  | .str x=>.str x
  | _=>.non
/-- what a dict is asked by -/
def keyD:D → Option Key
  | .int i=>some (.inl i)
  | .str x=>some (.inr x)
  | _=>none
def DkP (kv:D × D) (q:Key × V):Prop:=keyD kv.1 = some q.1 ∧ flatD kv.2 = true ∧ q.2 = flatV kv.2
def KM (F F':Hp):Prop:=∀ a xs,Rd F a (.tup xs) → Rd F' a (.tup xs)
theorem KM.of {F F':Hp} (k:Same F F'):KM F F':=fun a xs e=>by
  rcases e with e | ⟨o,e⟩
  · exact .inl (k _ _ e)
  · exact .inr ⟨o,k _ _ e⟩
mutual
/-- data with no list in them -/
def noLst:D → Bool
  | .list _ | .dict _=>false
  | .tuple xs=>noLsts xs
  | _=>true
def noLsts:List D → Bool
  | []=>true
  | x :: xs=>noLst x && noLsts xs
end
theorem SqT.km {K:PySem.W.Frag} {F F':Hp} (k:KM F F') {a:Addr} {xs:List V} (h:SqT K F a xs):SqT K F' a xs:=by
  rcases h with h | h
  · exact .inl (k a xs h)
  · exact .inr h
mutual
theorem Dp.km {K:PySem.W.Frag} {F F':Hp} (k:KM F F'):∀ (d:D) (v:V),noLst d = true → Dp K F v d → Dp K F' v d
  | .none,_,_,h=>by cases h; exact .non
  | .bool b,_,_,h=>by cases h; exact .bl b
  | .int i,_,_,h=>by cases h; exact .int i
  | .str x,_,_,h=>by cases h; exact .str x
  | .list ds,_,n,_=>nomatch n
  | .dict ds,_,n,_=>nomatch n
  | .tuple ds,_,n,h=>by
    cases h with
    | tup hs ha=>exact .tup (SqT.km k hs) (DpAll.km k ds _ n ha)
theorem DpAll.km {K:PySem.W.Frag} {F F':Hp} (k:KM F F'):∀ (ds:List D) (vs:List V),noLsts ds = true → DpAll K F vs ds → DpAll K F' vs ds
  | [],_,_,h=>by cases h; exact .nil
  | d :: ds,_,n,h=>by
    have n:(noLst d && noLsts ds) = true:=n
    rw [Bool.and_eq_true] at n
    cases h with
    | cons h1 h2=>exact .cons (Dp.km k d _ n.1 h1) (DpAll.km k ds _ n.2 h2)
end
def KeyAt (F:Hp) (e:List Int × Addr × V):Prop:=SqT Tbs.K F e.2.1 (e.1.map .int)
def DtP (F:Hp) (kv:D × D) (e:List Int × Addr × V):Prop:=kv.1 = .tuple (e.1.map .int) ∧ KeyAt F e ∧ noLst kv.2 = true ∧ Dp Tbs.K F e.2.2 kv.2
/-- a list of dicts -/
def encL (ks:List Nat):List D:=.dict [] :: .bool true :: ks.map fun (k:Nat)=>.int (k:Int)
/-- a list of flat things; a dict of flat things by numbers or texts; one by tuples of numbers, as it is or locked; a list of such -/
def AcAt (F:Hp) (as:List Addr) (p:Addr) (ds:List D) (o:Option HO):Prop:=(ds.all flatD = true ∧ o = some (.lst (ds.map flatV))) ∨ (∃ kvs ks,ds = [.dict kvs] ∧ Paired DkP kvs ks ∧ o = some (.dK ks)) ∨
  (∃ kvs es,ds = [.dict kvs,.none] ∧ Paired (DtP F) kvs es ∧ o = some (DTO p es)) ∨ (∃ kvs es x,ds = [.dict kvs,.none,.none] ∧ Paired (DtP F) kvs es ∧ o = some (.frz x (DTO p es))) ∨ ∃ ks,ds = encL ks ∧ (∀ k ∈ ks,k < as.length) ∧ o = some (.lst (ks.map fun k=>.ref (as.getD k 0)))
def isDic:List D → Bool
  | .dict _ :: _=>true
  | _=>false
theorem flat_ref:∀ (x:D) (a:Addr),flatV x ≠ .ref a:=fun x a h=>by cases x <;> cases h
section
variable {F:Hp} {as:List Addr} {p:Addr} {ds:List D} {o:Option HO}
theorem AcAt.list (h:AcAt F as p ds o) (n:isDic ds = false):ds.all flatD = true ∧ o = some (.lst (ds.map flatV)):=by
  rcases h with h | ⟨kvs,ks,rfl,_⟩ | ⟨kvs,ks,rfl,_⟩ | ⟨kvs,ks,x,rfl,_⟩ | ⟨ks,rfl,_⟩
  · exact h
  all_goals cases n
theorem AcAt.there (h:AcAt F as p ds o):(∃ vs,o = some (.lst vs)) ∨ (∃ ks,o = some (.dK ks)) ∨ (∃ es,o = some (DTO p es)) ∨ ∃ x es,o = some (.frz x (DTO p es)):=by
  rcases h with h | ⟨kvs,ks,_,_,h⟩ | ⟨kvs,ks,_,_,h⟩ | ⟨kvs,ks,x,_,_,h⟩ | ⟨ks,_,_,h⟩
  · exact .inl ⟨_,h.2⟩
  · exact .inr (.inl ⟨_,h⟩)
  · exact .inr (.inr (.inl ⟨_,h⟩))
  · exact .inr (.inr (.inr ⟨_,_,h⟩))
  · exact .inl ⟨_,h⟩
/-- no dict of flat things has a reference in it -/
theorem AcAt.noref {x:Key} {c:Addr} {r:List (Key × V)} (h:AcAt F as p ds o):o ≠ some (.dK ((x,.ref c) :: r)):=fun e=>by
  rcases h with h | ⟨kvs,ks,_,hp,h⟩ | ⟨kvs,ks,_,_,h⟩ | ⟨kvs,ks,x,_,_,h⟩ | ⟨ks,_,_,h⟩
  · rw [h.2] at e; cases e
  · rw [h] at e
    cases e
    cases hp with
    | cons q t=>exact flat_ref _ _ q.2.2.symm
  · rw [h] at e; cases e
  · rw [h] at e; cases e
  · rw [h] at e; cases e
theorem DtP.mono {F F':Hp} (k:KM F F') {kv:D × D} {e:List Int × Addr × V} (h:DtP F kv e):DtP F' kv e:=by
  obtain ⟨a,b,c,q⟩:=h
  exact ⟨a,SqT.km k b,c,Dp.km k _ _ c q⟩
theorem AcAt.mono {F':Hp} (k:KM F F') (h:AcAt F as p ds o):AcAt F' as p ds o:=by
  rcases h with h | h | ⟨kvs,es,a,b,c⟩ | ⟨kvs,es,x,a,b,c⟩ | h
  · exact .inl h
  · exact .inr (.inl h)
  · exact .inr (.inr (.inl ⟨kvs,es,a,Paired.mapP b fun _ _ q=>q.mono k,c⟩))
  · exact .inr (.inr (.inr (.inl ⟨kvs,es,x,a,Paired.mapP b fun _ _ q=>q.mono k,c⟩)))
  · exact .inr (.inr (.inr (.inr h)))
theorem AcAt.more (h:AcAt F as p ds o) (l:List Addr):AcAt F (as ++ l) p ds o:=by
  rcases h with h | h | h | h | ⟨ks,e1,e2,e3⟩
  · exact .inl h
  · exact .inr (.inl h)
  · exact .inr (.inr (.inl h))
  · exact .inr (.inr (.inr (.inl h)))
  · refine .inr (.inr (.inr (.inr ⟨ks,e1,fun k hk=>?_,?_⟩)))
    · rw [List.length_append]; exact Nat.lt_of_lt_of_le (e2 k hk) (Nat.le_add_right _ _)
    · rw [e3]
      refine congrArg some (congrArg HO.lst (List.map_congr_left fun k hk=>?_))
      rw [List.getD_eq_getElem?_getD,List.getD_eq_getElem?_getD,List.getElem?_append_left (e2 k hk)]
end
/-- the lists and dicts that defs hand on and change -/
structure AcOk (F:Hp) (c l:Addr) (as:List Addr) (acc:List (List D)) (H:Hp):Prop where
  ne:∀ p ∈ as,p ≠ c ∧ p ≠ l
  nd:as.Nodup
  at_:Paired (fun p ds=>AcAt F as p ds (H p)) as acc
theorem _root_.L2.Paired.mapMem {α β:Type} {F G:α → β → Prop}:∀ {l₁:List α} {l₂:List β},Paired F l₁ l₂ → (∀ a b,a ∈ l₁ → F a b → G a b) → Paired G l₁ l₂
  | _,_,.nil,_=>.nil
  | _,_,.cons r t,f=>.cons (f _ _ List.mem_cons_self r) (L2.Paired.mapMem t fun a b h=>f a b (List.mem_cons_of_mem _ h))
theorem AcOk.same {F:Hp} {c l:Addr} {as:List Addr} {acc:List (List D)} {H H':Hp} (h:AcOk F c l as acc H) (k:∀ p ∈ as,H' p = H p):AcOk F c l as acc H':=
  ⟨h.ne,h.nd,L2.Paired.mapMem h.at_ fun p ds hp q=>by rw [k p hp]; exact q⟩
theorem _root_.L2.Paired.left {α β:Type} {F:α → β → Prop}:∀ {l₁:List α} {l₂:List β},Paired F l₁ l₂ → ∀ a ∈ l₁,∃ b ∈ l₂,F a b
  | _,_,.nil,_,h=>nomatch h
  | _,_,.cons r t,a,h=>by
    rcases List.mem_cons.mp h with rfl | h
    · exact ⟨_,List.mem_cons_self,r⟩
    · obtain ⟨b,hb,q⟩:=L2.Paired.left t a h
      exact ⟨b,List.mem_cons_of_mem _ hb,q⟩
theorem AcOk.mono {F F':Hp} (k:KM F F') {c l:Addr} {as:List Addr} {acc:List (List D)} {H:Hp} (h:AcOk F c l as acc H):AcOk F' c l as acc H:=
  ⟨h.ne,h.nd,Paired.mapP h.at_ fun _ _ q=>q.mono k⟩
theorem AcOk.cell {F:Hp} {c l:Addr} {as:List Addr} {acc:List (List D)} {H:Hp} (h:AcOk F c l as acc H):∀ p ∈ as,∃ ds,AcAt F as p ds (H p):=fun p hp=>by
  obtain ⟨ds,_,q⟩:=L2.Paired.left h.at_ p hp
  exact ⟨ds,q⟩
def StOk (F:Hp) (As:List Addr) (t:Option DS) (H:Hp):Prop:=Tabs Tbs.T H ∧
  match t with
  | none=>As = tabA
  | some st=>∃ d c l as,As = tabA ++ d :: c :: l :: as ∧ d ≠ c ∧ d ≠ l ∧ c ≠ l ∧
      H d = some (.dK [(.inr "cells",.ref c),(.inr "lefts",.ref l),(.inr "at",.int st.pos)]) ∧
      H c = some (.lst (st.cells.map .int)) ∧ H l = some (.lst (st.lefts.map .int)) ∧ AcOk F c l as st.acc H
theorem tab_there {H:Hp} (h:Tabs Tbs.T H):∀ p ∈ tabA,∃ ps,H p = some (.tbl ps):=fun p hp=>by
  obtain ⟨q,hq,rfl⟩:=List.mem_map.mp hp
  obtain ⟨ps,e,_⟩:=h q hq
  exact ⟨ps,e⟩
theorem StOk.mono {F F':Hp} (k:KM F F') {As:List Addr} {t:Option DS} {H:Hp} (h:StOk F As t H):StOk F' As t H:=by
  obtain ⟨hT,h⟩:=h
  refine ⟨hT,?_⟩
  cases t with
  | none=>exact h
  | some st =>
    obtain ⟨d,c,l,as,e,a1,a2,a3,h1,h2,h3,h4⟩:=h
    exact ⟨d,c,l,as,e,a1,a2,a3,h1,h2,h3,h4.mono k⟩
theorem StOk.there {F:Hp} {As:List Addr} {t:Option DS} {H:Hp} (h:StOk F As t H):∀ p ∈ As,H p ≠ none:=by
  obtain ⟨hT,h⟩:=h
  have ta:∀ p ∈ tabA,H p ≠ none:=fun p hp=>by
    obtain ⟨ps,e⟩:=tab_there hT p hp
    rw [e]; simp
  cases t with
  | none =>
    have e:As = tabA:=h
    subst e; exact ta
  | some st =>
    obtain ⟨d,c,l,as,rfl,_,_,_,h1,h2,h3,h4⟩:=h
    intro p hp
    rcases List.mem_append.mp hp with hp | hp
    · exact ta p hp
    · simp only [List.mem_cons] at hp
      rcases hp with rfl | rfl | rfl | hp
      · rw [h1]; simp
      · rw [h2]; simp
      · rw [h3]; simp
      · obtain ⟨ds,q⟩:=h4.cell p hp
        rcases q.there with ⟨vs,e⟩ | ⟨vs,e⟩ | ⟨vs,e⟩ | ⟨x,vs,e⟩ <;> rw [e] <;> simp
/-- elsewhere the heap may change, but not at code objects -/
theorem tab_upd {H:Hp} {p:Addr} {o:HO} (h:Tabs Tbs.T H) (n1:p ∉ tabA) (n2:∀ c q,H p ≠ some (CodeO c q)):Tabs Tbs.T (upd H p o):=fun q hq=>by
  obtain ⟨ps,e1,e2,e3⟩:=h q hq
  have ne:q.1 ≠ p:=fun z=>n1 (by rw [← z]; exact List.mem_map.mpr ⟨q,hq,rfl⟩)
  refine ⟨ps,by rw [upd_ne ne]; exact e1,e2,fun pos cv hc=>?_⟩
  obtain ⟨c,e4,e5⟩:=e3 pos cv hc
  exact ⟨c,e4,by rw [upd_ne (fun z=>n2 c q.2 (by rw [← z]; exact e5))]; exact e5⟩
theorem not_tab {H:Hp} {p:Addr} (h:Tabs Tbs.T H) (n:∀ ps,H p ≠ some (.tbl ps)):p ∉ tabA:=fun hp=>by
  obtain ⟨ps,e⟩:=tab_there h p hp
  exact n ps e
theorem code_ne {c:Addr} {q:Str} {o:HO} (h:CodeO c q = o) (n:∀ φ,o ≠ .ext φ):False:=n _ (by rw [← h]; rfl)
theorem StOk.upd {F:Hp} {As:List Addr} {t:Option DS} {H:Hp} {p:Addr} {o:HO} (h:StOk F As t H) (np:p ∉ As) (n2:∀ c q,H p ≠ some (CodeO c q)):StOk F As t (L2.upd H p o):=by
  obtain ⟨hT,h⟩:=h
  have k:∀ q ∈ As,L2.upd H p o q = H q:=fun q hq=>upd_ne (fun z=>np (by rw [← z]; exact hq))
  cases t with
  | none =>
    have e:As = tabA:=h
    exact ⟨tab_upd hT (by rw [← e]; exact np) n2,e⟩
  | some st =>
    obtain ⟨d,c,l,as,e,a1,a2,a3,h1,h2,h3,h4⟩:=h
    refine ⟨tab_upd hT (fun z=>np (by rw [e]; exact List.mem_append_left _ z)) n2,d,c,l,as,e,a1,a2,a3,?_,?_,?_,h4.same fun q hq=>k q (by rw [e]; simp [hq])⟩
    · rw [k d (by rw [e]; simp)]; exact h1
    · rw [k c (by rw [e]; simp)]; exact h2
    · rw [k l (by rw [e]; simp)]; exact h3
theorem none_code {H:Hp} {p:Addr} (n:H p = none) (c:Addr) (q:Str):H p ≠ some (CodeO c q):=fun z=>by rw [n] at z; cases z
theorem lst_code {H:Hp} {p:Addr} {vs:List V} (n:H p = some (.lst vs)) (c:Addr) (q:Str):H p ≠ some (CodeO c q):=fun z=>by rw [n] at z; exact code_ne (Option.some.inj z).symm (fun φ w=>by cases w)
theorem dK_code {H:Hp} {p:Addr} {kvs:List (Key × V)} (n:H p = some (.dK kvs)) (c:Addr) (q:Str):H p ≠ some (CodeO c q):=fun z=>by rw [n] at z; exact code_ne (Option.some.inj z).symm (fun φ w=>by cases w)
/-- a dict is no code object -/
theorem dto_code {p:Addr} {es:List (List Int × Addr × V)} {c:Addr} {q:Str}:DTO p es ≠ CodeO c q:=fun z=>by
  have hφ:=HO.ext.inj z
  let ob:Obj:={ cls:=.none,data:=.fields #[.none,.str q 0] }
  let hp:Heap:={ objs:=Array.replicate (c + 1) ob }
  have at_:∀ b x,hp.get? b = some x → x = ob:=fun b x e=>by
    unfold Heap.get? at e
    by_cases hb:b < c + 1
    · have e1:hp.objs[b]? = some ob:=by
        show (Array.replicate (c + 1) ob)[b]? = some ob
        rw [Array.getElem?_replicate,if_pos hb]
      rw [e1] at e
      exact (Option.some.inj e).symm
    · have e1:hp.objs[b]? = none:=by
        show (Array.replicate (c + 1) ob)[b]? = none
        rw [Array.getElem?_replicate,if_neg hb]
      rw [e1] at e
      cases e
  have hc:hp.get? c = some ob:=by
    unfold Heap.get?
    have e1:hp.objs[c]? = some ob:=by
      show (Array.replicate (c + 1) ob)[c]? = some ob
      rw [Array.getElem?_replicate,if_pos (Nat.lt_succ_self c)]
    rw [e1]
  have yes:DtoF p es hp:=by
    rw [hφ]
    exact ⟨ob,_,0,hc,rfl,rfl⟩
  obtain ⟨_,_,xs,_,o,cs,n,e1,_,e2,_⟩:=yes
  rw [at_ _ _ e1] at e2
  cases e2
theorem ext_code {H:Hp} {p:Addr} {es:List (List Int × Addr × V)} (n:H p = some (DTO p es)) (c:Addr) (q:Str):H p ≠ some (CodeO c q):=fun z=>by
  rw [n] at z
  exact dto_code (Option.some.inj z)
theorem frz_code {H:Hp} {p:Addr} {o:Obj} {u:HO} (n:H p = some (.frz o u)) (c:Addr) (q:Str):H p ≠ some (CodeO c q):=fun z=>by rw [n] at z; exact code_ne (Option.some.inj z).symm (fun φ w=>by cases w)
theorem AcAt.code {F:Hp} {as:List Addr} {ds:List D} {H:Hp} {p:Addr} (h:AcAt F as p ds (H p)) (c:Addr) (q:Str):H p ≠ some (CodeO c q):=by
  rcases h.there with ⟨vs,e⟩ | ⟨vs,e⟩ | ⟨vs,e⟩ | ⟨x,vs,e⟩
  · exact lst_code e c q
  · exact dK_code e c q
  · exact ext_code e c q
  · exact frz_code e c q
theorem AcAt.tbl {F:Hp} {as:List Addr} {p:Addr} {ds:List D} {o:Option HO} (h:AcAt F as p ds o):∀ ps,o ≠ some (.tbl ps):=fun ps z=>by
  rcases h.there with ⟨vs,e⟩ | ⟨vs,e⟩ | ⟨vs,e⟩ | ⟨x,vs,e⟩ <;> rw [e] at z <;> cases z
theorem StOk.len {F F':Hp} {As As':List Addr} {t:Option DS} {H H':Hp} (h:StOk F As t H) (h':StOk F' As' t H'):As.length = As'.length:=by
  obtain ⟨_,h⟩:=h
  obtain ⟨_,h'⟩:=h'
  cases t with
  | none =>
    have e:As = tabA:=h
    have e':As' = tabA:=h'
    rw [e,e']
  | some st =>
    obtain ⟨d,c,l,as,e,_,_,_,_,_,_,q⟩:=h
    obtain ⟨d',c',l',as',e',_,_,_,_,_,_,q'⟩:=h'
    have z1:=Paired.length q.at_
    have z2:=Paired.length q'.at_
    rw [e,e']
    simp only [List.length_append,List.length_cons]
    omega
/-- data's tuples are known to their objects, which have no dict -/
def TupOk:HO → Prop
  | .tup _=>False
  | .frz o (.tup _)=>o.dict = none
  | _=>True
def TN (F:Hp):Prop:=∀ p u,F p = some u → TupOk u
omit [Tbs] in
theorem TN.upd {F:Hp} {p:Addr} {u:HO} (h:TN F) (hu:TupOk u):TN (upd F p u):=fun q v e=>by
  by_cases hb:q = p
  · rw [hb,upd_same] at e; cases e; exact hu
  · rw [upd_ne hb] at e; exact h q v e
omit [Tbs] in
theorem TN.rd {F:Hp} {p:Addr} {xs:List V} (h:TN F) (r:Rd F p (.tup xs)):∃ o,F p = some (.frz o (.tup xs)) ∧ o.dict = none:=by
  rcases r with r | ⟨o,r⟩
  · exact (h p _ r).elim
  · exact ⟨o,r,h p _ r⟩
/-- .. apart from the data -/
structure StF (As:List Addr) (t:Option DS) (F H:Hp):Prop where
  ok:StOk F As t H
  sf:∀ p ∈ As,F p = none
  tn:TN F
def OwnL (K:PySem.W.Frag) (As:List Addr) (F H:Hp) (v:V) (xs:List D):Prop:=∃ p vs,v = .ref p ∧ p ∉ As ∧ F p = none ∧ H p = some (.lst vs) ∧ DpAll K F vs xs
def sd (As:List Addr):Option Addr:=(As.drop tabA.length)[0]?
theorem sd_tab:sd tabA = none:=by simp [sd]
/-- the k-th list that is handed on -/
def sa (As:List Addr) (k:Nat):Option Addr:=(As.drop tabA.length)[k + 3]?
theorem drop_more {As l:List Addr} {n k:Nat} {p:Addr} (h:(As.drop n)[k]? = some p):((As ++ l).drop n)[k]? = some p:=by
  rw [List.getElem?_drop] at h ⊢
  have hlt:n + k < As.length:=by
    rcases Nat.lt_or_ge (n + k) As.length with z | z
    · exact z
    · rw [List.getElem?_eq_none z] at h; cases h
  rw [List.getElem?_append_left hlt]; exact h
theorem Grow.sd {As As':List Addr} {F F' H H':Hp} (g:Grow As F H As' F' H') {p:Addr} (h:sd As = some p):DL.sd As' = some p:=by
  rcases g.ss with q | ⟨l,q,_⟩
  · rw [q]; exact h
  · rw [q]; exact drop_more h
theorem Grow.sa {As As':List Addr} {F F' H H':Hp} (g:Grow As F H As' F' H') {k:Nat} {p:Addr} (h:sa As k = some p):DL.sa As' k = some p:=by
  rcases g.ss with q | ⟨l,q,_⟩
  · rw [q]; exact h
  · rw [q]; exact drop_more h
def VOk (K:PySem.W.Frag) (As:List Addr) (F H:Hp) (v:V):Rv → Prop
  | .d x=>Dp K F v x
  | .l xs=>OwnL K As F H v xs
  | .b xs=>OwnL K As F H v xs
  | .s=>∃ d,v = .ref d ∧ sd As = some d
  | .a k=>∃ d,v = .ref d ∧ sa As k = some d
theorem OwnL.mono {K:PySem.W.Frag} {As As':List Addr} {F H F' H':Hp} {v:V} {xs:List D} (g:Grow As F H As' F' H') (h:OwnL K As F H v xs):OwnL K As' F' H' v xs:=by
  obtain ⟨p,vs,e,n,f,hp,ha⟩:=h
  refine ⟨p,vs,e,fun z=>?_,g.nn p f (by rw [hp]; simp),g.hh p _ n hp,DpAll.mono g.ff _ _ ha⟩
  rcases g.mem z with q | q
  · exact n q
  · rw [q] at hp; cases hp
theorem VOk.mono {K:PySem.W.Frag} {As As':List Addr} {F H F' H':Hp} {v:V} {r:Rv} (g:Grow As F H As' F' H') (h:VOk K As F H v r):VOk K As' F' H' v r:=by
  cases r with
  | d x=>exact Dp.mono g.ff _ _ h
  | l xs=>exact OwnL.mono g h
  | b xs=>exact OwnL.mono g h
  | s =>
    obtain ⟨d,e,hd⟩:=h
    exact ⟨d,e,g.sd hd⟩
  | a k =>
    obtain ⟨d,e,hd⟩:=h
    exact ⟨d,e,g.sa hd⟩
/-- fields of an exception -/
def XdAll (K:PySem.W.Frag) (F:Hp) (vs:List (Str × V)) (fs:List (Str × D)):Prop:=Paired (fun (p:Str × V) (q:Str × D)=>p.1 = q.1 ∧ Dp K F p.2 q.2) vs fs
theorem XdAll.mono {K:PySem.W.Frag} {F F':Hp} (k:Same F F') {vs:List (Str × V)} {fs:List (Str × D)} (h:XdAll K F vs fs):XdAll K F' vs fs:=Paired.mapP h fun _ _ q=>⟨q.1,Dp.mono k _ _ q.2⟩
def ExAt (K:PySem.W.Frag) (As:List Addr) (F H:Hp) (d:Option Addr) (fs:List (Str × D)):Prop:=
  (fs = [] ∧ d = none) ∨ ∃ a vs,d = some a ∧ a ∉ As ∧ H a = some (.xd vs) ∧ XdAll K F vs fs
theorem ExAt.mono {K:PySem.W.Frag} {As As':List Addr} {F H F' H':Hp} {d:Option Addr} {fs:List (Str × D)} (g:Grow As F H As' F' H') (h:ExAt K As F H d fs):ExAt K As' F' H' d fs:=by
  rcases h with h | ⟨a,vs,e,n,ha,hx⟩
  · exact .inl h
  · refine .inr ⟨a,vs,e,fun z=>?_,g.hh a _ n ha,hx.mono g.ff⟩
    rcases g.mem z with q | q
    · exact n q
    · rw [q] at ha; cases ha
/-- slots; xi: the exception that an except suite handles, and its dict; cl: what is known of a function that stands in a slot -/
structure XI where
  ex:Option (Addr × Option Addr × Str)
  cl:V → Th → List Addr → Hp → Prop
  mono:∀ {v th As F As' F'},Same F F' → (∃ l,As' = As ++ l) → cl v th As F → cl v th As' F'
abbrev XI.no:XI:=⟨none,fun _ _ _ _=>False,fun _ _ h=>h⟩
theorem Grow.more {As As':List Addr} {F F' H H':Hp} (g:Grow As F H As' F' H'):∃ l,As' = As ++ l:=by
  rcases g.ss with q | ⟨l,q,_⟩
  · exact ⟨[],by rw [q]; simp⟩
  · exact ⟨l,q⟩
def SlOk (K:PySem.W.Frag) (xi:XI) (As:List Addr) (F H:Hp) (o:Option (Option V)):Sl → Prop
  | .un=>True
  | .d x=>∃ v,o = some (some v) ∧ Dp K F v x
  | .l xs=>∃ v,o = some (some v) ∧ OwnL K As F H v xs
  | .s=>∃ d,o = some (some (.ref d)) ∧ sd As = some d
  | .e c fs=>∃ a d,xi.ex = some (a,d,c) ∧ o = some (some (.ref a)) ∧ ExAt K As F H d fs
  | .a k=>∃ d,o = some (some (.ref d)) ∧ sa As k = some d
  | .c th=>∃ v,o = some (some v) ∧ xi.cl v th As F
theorem SlOk.mono {K:PySem.W.Frag} {xi:XI} {As As':List Addr} {F H F' H':Hp} {o:Option (Option V)} {s:Sl} (g:Grow As F H As' F' H') (h:SlOk K xi As F H o s):SlOk K xi As' F' H' o s:=by
  cases s with
  | un=>trivial
  | d x=>obtain ⟨v,e,h⟩:=h; exact ⟨v,e,Dp.mono g.ff _ _ h⟩
  | l xs=>obtain ⟨v,e,h⟩:=h; exact ⟨v,e,OwnL.mono g h⟩
  | s =>
    obtain ⟨d,e,h⟩:=h
    exact ⟨d,e,g.sd h⟩
  | a k =>
    obtain ⟨d,e,h⟩:=h
    exact ⟨d,e,g.sa h⟩
  | c th =>
    obtain ⟨v,e,h⟩:=h
    exact ⟨v,e,xi.mono g.ff g.more h⟩
  | e c fs=>obtain ⟨a,d,e1,e2,h⟩:=h; exact ⟨a,d,e1,e2,h.mono g⟩
structure Rel (K:PySem.W.Frag) (xi:XI) (As:List Addr) (F:Hp) (G:Gm) (t:Option DS) (σ:Sg) (H:Hp):Prop where
  sub:Same F H
  st:StF As t F H
  len:G.length = σ.length
  slot:∀ (i:Nat) (s:Sl),G[i]? = some s → SlOk K xi As F H σ[i]? s
  inj:∀ (i j:Nat) xs ys v,i ≠ j → G[i]? = some (.l xs) → G[j]? = some (.l ys) → σ[i]? = some (some v) → σ[j]? = some (some v) → False
theorem Rel.mono {K:PySem.W.Frag} {xi:XI} {As As':List Addr} {F H F' H':Hp} {G:Gm} {t t':Option DS} {σ:Sg} (R:Rel K xi As F G t σ H) (g:Grow As F H As' F' H') (s:StF As' t' F' H'):Rel K xi As' F' G t' σ H':=
  ⟨g.fh,s,R.len,fun i s e=>(R.slot i s e).mono g,R.inj⟩
def Fresh (H:Hp) (v:V):Rv → Prop
  | .l _=>∃ p,v = .ref p ∧ H p = none
  | _=>True
structure Pm where
  K:PySem.W.Frag
  mg:Str → Option Value
  xi:XI
  W:WX
/-- an exception's wish -/
def PostX (P:Pm) (As:List Addr) (F H:Hp) (σ:Sg) (c:Str) (fs:List (Str × D)) (t:Option DS):Prop:=
  ∀ As' F' H' C d,P.mg c = some (.ref C) → Grow As F H As' F' H' → StF As' t F' H' → ExAt P.K As' F' H' d fs → P.W (.ref C) d σ H'
def PostE (P:Pm) (As:List Addr) (F H:Hp) (σ:Sg) (Q:VK):Rs Rv → Prop
  | .ok r t=>∀ As' F' H' v,Grow As F H As' F' H' → StF As' t F' H' → VOk P.K As' F' H' v r → Fresh H v r → Q v H'
  | .ex c fs t=>PostX P As F H σ c fs t
  | .stuck=>False
def PostA (P:Pm) (As:List Addr) (F H:Hp) (σ:Sg) (Q:List V → Hp → Prop):Rs (List Rv) → Prop
  | .ok rs t=>∀ As' F' H' vs,Grow As F H As' F' H' → StF As' t F' H' → Paired (VOk P.K As' F' H') vs rs → Q vs H'
  | .ex c fs t=>PostX P As F H σ c fs t
  | .stuck=>False
def PostB (P:Pm) (As:List Addr) (F H:Hp) (σ:Sg) (Q:Bool → Hp → Prop):Rs Bool → Prop
  | .ok b t=>∀ As' F' H',Grow As F H As' F' H' → StF As' t F' H' → Q b H'
  | .ex c fs t=>PostX P As F H σ c fs t
  | .stuck=>False
theorem PostX.re {P:Pm} {As As1:List Addr} {F F1 H H1:Hp} {σ:Sg} {c:Str} {fs:List (Str × D)} {t:Option DS} (g:Grow As F H As1 F1 H1) (h:PostX P As F H σ c fs t):PostX P As1 F1 H1 σ c fs t:=
  fun As' F' H' C d e g' s x=>h As' F' H' C d e (g.trans g') s x
theorem Grow.nw {As As1:List Addr} {F F1 H H1:Hp} (g:Grow As F H As1 F1 H1) {p:Addr} (h:H1 p = none):H p = none:=by
  cases z:H p with
  | none=>rfl
  | some o=>exact absurd h (g.dd p (by rw [z]; simp))
theorem PostE.re {P:Pm} {As As1:List Addr} {F F1 H H1:Hp} {σ:Sg} {Q:VK} {r:Rs Rv} (g:Grow As F H As1 F1 H1) (h:PostE P As F H σ Q r):PostE P As1 F1 H1 σ Q r:=by
  cases r with
  | ok r t =>
    refine fun As' F' H' v g' s x f=>h As' F' H' v (g.trans g') s x ?_
    cases r with
    | l xs=>obtain ⟨p,e,n⟩:=f; exact ⟨p,e,g.nw n⟩
    | d _=>trivial
    | b _=>trivial
    | s=>trivial
    | a _=>trivial
  | ex c fs t=>exact PostX.re g h
  | stuck=>exact h
theorem PostA.re {P:Pm} {As As1:List Addr} {F F1 H H1:Hp} {σ:Sg} {Q:List V → Hp → Prop} {r:Rs (List Rv)} (g:Grow As F H As1 F1 H1) (h:PostA P As F H σ Q r):PostA P As1 F1 H1 σ Q r:=by
  cases r with
  | ok r t=>exact fun As' F' H' v g' s x=>h As' F' H' v (g.trans g') s x
  | ex c fs t=>exact PostX.re g h
  | stuck=>exact h
theorem PostB.re {P:Pm} {As As1:List Addr} {F F1 H H1:Hp} {σ:Sg} {Q:Bool → Hp → Prop} {r:Rs Bool} (g:Grow As F H As1 F1 H1) (h:PostB P As F H σ Q r):PostB P As1 F1 H1 σ Q r:=by
  cases r with
  | ok r t=>exact fun As' F' H' g' s=>h As' F' H' (g.trans g') s
  | ex c fs t=>exact PostX.re g h
  | stuck=>exact h
/-- the readings -/
def teM (P:Pm) (m:EM):TE:=fun σ H Q=>∃ As F G t,Rel P.K P.xi As F G t σ H ∧ PostE P As F H σ Q (m G t)
def taM (P:Pm) (m:AM):TA:=fun σ H Q=>∃ As F G t,Rel P.K P.xi As F G t σ H ∧ PostA P As F H σ Q (m G t)
def ttM (P:Pm) (m:BM):TT:=fun σ H Q=>∃ As F G t,Rel P.K P.xi As F G t σ H ∧ PostB P As F H σ Q (m G t)
theorem _root_.L2.PE.imp {X:Cx} {e:Expr} {t t':TE} (h:PE X e t) (hi:∀ σ H Q,t' σ H Q → t σ H Q):PE X e t':=⟨fun pins s σ H Q I q=>h.run pins s σ H Q I (hi _ _ _ q)⟩
theorem _root_.L2.PT.imp {X:Cx} {e:Expr} {t t':TT} (h:PT X e t) (hi:∀ σ H Q,t' σ H Q → t σ H Q):PT X e t':=⟨fun pins s σ H Q I q=>h.run pins s σ H Q I (hi _ _ _ q)⟩
theorem _root_.L2.PW.imp {X:Cx} {e:Expr} {t t':TT} (h:PW X e t) (hi:∀ σ H Q,t' σ H Q → t σ H Q):PW X e t':=⟨fun wh pins s σ H Q I q=>h.run wh pins s σ H Q I (hi _ _ _ q)⟩
theorem _root_.L2.PA.imp {X:Cx} {e:List Expr} {t t':TA} (h:PA X e t) (hi:∀ σ H Q,t' σ H Q → t σ H Q):PA X e t':=⟨fun p pins s σ H Q I q=>h.run p pins s σ H Q I (hi _ _ _ q)⟩
theorem _root_.L2.PS.imp {X:Cx} {e:Stmt} {t t':TS} (h:PS X e t) (hi:∀ D σ H,t' D σ H → t D σ H):PS X e t':=⟨fun pins s σ H D I q=>h.run pins s σ H D I (hi _ _ _ q)⟩
theorem _root_.L2.PSs.imp {X:Cx} {e:List Stmt} {t t':TS} (h:PSs X e t) (hi:∀ D σ H,t' D σ H → t D σ H):PSs X e t':=⟨fun pins s σ H D I q=>h.run pins s σ H D I (hi _ _ _ q)⟩
section
variable {P:Pm} {As:List Addr} {F H:Hp} {G:Gm} {t:Option DS} {σ:Sg}
/-- the sorts of ends -/
class Ends' (β:Type) where
  K:Type
  post:Pm → List Addr → Hp → Hp → Sg → K → Rs β → Prop
  re:∀ {P As As1 F F1 H H1 σ Q} {r:Rs β},Grow As F H As1 F1 H1 → post P As F H σ Q r → post P As1 F1 H1 σ Q r
  ex:∀ {P As F H σ Q c fs t},post P As F H σ Q (.ex c fs t) → PostX P As F H σ c fs t
  st:∀ {P As F H σ Q},post P As F H σ Q .stuck → False
instance:Ends' Rv:=⟨VK,PostE,PostE.re,fun h=>h,fun h=>h⟩
instance:Ends' (List Rv):=⟨List V → Hp → Prop,PostA,PostA.re,fun h=>h,fun h=>h⟩
instance:Ends' Bool:=⟨Bool → Hp → Prop,PostB,PostB.re,fun h=>h,fun h=>h⟩
theorem bindE {β:Type} [E:Ends' β] {m:Rs Rv} {f:Rv → Option DS → Rs β} {Q:E.K} {Q1:VK} (R:Rel P.K P.xi As F G t σ H) (h:E.post P As F H σ Q (m.bind f))
    (h2:∀ As1 F1 H1 v1 r1 t1,m = .ok r1 t1 → Grow As F H As1 F1 H1 → Rel P.K P.xi As1 F1 G t1 σ H1 → VOk P.K As1 F1 H1 v1 r1 → E.post P As1 F1 H1 σ Q (f r1 t1) → Q1 v1 H1):PostE P As F H σ Q1 m:=by
  cases m with
  | ok r1 t1=>exact fun As1 F1 H1 v1 g s x _=>h2 As1 F1 H1 v1 r1 t1 rfl g (R.mono g s) x (E.re g h)
  | ex c fs t=>exact E.ex h
  | stuck=>exact E.st h
theorem bindA {β:Type} [E:Ends' β] {m:Rs (List Rv)} {f:List Rv → Option DS → Rs β} {Q:E.K} {Q1:List V → Hp → Prop} (R:Rel P.K P.xi As F G t σ H) (h:E.post P As F H σ Q (m.bind f))
    (h2:∀ As1 F1 H1 v1 r1 t1,m = .ok r1 t1 → Grow As F H As1 F1 H1 → Rel P.K P.xi As1 F1 G t1 σ H1 → Paired (VOk P.K As1 F1 H1) v1 r1 → E.post P As1 F1 H1 σ Q (f r1 t1) → Q1 v1 H1):PostA P As F H σ Q1 m:=by
  cases m with
  | ok r1 t1=>exact fun As1 F1 H1 v1 g s x=>h2 As1 F1 H1 v1 r1 t1 rfl g (R.mono g s) x (E.re g h)
  | ex c fs t=>exact E.ex h
  | stuck=>exact E.st h
theorem bindB {β:Type} [E:Ends' β] {m:Rs Bool} {f:Bool → Option DS → Rs β} {Q:E.K} {Q1:Bool → Hp → Prop} (R:Rel P.K P.xi As F G t σ H) (h:E.post P As F H σ Q (m.bind f))
    (h2:∀ As1 F1 H1 r1 t1,m = .ok r1 t1 → Grow As F H As1 F1 H1 → Rel P.K P.xi As1 F1 G t1 σ H1 → E.post P As1 F1 H1 σ Q (f r1 t1) → Q1 r1 H1):PostB P As F H σ Q1 m:=by
  cases m with
  | ok r1 t1=>exact fun As1 F1 H1 g s=>h2 As1 F1 H1 r1 t1 rfl g (R.mono g s) (E.re g h)
  | ex c fs t=>exact E.ex h
  | stuck=>exact E.st h
end
theorem bindEE {P:Pm} {As:List Addr} {F H:Hp} {G:Gm} {t:Option DS} {σ:Sg} {m:Rs (Rv)} {f:Rv → Option DS → Rs (Rv)} {Q:VK} {Q1:VK} (R:Rel P.K P.xi As F G t σ H) (h:PostE P As F H σ Q (m.bind f))
    (h2:∀ As1 F1 H1 v1 r1 t1,m = .ok r1 t1 → Grow As F H As1 F1 H1 → Rel P.K P.xi As1 F1 G t1 σ H1 → VOk P.K As1 F1 H1 v1 r1 → PostE P As1 F1 H1 σ Q (f r1 t1) → Q1 v1 H1):PostE P As F H σ Q1 m:=
  bindE (β:=Rv) (Q:=Q) R h h2
theorem bindEA {P:Pm} {As:List Addr} {F H:Hp} {G:Gm} {t:Option DS} {σ:Sg} {m:Rs (Rv)} {f:Rv → Option DS → Rs (List Rv)} {Q:(List V → Hp → Prop)} {Q1:VK} (R:Rel P.K P.xi As F G t σ H) (h:PostA P As F H σ Q (m.bind f))
    (h2:∀ As1 F1 H1 v1 r1 t1,m = .ok r1 t1 → Grow As F H As1 F1 H1 → Rel P.K P.xi As1 F1 G t1 σ H1 → VOk P.K As1 F1 H1 v1 r1 → PostA P As1 F1 H1 σ Q (f r1 t1) → Q1 v1 H1):PostE P As F H σ Q1 m:=
  bindE (β:=List Rv) (Q:=Q) R h h2
theorem bindEB {P:Pm} {As:List Addr} {F H:Hp} {G:Gm} {t:Option DS} {σ:Sg} {m:Rs (Rv)} {f:Rv → Option DS → Rs (Bool)} {Q:(Bool → Hp → Prop)} {Q1:VK} (R:Rel P.K P.xi As F G t σ H) (h:PostB P As F H σ Q (m.bind f))
    (h2:∀ As1 F1 H1 v1 r1 t1,m = .ok r1 t1 → Grow As F H As1 F1 H1 → Rel P.K P.xi As1 F1 G t1 σ H1 → VOk P.K As1 F1 H1 v1 r1 → PostB P As1 F1 H1 σ Q (f r1 t1) → Q1 v1 H1):PostE P As F H σ Q1 m:=
  bindE (β:=Bool) (Q:=Q) R h h2
theorem bindAE {P:Pm} {As:List Addr} {F H:Hp} {G:Gm} {t:Option DS} {σ:Sg} {m:Rs (List Rv)} {f:List Rv → Option DS → Rs (Rv)} {Q:VK} {Q1:(List V → Hp → Prop)} (R:Rel P.K P.xi As F G t σ H) (h:PostE P As F H σ Q (m.bind f))
    (h2:∀ As1 F1 H1 v1 r1 t1,m = .ok r1 t1 → Grow As F H As1 F1 H1 → Rel P.K P.xi As1 F1 G t1 σ H1 → Paired (VOk P.K As1 F1 H1) v1 r1 → PostE P As1 F1 H1 σ Q (f r1 t1) → Q1 v1 H1):PostA P As F H σ Q1 m:=
  bindA (β:=Rv) (Q:=Q) R h h2
theorem bindAA {P:Pm} {As:List Addr} {F H:Hp} {G:Gm} {t:Option DS} {σ:Sg} {m:Rs (List Rv)} {f:List Rv → Option DS → Rs (List Rv)} {Q:(List V → Hp → Prop)} {Q1:(List V → Hp → Prop)} (R:Rel P.K P.xi As F G t σ H) (h:PostA P As F H σ Q (m.bind f))
    (h2:∀ As1 F1 H1 v1 r1 t1,m = .ok r1 t1 → Grow As F H As1 F1 H1 → Rel P.K P.xi As1 F1 G t1 σ H1 → Paired (VOk P.K As1 F1 H1) v1 r1 → PostA P As1 F1 H1 σ Q (f r1 t1) → Q1 v1 H1):PostA P As F H σ Q1 m:=
  bindA (β:=List Rv) (Q:=Q) R h h2
theorem bindBE {P:Pm} {As:List Addr} {F H:Hp} {G:Gm} {t:Option DS} {σ:Sg} {m:Rs (Bool)} {f:Bool → Option DS → Rs (Rv)} {Q:VK} {Q1:(Bool → Hp → Prop)} (R:Rel P.K P.xi As F G t σ H) (h:PostE P As F H σ Q (m.bind f))
    (h2:∀ As1 F1 H1 r1 t1,m = .ok r1 t1 → Grow As F H As1 F1 H1 → Rel P.K P.xi As1 F1 G t1 σ H1 → PostE P As1 F1 H1 σ Q (f r1 t1) → Q1 r1 H1):PostB P As F H σ Q1 m:=
  bindB (β:=Rv) (Q:=Q) R h h2
theorem bindBB {P:Pm} {As:List Addr} {F H:Hp} {G:Gm} {t:Option DS} {σ:Sg} {m:Rs (Bool)} {f:Bool → Option DS → Rs (Bool)} {Q:(Bool → Hp → Prop)} {Q1:(Bool → Hp → Prop)} (R:Rel P.K P.xi As F G t σ H) (h:PostB P As F H σ Q (m.bind f))
    (h2:∀ As1 F1 H1 r1 t1,m = .ok r1 t1 → Grow As F H As1 F1 H1 → Rel P.K P.xi As1 F1 G t1 σ H1 → PostB P As1 F1 H1 σ Q (f r1 t1) → Q1 r1 H1):PostB P As F H σ Q1 m:=
  bindB (β:=Bool) (Q:=Q) R h h2
/-- a new list is given away -/
theorem freeze {K:PySem.W.Frag} {As As':List Addr} {F H F' H':Hp} {v:V} {xs:List D} {t:Option DS} (g:Grow As F H As' F' H') (s:StF As' t F' H') (h:OwnL K As' F' H' v xs) (f:∃ p,v = .ref p ∧ H p = none) :
    ∃ F2,Grow As F H As' F2 H' ∧ StF As' t F2 H' ∧ Dp K F2 v (.list xs) ∧ Same F' F2:=by
  obtain ⟨p,vs,e,n,fp,hp,ha⟩:=h
  obtain ⟨p',e',np⟩:=f
  subst e
  cases e'
  have k:Same F' (upd F' p (.lst vs)):=fun b o e=>by rw [upd_ne (ne_of_none e fp)]; exact e
  refine ⟨upd F' p (.lst vs),⟨g.ff.trans k,fun b o e=>?_,g.hh,fun q e z=>?_,g.dd,g.ss,g.ll⟩,⟨s.ok.mono (KM.of k),fun q hq=>?_,s.tn.upd trivial⟩,.lst (SqL.of upd_same) (DpAll.mono k _ _ ha),k⟩
  · by_cases hb:b = p
    · subst hb; rw [upd_same] at e; cases e; exact hp
    · rw [upd_ne hb] at e; exact g.fh b o e
  · rw [upd_ne (fun z'=>by subst z'; exact z np)]
    exact g.nn q e z
  · rw [upd_ne (fun z'=>by subst z'; exact n hq)]
    exact s.sf q hq
theorem PostE.fz {P:Pm} {As:List Addr} {F H:Hp} {σ:Sg} {Q:VK} {r:Rs Rv} (h:PostE P As F H σ Q r.fz):PostE P As F H σ Q r:=by
  cases r with
  | ok r t =>
    cases r with
    | l xs =>
      intro As' F' H' v g s x f
      obtain ⟨F2,g2,s2,d2,_⟩:=freeze g s x f
      exact h As' F2 H' v g2 s2 d2 trivial
    | d x=>exact h
    | b xs=>exact h
    | s=>exact h
    | a k=>exact h
  | ex c fs t=>exact h
  | stuck=>exact h
theorem teM_fz {P:Pm} {m:EM} {σ:Sg} {H:Hp} {Q:VK} (h:teM P (fun G t=>(m G t).fz) σ H Q):teM P m σ H Q:=by
  obtain ⟨As,F,G,t,R,p⟩:=h
  exact ⟨As,F,G,t,R,p.fz⟩
/-- the expression e computes m -/
def SE (X:Cx) (P:Pm) (e:Expr) (m:EM):Prop:=PE X e (teM P m)
def SA (X:Cx) (P:Pm) (e:List Expr) (m:AM):Prop:=PA X e (taM P m)
def SB (X:Cx) (P:Pm) (e:Expr) (m:BM):Prop:=PT X e (ttM P m)
theorem SE.fz {X:Cx} {P:Pm} {e:Expr} {m:EM} (h:SE X P e m):SE X P e (fun G t=>(m G t).fz):=h.imp fun _ _ _ q=>teM_fz q
end DL
end
section
namespace DL
open PySem PySem.Spec PyProof.Rows L2
variable [Tbs]
theorem alloc {As:List Addr} {t:Option DS} {F H:Hp} {p:Addr} {o:HO} (s:StF As t F H) (h:Same F H) (n:H p = none) :
    (Grow As F H As F (upd H p o) ∧ StF As t F (upd H p o)) ∧ (TupOk o → Grow As F H As (upd F p o) (upd H p o) ∧ StF As t (upd F p o) (upd H p o)):=by
  have fn:F p = none:=h.free n
  have k:Same H (upd H p o):=fun b u e=>by rw [upd_ne (ne_of_none e n)]; exact e
  have kf:Same F (upd F p o):=fun b u e=>by rw [upd_ne (ne_of_none e fn)]; exact e
  have na:∀ q ∈ As,q ≠ p:=fun q hq e=>s.ok.there q hq (by rw [e]; exact n)
  have st:StOk F As t (upd H p o):=s.ok.upd (fun z=>na p z rfl) (none_code n)
  have dd:∀ q,H q ≠ none → upd H p o q ≠ none:=fun q z=>by
    by_cases e:q = p
    · rw [e,upd_same]; simp
    · rw [upd_ne e]; exact z
  refine ⟨⟨⟨Same.refl _,h.trans k,fun q u _ e=>k q u e,fun q e _=>e,dd,.inl rfl,fun q x u e=>k q _ e⟩,st,s.sf,s.tn⟩,fun ho=>⟨⟨kf,fun b u e=>?_,fun q u _ e=>k q u e,fun q e z=>?_,dd,.inl rfl,fun q x u e=>k q _ e⟩,st.mono (KM.of kf),fun q hq=>?_,s.tn.upd ho⟩⟩
  · by_cases hb:b = p
    · rw [hb,upd_same] at e ⊢; exact e
    · rw [upd_ne hb] at e ⊢; exact h b u e
  · rw [upd_ne (fun e'=>z (by rw [e']; exact n))]; exact e
  · rw [upd_ne (na q hq)]; exact s.sf q hq
/-- a new tuple, known to its object -/
theorem alloc_tup {As:List Addr} {t:Option DS} {F H:Hp} {p:Addr} {o:Obj} {vs:List V} (s:StF As t F H) (h:Same F H) (n:H p = none) (ho:o.dict = none) :
    Grow As F H As (upd F p (.frz o (.tup vs))) (upd H p (.frz o (.tup vs))) ∧ StF As t (upd F p (.frz o (.tup vs))) (upd H p (.frz o (.tup vs))):=(alloc s h n).2 ho
omit [Tbs] in
theorem sqN {K:PySem.W.Frag} {F:Hp} {p:Addr} {o:Obj} {vs:List V}:SqT K (upd F p (.frz o (.tup vs))) p vs:=Or.inl (Or.inr ⟨o,upd_same⟩)
section
variable {X:Cx} {pos:Pos}
/-- what is promised of a new tuple -/
def NewT (H:Hp) (xs:List V) (Q:VK):Prop:=∀ (p:Addr) (o:Obj),H p = none → o.dict = none → Q (.ref p) (upd H p (.frz o (.tup xs)))
def tTupN (t:TA):TE:=fun σ H Q=>t σ H fun xs H1=>xs.length ≤ sizeLine ∧ NewT H1 xs Q
omit [Tbs] in
theorem newT {pins:List (Addr × Obj)} {σ:Sg} {H:Hp} {s:Shared} {xs:List V} {us:List Value} {Q:VK} {h':Heap} {t':Nat} (I:L2.Inv X pins σ H { s with heap:=h',toks:=t' }) (z:xs.length ≤ sizeLine) (r:Vals xs us) (q:NewT H xs Q) :
    EP X pins σ Q (.ref h'.objs.size) { s with heap:=h'.push { cls:=.type "tuple",data:=.seq us.toArray },toks:=t' }:=by
  have hf:H h'.objs.size = none:=I.hok.fresh (Nat.le_refl _)
  have hg:(h'.push { cls:=.type "tuple",data:=.seq us.toArray }).get? h'.objs.size = some { cls:=.type "tuple",data:=.seq us.toArray }:=Heap.get?_push_size _ rfl
  refine ⟨.ref h'.objs.size,upd H h'.objs.size (.frz { cls:=.type "tuple",data:=.seq us.toArray } (.tup xs)),I.laid (t':=t') (fun b u e=>Heap.get?_push_of_some _ e) (Nat.le_refl _) ?_,rfl,q _ _ hf rfl⟩
  exact ⟨hg,z,us,r,⟨_,hg,rfl,_,rfl⟩⟩
omit [Tbs] in
theorem pe_tupN {es:List Expr} {t:TA} {x1} (h:PA X es t):PE X (.Tuple es x1 pos) (tTupN t):=by
  refine ⟨fun pins s σ H Q I hq=>?_⟩
  refine wpAny_Tuple_spliced (thn (h.run pos pins s σ H _ I hq) fun us s1 ⟨xs,H1,I1,r,z,q⟩=>⟨by rw [← r.length]; exact z,?_⟩)
  exact newT (s:=s1) (h':=s1.heap) (t':=s1.toks) I1 z r q
end
def mVar (i:Nat):EM:=fun G t=>match G[i]? with
  | some (.d x)=>.ok (.d x) t
  | some (.l xs)=>.ok (.b xs) t
  | some .s=>.ok .s t
  | some (.a k)=>.ok (.a k) t
  | _=>.stuck
def mC (x:D):EM:=fun _ t=>.ok (.d x) t
section
variable {X:Cx} {P:Pm}
theorem se_var {i:Nat} {x:Str} {pos:Pos} (hN:X.N[i]? = some x) (hv:Vis X.env.scope x) (hd:(x == ("__debug__" : Str)) = false) (hcd:(x == ("__classdict__" : Str)) = false):SE X P (.Name x pos) (mVar i):=by
  refine L2.PE.imp (pe_var hN hv hd hcd) fun σ H Q ⟨As,F,G,t,R,p⟩=>?_
  unfold mVar at p
  split at p
  · rename_i x e
    obtain ⟨v,e1,h⟩:=R.slot i _ e
    exact ⟨v,e1,p As F H v (.refl R.sub) R.st h trivial⟩
  · rename_i xs e
    obtain ⟨v,e1,h⟩:=R.slot i _ e
    exact ⟨v,e1,p As F H v (.refl R.sub) R.st h trivial⟩
  · rename_i e
    obtain ⟨d,e1,h⟩:=R.slot i _ e
    exact ⟨.ref d,e1,p As F H _ (.refl R.sub) R.st ⟨d,rfl,h⟩ trivial⟩
  · rename_i k e
    obtain ⟨d,e1,h⟩:=R.slot i _ e
    exact ⟨.ref d,e1,p As F H _ (.refl R.sub) R.st ⟨d,rfl,h⟩ trivial⟩
  · exact p.elim
theorem se_c {e:Expr} {v:V} {x:D} (h:PE X e (tC v)) (hd:∀ F,Dp P.K F v x):SE X P e (mC x):=
  h.imp fun σ H Q ⟨As,F,G,t,R,p⟩=>p As F H v (.refl R.sub) R.st (hd F) trivial
theorem se_int {i:Int} {j pos}:SE X P (.Constant (.int i) j pos) (mC (.int i)):=se_c pe_int fun _=>.int i
theorem se_bool {b:Bool} {j pos}:SE X P (.Constant (.bool b) j pos) (mC (.bool b)):=se_c pe_bl fun _=>.bl b
theorem se_none {j pos}:SE X P (.Constant .none j pos) (mC .none):=se_c pe_non fun _=>.non
theorem se_str {x:Str} {j pos}:SE X P (.Constant (.str x) j pos) (mC (.str x)):=se_c pe_str fun _=>.str x
theorem se_glob {x:Str} {v:V} {u:Value} {d:D} {pos:Pos} (hg:Gl X x) (hm:X.mg x = some u) (r:RelV v u) (hv:∀ F,Dp P.K F v d) (hd:(x == ("__debug__" : Str)) = false):SE X P (.Name x pos) (mC d):=se_c (pe_glob hg hm r hd) hv
end
def mBin (f:Rv → Rv → Option Rv) (a b:EM):EM:=fun G t=>(a G t).fz.bind fun x t=>(b G t).fz.bind fun y t=>.of (f x y) t
def OpD (K:PySem.W.Frag) (r:R2) (f:Rv → Rv → Option Rv):Prop:=∀ {x y z:Rv} {v u:V} {As:List Addr} {F H:Hp} {t:Option DS} {Q:VK},f x y = some z → StF As t F H → Same F H → VOk K As F H v x → VOk K As F H u y →
  (∀ F' H' w,Grow As F H As F' H' → StF As t F' H' → VOk K As F' H' w z → Fresh H w z → Q w H') → r v u H Q
theorem OpD.or {K:PySem.W.Frag} {r r':R2} {f f':Rv → Rv → Option Rv} (h:OpD K r f) (h':OpD K r' f'):OpD K (fun x y H Q=>r x y H Q ∨ r' x y H Q) (fun x y=>(f x y).or (f' x y)):=by
  intro x y z v u As F H t Q e s k vx vy q
  cases e1:f x y with
  | some z' =>
    simp only [e1,Option.some_or,Option.some.injEq] at e
    subst e
    exact .inl (h e1 s k vx vy q)
  | none =>
    simp only [e1,Option.none_or] at e
    exact .inr (h' e s k vx vy q)
theorem OpR.or {X:Cx} {f:Value → Value → Sem Value} {r r':R2} (h:OpR X f r) (h':OpR X f r'):OpR X f (fun x y H Q=>r x y H Q ∨ r' x y H Q):=by
  intro pins s σ H x y v u Q I rx ry q
  rcases q with q | q
  · exact h pins s σ H x y v u Q I rx ry q
  · exact h' pins s σ H x y v u Q I rx ry q
section
variable {X:Cx} {P:Pm} {a b:Expr} {ma mb:EM} {pos:Pos}
/-- two in a row, then an operation -/
theorem two {r:R2} {f:Rv → Rv → Option Rv} (hf:OpD P.K r f) {σ:Sg} {H:Hp} {Q:VK} (h:teM P (mBin f ma mb) σ H Q):tOp r (teM P fun G t=>(ma G t).fz) (teM P fun G t=>(mb G t).fz) σ H Q:=by
  obtain ⟨As,F,G,t,R,p⟩:=h
  refine ⟨As,F,G,t,R,bindEE R p fun As1 F1 H1 v1 r1 t1 _ g1 R1 x1 p1=>⟨As1,F1,G,t1,R1,bindEE R1 p1 fun As2 F2 H2 v2 r2 t2 _ g2 R2 x2 p2=>?_⟩⟩
  cases e:f r1 r2 with
  | none=>rw [e] at p2; exact p2.elim
  | some z =>
    rw [e] at p2
    exact hf e R2.st R2.sub (x1.mono g2) x2 fun F' H' w g s x f=>p2 As2 F' H' w g s x f
theorem se_bin {op:Operator} {r:R2} {f:Rv → Rv → Option Rv} (ho:OpR X (binaryOp op) r) (hf:OpD P.K r f) (ha:SE X P a ma) (hb:SE X P b mb):SE X P (.BinOp a op b pos) (mBin f ma mb):=
  L2.PE.imp (pe_op ho ha.fz hb.fz) fun σ H Q h=>two hf h
theorem se_cmp {op:CmpOp} {r:R2} {f:Rv → Rv → Option Rv} (ho:OpR X (compareOp op) r) (hf:OpD P.K r f) (ha:SE X P a ma) (hb:SE X P b mb) (hm:behindInMarks op b = false):SE X P (.Compare a [op] [b] pos) (mBin f ma mb):=
  L2.PE.imp (pe_cmpR ho ha.fz hb.fz hm) fun σ H Q h=>two hf h
end
/-- ints -/
def fI (C:Int → Int → Bool) (g:Int → Int → D):Rv → Rv → Option Rv
  | .d (.int i),.d (.int j)=>if C i j then some (.d (g i j)) else none
  | _,_=>none
theorem opd_I {K:PySem.W.Frag} {C:Int → Int → Bool} {C':Int → Int → Prop} {g:Int → Int → D} {gv:Int → Int → V} (hC:∀ i j,C i j = true → C' i j) (hg:∀ F i j,Dp K F (gv i j) (g i j)):OpD K (rI C' gv) (fI C g):=by
  intro x y z v u As F H t Q e s k vx vy q
  unfold fI at e
  split at e
  · rename_i i j
    split at e
    · rename_i hc
      cases e
      cases vx
      cases vy
      exact ⟨i,j,rfl,rfl,hC i j hc,q F H _ (.refl k) s (hg F i j) trivial⟩
    · cases e
  · cases e
theorem opd_I0 {K:PySem.W.Frag} {g:Int → Int → D} {gv:Int → Int → V} (hg:∀ F i j,Dp K F (gv i j) (g i j)):OpD K (rI0 gv) (fI (fun _ _=>true) g):=by
  intro x y z v u As F H t Q e s k vx vy q
  unfold fI at e
  split at e
  · rename_i i j
    cases e
    cases vx
    cases vy
    exact ⟨i,j,rfl,rfl,q F H _ (.refl k) s (hg F i j) trivial⟩
  · cases e
/-- read as data -/
def Rv.toD:Rv → Option D
  | .d x=>some x
  | .l xs=>some (.list xs)
  | .b xs=>some (.list xs)
  | .s=>none
  | .a _=>none
theorem VOk.weak {K:PySem.W.Frag} {As:List Addr} {F H:Hp} {v:V} {r:Rv} {x:D} (k:Same F H) (h:VOk K As F H v r) (e:r.toD = some x):Dp K H v x:=by
  cases r with
  | d y=>cases e; exact Dp.mono k _ _ h
  | l xs =>
    cases e
    obtain ⟨p,vs,rfl,_,_,hp,ha⟩:=h
    exact .lst (SqL.of hp) (DpAll.mono k _ _ ha)
  | b xs =>
    cases e
    obtain ⟨p,vs,rfl,_,_,hp,ha⟩:=h
    exact .lst (SqL.of hp) (DpAll.mono k _ _ ha)
  | a _=>cases e
  | s=>cases e
/-- the items of a list -/
def Rv.items:Rv → Option (List D)
  | .d (.list xs)=>some xs
  | .l xs=>some xs
  | .b xs=>some xs
  | _=>none
theorem VOk.items {K:PySem.W.Frag} {As:List Addr} {F H:Hp} {v:V} {r:Rv} {xs:List D} (k:Same F H) (h:VOk K As F H v r) (e:r.items = some xs):∃ p vs,v = .ref p ∧ SqL K H p vs ∧ DpAll K F vs xs:=by
  cases r with
  | d y =>
    cases y with
    | list ys =>
      cases e
      cases h with
      | lst hs ha=>exact ⟨_,_,rfl,k.seq hs,ha⟩
    | _=>cases e
  | l ys =>
    cases e
    obtain ⟨p,vs,rfl,_,_,hp,ha⟩:=h
    exact ⟨p,vs,rfl,SqL.of hp,ha⟩
  | b ys =>
    cases e
    obtain ⟨p,vs,rfl,_,_,hp,ha⟩:=h
    exact ⟨p,vs,rfl,SqL.of hp,ha⟩
  | a _=>cases e
  | s=>cases e
def Rv.tup:Rv → Option (List D)
  | .d (.tuple xs)=>some xs
  | _=>none
theorem VOk.tup {K:PySem.W.Frag} {As:List Addr} {F H:Hp} {v:V} {r:Rv} {xs:List D} (h:VOk K As F H v r) (e:r.tup = some xs):∃ p vs,v = .ref p ∧ SqT K F p vs ∧ DpAll K F vs xs:=by
  cases r with
  | d y =>
    cases y with
    | tuple ys =>
      cases e
      cases h with
      | tup hs ha=>exact ⟨_,_,rfl,hs,ha⟩
    | _=>cases e
  | _=>cases e
end DL
end
section
namespace DL
open PySem PySem.Spec PyProof.Rows L2
variable [Tbs]
def fRead (g:D → D → Option D):Rv → Rv → Option Rv:=fun x y=>x.toD.bind fun a=>y.toD.bind fun b=>(g a b).map Rv.d
theorem fRead_some {g:D → D → Option D} {x y z:Rv} (h:fRead g x y = some z):∃ a b d,x.toD = some a ∧ y.toD = some b ∧ g a b = some d ∧ z = .d d:=by
  unfold fRead at h
  cases e1:x.toD with
  | none=>rw [e1] at h; cases h
  | some a =>
    cases e2:y.toD with
    | none=>rw [e1,e2] at h; cases h
    | some b =>
      rw [e1,e2] at h
      cases e3:g a b with
      | none=>simp [e3] at h
      | some d =>
        simp [e3] at h
        exact ⟨a,b,d,rfl,rfl,e3,h.symm⟩
theorem opd_bool {K:PySem.W.Frag} {r:R2} {g:D → D → Option Bool} (hr:∀ a b c w u H (Q:VK),g a b = some c → Dp K H w a → Dp K H u b → Q (.bl c) H → r w u H Q):OpD K r (fRead fun a b=>(g a b).map .bool):=by
  intro x y z v u As F H t Q e s k vx vy q
  obtain ⟨a,b,d,e1,e2,e3,rfl⟩:=fRead_some e
  cases e4:g a b with
  | none=>rw [e4] at e3; cases e3
  | some c =>
    rw [e4] at e3
    cases e3
    exact hr a b c v u H Q e4 (vx.weak k e1) (vy.weak k e2) (q F H _ (.refl k) s (.bl c) trivial)
section
variable {X:Cx}
/-- + -/
def rCatS (K:PySem.W.Frag):R2:=fun x y H Q=>∃ l b xs zs,x = .ref l ∧ y = .ref b ∧ SqL K H l xs ∧ SqL K H b zs ∧ xs.length + zs.length ≤ sizeLine ∧ ∀ p,H p = none → Q (.ref p) (upd H p (.lst (xs ++ zs)))
theorem op_catS:OpR X (binaryOp .Add) (rCatS X.K):=by
  intro pins s σ H x y v u Q I rx ry h
  obtain ⟨l,b,xs,zs,rfl,rfl,hH,hB,hz,q⟩:=h
  cases rx
  cases ry
  obtain ⟨vs,r,pl,hl⟩:=I.list hH
  obtain ⟨ws,r2,pl2,hl2⟩:=I.list hB
  obtain ⟨⟨cls,dd,data,sl⟩,ho,hc,n,hd⟩:=id pl.isList
  obtain ⟨⟨cls2,dd2,data2,sl2⟩,ho2,hc2,n2,hd2⟩:=id pl2.isList
  simp only at hc hd hc2 hd2
  subst hc hd hc2 hd2
  have e:vs.toArray ++ ws.toArray = (vs ++ ws).toArray:=by simp
  have e1:=r.length
  have e2:=r2.length
  refine concat_meets ⟨_,ho,rfl⟩ ⟨_,ho2,rfl⟩ noFill_list_add seq_list_add PySem.F.slot_list_add PySem.F.entry_list_add (PySem.F.args_list_add_2 _ _) (list_addW l b vs.toArray ws.toArray n n2 dd dd2 sl sl2 (by simp; omega)) ⟨ho,ho2,?_⟩
  rw [e]
  exact ⟨.ref _,_,I.lnew (t':=s.toks) (r.append r2) (by rw [List.length_append]; omega),rfl,q _ I.fresh⟩
def fCat:Rv → Rv → Option Rv:=fun x y=>x.items.bind fun xs=>y.items.bind fun ys=>if xs.length + ys.length ≤ 16777216 then some (.l (xs ++ ys)) else none
theorem opd_cat {K:PySem.W.Frag}:OpD K (rCatS K) fCat:=by
  intro x y z v u As F H t Q e s k vx vy q
  unfold fCat at e
  cases e1:x.items with
  | none=>simp [e1] at e
  | some xs =>
    cases e2:y.items with
    | none=>simp [e1,e2] at e
    | some ys =>
      simp only [e1,e2,Option.bind_some] at e
      split at e
      · rename_i hz
        cases e
        obtain ⟨p,vs,rfl,h1,a1⟩:=vx.items k e1
        obtain ⟨p2,ws,rfl,h2,a2⟩:=vy.items k e2
        refine ⟨p,p2,vs,ws,rfl,rfl,h1,h2,by rw [a1.length,a2.length,sizeLine_eq]; exact hz,fun a n=>?_⟩
        obtain ⟨⟨g,s'⟩,_⟩:=alloc (o:=.lst (vs ++ ws)) s k n
        exact q F _ _ g s' ⟨a,_,rfl,fun z=>s.ok.there a z n,k.free n,upd_same,a1.append a2⟩ ⟨a,rfl,n⟩
      · cases e
/-- t + u: a new tuple, or one of the two -/
def rCatN (K:PySem.W.Frag):R2:=fun x y H Q=>∃ a b xs ys,x = .ref a ∧ y = .ref b ∧ SqT K H a xs ∧ SqT K H b ys ∧ xs.length + ys.length ≤ sizeLine ∧
  (xs = [] → Q (.ref b) H) ∧ (xs ≠ [] → ys = [] → Q (.ref a) H) ∧ (xs ≠ [] → ys ≠ [] → NewT H (xs ++ ys) Q)
omit [Tbs] in
theorem op_catN {X:Cx}:OpR X (binaryOp .Add) (rCatN X.K):=by
  intro pins s σ H x y v u Q I rx ry h
  obtain ⟨a,b,xs,ys,rfl,rfl,ha,hb,hz,q0,q1,q2⟩:=h
  cases rx
  cases ry
  obtain ⟨its,r1,p1,_⟩:=I.tuple ha
  obtain ⟨its2,r2,p2,_⟩:=I.tuple hb
  by_cases hx:xs = []
  · subst hx
    cases r1
    exact cat_tup0 p1 p2 ⟨.ref b,H,I,rfl,q0 rfl⟩
  · refine HT.cat_tup p1 p2 (fun z=>hx (r1.nil_iff.mp z)) (fun z=>⟨.ref a,H,I,rfl,q1 hx (r2.nil_iff.mp z)⟩) (fun z=>?_) (by rw [← r1.length,← r2.length]; exact hz)
    exact newT (s:=s) (h':=s.heap) (t':=s.toks) I (by rw [List.length_append]; exact hz) (r1.append r2) (q2 hx (fun w=>z (r2.nil_iff.mpr w)))
def fCatT:Rv → Rv → Option Rv:=fun x y=>x.tup.bind fun xs=>y.tup.bind fun ys=>if xs.length + ys.length ≤ 16777216 then some (.d (.tuple (xs ++ ys))) else none
theorem opd_catT {K:PySem.W.Frag}:OpD K (rCatN K) fCatT:=by
  intro x y z v u As F H t Q e s k vx vy q
  unfold fCatT at e
  cases e1:x.tup with
  | none=>simp [e1] at e
  | some xs =>
    cases e2:y.tup with
    | none=>simp [e1,e2] at e
    | some ys =>
      simp only [e1,e2,Option.bind_some] at e
      split at e
      · rename_i hz
        cases e
        obtain ⟨p,vs,rfl,h1,a1⟩:=vx.tup e1
        obtain ⟨p2,ws,rfl,h2,a2⟩:=vy.tup e2
        refine ⟨p,p2,vs,ws,rfl,rfl,Same.seqT k h1,Same.seqT k h2,by rw [a1.length,a2.length,sizeLine_eq]; exact hz,fun z=>?_,fun _ z=>?_,fun _ _ a o n ho=>?_⟩
        · subst z
          have:xs = []:=by have:=a1.length; simpa using this.symm
          subst this
          exact q F H _ (.refl k) s (Dp.tup h2 a2) trivial
        · subst z
          have:ys = []:=by have:=a2.length; simpa using this.symm
          subst this
          rw [List.append_nil] at q
          exact q F H _ (.refl k) s (Dp.tup h1 a1) trivial
        · obtain ⟨g,s'⟩:=alloc_tup (vs:=vs ++ ws) s k n ho
          exact q _ _ _ g s' (Dp.tup sqN (DpAll.mono g.ff _ _ (a1.append a2))) trivial
      · cases e
def fCatStr:Rv → Rv → Option Rv
  | .d (.str x),.d (.str y)=>if x.length + y.length ≤ 16777216 then some (.d (.str (x ++ y))) else none
  | _,_=>none
theorem opd_catStr {K:PySem.W.Frag}:OpD K (fun x y H Q=>∃ i j,x = .str i ∧ y = .str j ∧ i.length + j.length ≤ sizeLine ∧ Q (.str (i ++ j)) H) fCatStr:=by
  intro x y z v u As F H t Q e s k vx vy q
  unfold fCatStr at e
  split at e
  · split at e
    · rename_i hz
      cases e
      cases vx
      cases vy
      exact ⟨_,_,rfl,rfl,by rw [sizeLine_eq]; exact hz,q F H _ (.refl k) s (.str _) trivial⟩
    · cases e
  · cases e
def fAdd:Rv → Rv → Option Rv:=fun x y=>(fI (fun _ _=>true) (fun i j=>.int (i + j)) x y).or ((fCat x y).or ((fCatT x y).or (fCatStr x y)))
def rAddAll (K:PySem.W.Frag):R2:=fun x y H Q=>rI0 (fun i j=>.int (i + j)) x y H Q ∨ (rCatS K x y H Q ∨ (rCatN K x y H Q ∨ ∃ i j,x = .str i ∧ y = .str j ∧ i.length + j.length ≤ sizeLine ∧ Q (.str (i ++ j)) H))
theorem op_addAll:OpR X (binaryOp .Add) (rAddAll X.K):=OpR.or op_add (OpR.or op_catS (OpR.or op_catN op_add_str))
theorem opd_addAll {K:PySem.W.Frag}:OpD K (rAddAll K) fAdd:=OpD.or (opd_I0 fun F i j=>.int _) (OpD.or opd_cat (OpD.or opd_catT opd_catStr))
/-- -, *, //, %, ** -/
def fSub:Rv → Rv → Option Rv:=fI (fun _ _=>true) fun i j=>.int (i - j)
theorem opd_sub {K:PySem.W.Frag}:OpD K (rI0 fun i j=>.int (i - j)) fSub:=opd_I0 fun F i j=>.int _
def mulOk (i j:Int):Bool:=decide (i.natAbs.log2 + j.natAbs.log2 < 1000000)
def fMul:Rv → Rv → Option Rv:=fI mulOk fun i j=>.int (i * j)
theorem opd_mul {K:PySem.W.Frag}:OpD K (rI CMulW fun i j=>.int (i * j)) fMul:=opd_I (fun i j h=>of_decide_eq_true h) fun F i j=>.int _
def divOk (_ j:Int):Bool:=decide (j ≠ 0) && decide (j.natAbs < 1073741824)
def fDiv:Rv → Rv → Option Rv:=fI divOk fun i j=>.int (i.fdiv j)
theorem opd_div {K:PySem.W.Frag}:OpD K (rI CDivN fun i j=>.int (i.fdiv j)) fDiv:=opd_I (fun i j h=>by
  unfold divOk at h
  rw [Bool.and_eq_true] at h
  exact ⟨of_decide_eq_true h.1,of_decide_eq_true h.2⟩) fun F i j=>.int _
def fMod:Rv → Rv → Option Rv:=fI (fun _ j=>decide (j ≠ 0)) fun i j=>.int (i.fmod j)
theorem opd_mod {K:PySem.W.Frag}:OpD K (rI (fun _ j=>j ≠ 0) fun i j=>.int (i.fmod j)) fMod:=opd_I (fun i j h=>of_decide_eq_true h) fun F i j=>.int _
def powOk (i j:Int):Bool:=decide (0 ≤ j) && decide (j ≤ 1000000) && decide (i.natAbs < 2 ^ 64)
def fPow:Rv → Rv → Option Rv:=fI powOk fun i j=>.int (i ^ j.toNat)
theorem opd_pow {K:PySem.W.Frag}:OpD K (rI CPow fun i j=>.int (i ^ j.toNat)) fPow:=opd_I (fun i j h=>by
  unfold powOk at h
  rw [Bool.and_eq_true,Bool.and_eq_true] at h
  exact ⟨of_decide_eq_true h.1.1,of_decide_eq_true h.1.2,of_decide_eq_true h.2⟩) fun F i j=>.int _
/-- comparisons of ints -/
def gCmp (p:Int → Int → Bool):D → D → Option Bool
  | .int i,.int j=>some (p i j)
  | _,_=>none
theorem opd_cmpI {K:PySem.W.Frag} (p:Int → Int → Bool):OpD K (rI0 fun i j=>.bl (p i j)) (fRead fun a b=>(gCmp p a b).map .bool):=opd_bool fun a b c w u H Q e h1 h2 q=>by
  unfold gCmp at e
  split at e
  · cases e
    cases h1
    cases h2
    exact ⟨_,_,rfl,rfl,q⟩
  · cases e
/-- == -/
def gEq:D → D → Option Bool
  | .int i,.int j=>some (decide (i = j))
  | .str x,.str y=>some (decide (x = y))
  | a,b=>if SeqAt.shaped a && SeqAt.shaped b then some (PyData.eqv a b) else none
def rEqAll (K:PySem.W.Frag):R2:=fun x y H Q=>rEq x y H Q ∨ rEqD K x y H Q
def rNeAll (K:PySem.W.Frag):R2:=fun x y H Q=>rNe x y H Q ∨ rNeD K x y H Q
theorem op_eqAll (hu:X.A.units + 64 < cLine):OpR X (compareOp .Eq) (rEqAll X.K):=OpR.or op_eq (op_eqD hu)
theorem op_neAll (hu:X.A.units + 64 < cLine):OpR X (compareOp .NotEq) (rNeAll X.K):=OpR.or op_ne (op_neD hu)
def fEq:Rv → Rv → Option Rv:=fRead fun a b=>(gEq a b).map .bool
def fNe:Rv → Rv → Option Rv:=fRead fun a b=>((gEq a b).map not).map .bool
theorem opd_eq {K:PySem.W.Frag}:OpD K (rEqAll K) fEq:=opd_bool fun a b c w u H Q e h1 h2 q=>by
  unfold gEq at e
  split at e
  · cases e
    cases h1
    cases h2
    refine .inl ⟨rfl,?_⟩
    rename_i i j
    have:decide (V.int i = V.int j) = decide (i = j):=by simp
    rw [this]
    exact q
  · cases e
    cases h1
    cases h2
    refine .inl ⟨rfl,?_⟩
    rename_i i j
    have:decide (V.str i = V.str j) = decide (i = j):=by simp
    rw [this]
    exact q
  · split at e
    · rename_i hs
      cases e
      rw [Bool.and_eq_true] at hs
      exact .inr ⟨_,_,h1.kitS hs.1,h2.kitS hs.2,hs.1,hs.2,q⟩
    · cases e
theorem opd_ne {K:PySem.W.Frag}:OpD K (rNeAll K) fNe:=opd_bool (g:=fun a b=>(gEq a b).map not) fun a b c w u H Q e h1 h2 q=>by
  unfold gEq at e
  split at e
  · cases e
    cases h1
    cases h2
    refine .inl ⟨rfl,?_⟩
    rename_i i j
    have:decide (V.int i = V.int j) = decide (i = j):=by simp
    rw [this]
    exact q
  · cases e
    cases h1
    cases h2
    refine .inl ⟨rfl,?_⟩
    rename_i i j
    have:decide (V.str i = V.str j) = decide (i = j):=by simp
    rw [this]
    exact q
  · split at e
    · rename_i hs
      cases e
      rw [Bool.and_eq_true] at hs
      exact .inr ⟨_,_,h1.kitS hs.1,h2.kitS hs.2,hs.1,hs.2,q⟩
    · cases e
/-- in, not in -/
def rInT (K:PySem.W.Frag):R2:=fun x y H Q=>∃ d ds,Dp K H x d ∧ Dp K H y (.tuple ds) ∧ SeqAt.shaped d = true ∧ SeqAt.shaped (.list ds) = true ∧ Q (.bl (ds.any fun z=>PyData.eqv z d)) H
def rNotInT (K:PySem.W.Frag):R2:=fun x y H Q=>∃ d ds,Dp K H x d ∧ Dp K H y (.tuple ds) ∧ SeqAt.shaped d = true ∧ SeqAt.shaped (.list ds) = true ∧ Q (.bl (!ds.any fun z=>PyData.eqv z d)) H
theorem op_inT (hu:X.A.units + 65 < cLine):OpR X (compareOp .In) (rInT X.K):=by
  intro pins s σ H x y v u Q I rx ry h
  obtain ⟨d,ds,hd,he,sd,se,q⟩:=h
  obtain ⟨as,r1⟩:=Dp.reads I d x v hd rx
  obtain ⟨bs,r2⟩:=Dp.reads I (.tuple ds) y u he ry
  exact SeqAt.in_tuple_reads r2 r1 (SeqAt.canLay_of_shaped se) (SeqAt.canLay_of_shaped sd) (room_in_shaped sd hu) ⟨.bl _,H,I,rfl,q⟩
theorem op_notInT (hu:X.A.units + 65 < cLine):OpR X (compareOp .NotIn) (rNotInT X.K):=by
  intro pins s σ H x y v u Q I rx ry h
  obtain ⟨d,ds,hd,he,sd,se,q⟩:=h
  obtain ⟨as,r1⟩:=Dp.reads I d x v hd rx
  obtain ⟨bs,r2⟩:=Dp.reads I (.tuple ds) y u he ry
  exact SeqAt.notIn_tuple_reads r2 r1 (SeqAt.canLay_of_shaped se) (SeqAt.canLay_of_shaped sd) (room_in_shaped sd hu) ⟨.bl _,H,I,rfl,q⟩
def gIn:D → D → Option Bool
  | d,.list ds=>if SeqAt.shaped d && SeqAt.shaped (.list ds) then some (ds.any fun z=>PyData.eqv z d) else none
  | d,.tuple ds=>if SeqAt.shaped d && SeqAt.shaped (.list ds) then some (ds.any fun z=>PyData.eqv z d) else none
  | _,_=>none
def rInAll (K:PySem.W.Frag):R2:=fun x y H Q=>rInD K x y H Q ∨ rInT K x y H Q
def rNotInAll (K:PySem.W.Frag):R2:=fun x y H Q=>rNotInD K x y H Q ∨ rNotInT K x y H Q
theorem op_inAll (hu:X.A.units + 65 < cLine):OpR X (compareOp .In) (rInAll X.K):=OpR.or (op_inD hu) (op_inT hu)
theorem op_notInAll (hu:X.A.units + 65 < cLine):OpR X (compareOp .NotIn) (rNotInAll X.K):=OpR.or (op_notInD hu) (op_notInT hu)
def fIn:Rv → Rv → Option Rv:=fRead fun a b=>(gIn a b).map .bool
def fNotIn:Rv → Rv → Option Rv:=fRead fun a b=>((gIn a b).map not).map .bool
theorem opd_in {K:PySem.W.Frag}:OpD K (rInAll K) fIn:=opd_bool fun a b c w u H Q e h1 h2 q=>by
  unfold gIn at e
  split at e
  · split at e
    · rename_i hs
      cases e
      rw [Bool.and_eq_true] at hs
      exact .inl ⟨_,_,h1.kitS hs.1,h2.kitS hs.2,hs.1,hs.2,q⟩
    · cases e
  · split at e
    · rename_i hs
      cases e
      rw [Bool.and_eq_true] at hs
      exact .inr ⟨_,_,h1,h2,hs.1,hs.2,q⟩
    · cases e
  · cases e
theorem opd_notIn {K:PySem.W.Frag}:OpD K (rNotInAll K) fNotIn:=opd_bool (g:=fun a b=>(gIn a b).map not) fun a b c w u H Q e h1 h2 q=>by
  unfold gIn at e
  split at e
  · split at e
    · rename_i hs
      cases e
      rw [Bool.and_eq_true] at hs
      exact .inl ⟨_,_,h1.kitS hs.1,h2.kitS hs.2,hs.1,hs.2,q⟩
    · cases e
  · split at e
    · rename_i hs
      cases e
      rw [Bool.and_eq_true] at hs
      exact .inr ⟨_,_,h1,h2,hs.1,hs.2,q⟩
    · cases e
  · cases e
end
end DL
end
section
namespace DL
open PySem PySem.Spec PyProof.Rows L2
variable [Tbs]
def Rv.truth:Rv → Option Bool
  | .d .none=>some false
  | .d (.bool bb)=>some bb
  | .d (.int i)=>some (i != 0)
  | .d (.str x)=>if x.length ≤ 16777216 then some ((x.length:Int) != 0) else none
  | .d (.list xs)=>some (!xs.isEmpty)
  | .d (.tuple xs)=>some (!xs.isEmpty)
  | .l xs=>some (!xs.isEmpty)
  | .b xs=>some (!xs.isEmpty)
  | _=>none
theorem DpAll.isEmpty {K:PySem.W.Frag} {H:Hp} {vs:List V} {ds:List PyData} (h:DpAll K H vs ds):vs.isEmpty = ds.isEmpty:=by
  cases ds with
  | nil=>cases h; rfl
  | cons d ds=>cases h; rfl
theorem tru_of {K:PySem.W.Frag} {As:List Addr} {F H:Hp} {v:V} {r:Rv} {b:Bool} (k:Same F H) (h:VOk K As F H v r) (e:r.truth = some b):TruV K v H b:=by
  have own:∀ {xs:List D},OwnL K As F H v xs → TruV K v H (!xs.isEmpty):=by
    rintro xs ⟨p,vs,rfl,_,_,hp,ha⟩
    exact .inl ⟨vs,SqL.of hp,by rw [ha.isEmpty]⟩
  cases r with
  | d x =>
    cases x with
    | none=>cases e; cases h; rfl
    | bool b=>cases e; cases h; rfl
    | int i=>cases e; cases h; rfl
    | str x =>
      simp only [Rv.truth] at e
      split at e
      · rename_i hz
        cases e; cases h
        exact ⟨by rw [sizeLine_eq]; exact hz,rfl⟩
      · cases e
    | list xs =>
      cases e
      cases h with
      | lst hs ha=>exact .inl ⟨_,k.seq hs,by rw [ha.isEmpty]⟩
    | tuple xs =>
      cases e
      cases h with
      | tup hs ha=>exact .inr (.inl ⟨_,Same.seqT k hs,by rw [ha.isEmpty]⟩)
    | dict _=>cases e
  | l xs=>cases e; exact own h
  | b xs=>cases e; exact own h
  | a _=>cases e
  | s=>cases e
def mTru (m:EM):BM:=fun G t=>(m G t).fz.bind fun x t=>.of x.truth t
/-- a test by its value's truth -/
theorem sb_truth {X:Cx} {P:Pm} {a:Expr} {ma:EM} (hK:P.K = X.K) (ha:SE X P a ma) (he:∀ whole,isTrue a X.env whole = (do let v ← whole; standAt a.pos; holding [v] (truthy v))):SB X P a (mTru ma):=by
  refine L2.PT.imp (pt_truth ha.fz he) fun σ H Q ⟨As,F,G,t,R,p⟩=>⟨As,F,G,t,R,bindEB R p fun As1 F1 H1 v1 r1 t1 _ g1 R1 x1 p1=>?_⟩
  cases e:r1.truth with
  | none=>rw [e] at p1; exact p1.elim
  | some b =>
    rw [e] at p1
    rw [← hK]
    exact ⟨b,tru_of R1.sub x1 e,p1 As1 F1 H1 (.refl R1.sub) R1.st⟩
def Rv.bl:Rv → Option Bool
  | .d (.bool bb)=>some bb
  | _=>none
/-- a comparison as a test -/
def mCmpB (f:Rv → Rv → Option Rv) (a b:EM):BM:=fun G t=>(mBin f a b G t).bind fun x t=>.of x.bl t
theorem sb_of_te {X:Cx} {P:Pm} {e:Expr} {te:TE} {m:EM} (h:PT X e (tTest te)) (hi:∀ σ H Q,teM P m σ H Q → te σ H Q):SB X P e (fun G t=>(m G t).bind fun x t=>.of x.bl t):=by
  refine L2.PT.imp h fun σ H Q ⟨As,F,G,t,R,p⟩=>hi _ _ _ ⟨As,F,G,t,R,bindEB R p fun As1 F1 H1 v1 r1 t1 _ g1 R1 x1 p1=>?_⟩
  cases e:r1.bl with
  | none=>rw [e] at p1; exact p1.elim
  | some b =>
    rw [e] at p1
    cases r1 with
    | d x =>
      cases x with
      | bool c=>cases e; cases x1; exact ⟨b,rfl,p1 As1 F1 H1 (.refl R1.sub) R1.st⟩
      | _=>cases e
    | _=>cases e
theorem sb_cmp {X:Cx} {P:Pm} {a b:Expr} {ma mb:EM} {pos:Pos} {op:CmpOp} {r:R2} {f:Rv → Rv → Option Rv} (ho:OpR X (compareOp op) r) (hf:OpD P.K r f) (ha:SE X P a ma) (hb:SE X P b mb) (hm:behindInMarks op b = false) :
    SB X P (.Compare a [op] [b] pos) (mCmpB f ma mb):=sb_of_te (pt_cmpR ho ha.fz hb.fz hm) fun σ H Q h=>two hf h
/-- a < b < c -/
def mChain (f g:Rv → Rv → Option Rv) (a b c:EM):EM:=fun G t=>(a G t).fz.bind fun x t=>(b G t).fz.bind fun y t=>match (f x y).bind Rv.bl with
  | some true=>(c G t).fz.bind fun z t=>.of (g y z) t
  | some false=>.ok (.d (.bool false)) t
  | none=>.stuck
theorem chain_te {X:Cx} {P:Pm} {ma mb mc:EM} {r r':R2} {f g:Rv → Rv → Option Rv} (hf:OpD P.K r f) (hg:OpD P.K r' g) {σ:Sg} {H:Hp} {Q:VK} (h:teM P (mChain f g ma mb mc) σ H Q) :
    tChain r r' (teM P fun G t=>(ma G t).fz) (teM P fun G t=>(mb G t).fz) (teM P fun G t=>(mc G t).fz) σ H Q:=by
  obtain ⟨As,F,G,t,R,p⟩:=h
  refine ⟨As,F,G,t,R,bindEE R p fun As1 F1 H1 v1 r1 t1 _ g1 R1 x1 p1=>⟨As1,F1,G,t1,R1,bindEE R1 p1 fun As2 F2 H2 v2 r2 t2 _ g2 R2 x2 p2=>?_⟩⟩
  cases e:f r1 r2 with
  | none=>rw [e] at p2; exact p2.elim
  | some z =>
    rw [e] at p2
    refine hf e R2.st R2.sub (x1.mono g2) x2 fun F' H' w gg s x _=>?_
    have p2':=PostE.re gg p2
    cases e2:z.bl with
    | none=>simp only [Option.bind_some,e2] at p2; exact p2.elim
    | some b =>
      simp only [Option.bind_some,e2] at p2'
      cases z with
      | d y =>
        cases y with
        | bool c =>
          cases e2
          cases x
          cases b with
          | false=>exact ⟨false,rfl,p2' As2 F' H' _ (.refl gg.fh) s (.bl false) trivial⟩
          | true =>
            refine ⟨true,rfl,?_⟩
            rw [if_pos rfl]
            have R3:=R2.mono gg s
            refine ⟨As2,F',G,t2,R3,bindEE R3 p2' fun As3 F3 H3 v3 r3 t3 _ g3 R4 x3 p3=>?_⟩
            cases e3:g r2 r3 with
            | none=>rw [e3] at p3; exact p3.elim
            | some z3 =>
              rw [e3] at p3
              exact hg e3 R4.st R4.sub ((x2.mono gg).mono g3) x3 fun F5 H5 w5 g5 s5 x5 f5=>p3 As3 F5 H5 w5 g5 s5 x5 f5
        | _=>cases e2
      | _=>cases e2
section
variable {X:Cx} {P:Pm} {a b c:Expr} {ma mb mc:EM} {ta tb:BM} {pos:Pos}
theorem se_chain {op op':CmpOp} {r r':R2} {f g:Rv → Rv → Option Rv} (ho:OpR X (compareOp op) r) (ho':OpR X (compareOp op') r') (hf:OpD P.K r f) (hg:OpD P.K r' g) (ha:SE X P a ma) (hb:SE X P b mb) (hc:SE X P c mc)
    (h:PE X (.Compare a [op,op'] [b,c] pos) (tChain r r' (teM P fun G t=>(ma G t).fz) (teM P fun G t=>(mb G t).fz) (teM P fun G t=>(mc G t).fz))):SE X P (.Compare a [op,op'] [b,c] pos) (mChain f g ma mb mc):=
  L2.PE.imp h fun σ H Q q=>chain_te (X:=X) hf hg q
theorem sb_chain {op op':CmpOp} {r r':R2} {f g:Rv → Rv → Option Rv} (hf:OpD P.K r f) (hg:OpD P.K r' g)
    (h:PT X (.Compare a [op,op'] [b,c] pos) (tTest (tChain r r' (teM P fun G t=>(ma G t).fz) (teM P fun G t=>(mb G t).fz) (teM P fun G t=>(mc G t).fz)))):SB X P (.Compare a [op,op'] [b,c] pos) (fun G t=>(mChain f g ma mb mc G t).bind fun x t=>.of x.bl t):=
  sb_of_te h fun σ H Q q=>chain_te (X:=X) hf hg q
/-- not, and, or -/
def mNotB (m:BM):BM:=fun G t=>(m G t).bind fun b t=>.ok (!b) t
theorem sb_not (h:SB X P a ta):SB X P (.UnaryOp .Not a pos) (mNotB ta):=
  L2.PT.imp (pt_not h) fun σ H Q ⟨As,F,G,t,R,p⟩=>⟨As,F,G,t,R,bindBB R p fun As1 F1 H1 r1 t1 _ g1 R1 p1=>p1 As1 F1 H1 (.refl R1.sub) R1.st⟩
def SW (X:Cx) (P:Pm) (e:Expr) (m:BM):Prop:=PW X e (ttM P m)
theorem SW.sb (h:SW X P a ta):SB X P a ta:=L2.PW.pt h
theorem sw_and1 (h:SB X P a ta):SW X P (.BoolOp .And [a] pos) ta:=pw_and1 h
theorem sw_or1 (h:SB X P a ta):SW X P (.BoolOp .Or [a] pos) ta:=pw_or1 h
def mAndB (x y:BM):BM:=fun G t=>(x G t).bind fun b t=>if b then y G t else .ok false t
def mOrB (x y:BM):BM:=fun G t=>(x G t).bind fun b t=>if b then .ok true t else y G t
theorem sw_and {rest:List Expr} (h:SB X P a ta) (h2:SW X P (.BoolOp .And (b :: rest) pos) tb):SW X P (.BoolOp .And (a :: b :: rest) pos) (mAndB ta tb):=
  L2.PW.imp (pw_and h h2) fun σ H Q ⟨As,F,G,t,R,p⟩=>⟨As,F,G,t,R,bindBB R p fun As1 F1 H1 r1 t1 _ g1 R1 p1=>by
    cases r1 with
    | true=>exact ⟨As1,F1,G,t1,R1,p1⟩
    | false=>exact p1 As1 F1 H1 (.refl R1.sub) R1.st⟩
theorem sw_or {rest:List Expr} (h:SB X P a ta) (h2:SW X P (.BoolOp .Or (b :: rest) pos) tb):SW X P (.BoolOp .Or (a :: b :: rest) pos) (mOrB ta tb):=
  L2.PW.imp (pw_or h h2) fun σ H Q ⟨As,F,G,t,R,p⟩=>⟨As,F,G,t,R,bindBB R p fun As1 F1 H1 r1 t1 _ g1 R1 p1=>by
    cases r1 with
    | false=>exact ⟨As1,F1,G,t1,R1,p1⟩
    | true=>exact p1 As1 F1 H1 (.refl R1.sub) R1.st⟩
/-- .. as values -/
def mNot (m:EM):EM:=fun G t=>(m G t).fz.bind fun x t=>.of (x.truth.map fun b=>.d (.bool !b)) t
theorem se_not (hK:P.K = X.K) (h:SE X P a ma):SE X P (.UnaryOp .Not a pos) (mNot ma):=by
  refine L2.PE.imp (pe_notT h.fz) fun σ H Q ⟨As,F,G,t,R,p⟩=>⟨As,F,G,t,R,bindEE R p fun As1 F1 H1 v1 r1 t1 _ g1 R1 x1 p1=>?_⟩
  cases e:r1.truth with
  | none=>rw [e] at p1; exact p1.elim
  | some b =>
    rw [e] at p1
    rw [← hK]
    exact ⟨b,tru_of R1.sub x1 e,p1 As1 F1 H1 _ (.refl R1.sub) R1.st (.bl _) trivial⟩
theorem se_one {op} (h:SE X P a ma):SE X P (.BoolOp op [a] pos) ma:=pe_one h
def mAnd (x y:EM):EM:=fun G t=>(x G t).fz.bind fun r t=>match r.truth with
  | some true=>y G t
  | some false=>.ok r t
  | none=>.stuck
def mOr (x y:EM):EM:=fun G t=>(x G t).fz.bind fun r t=>match r.truth with
  | some false=>y G t
  | some true=>.ok r t
  | none=>.stuck
theorem fz_notl {r:Rs Rv} {xs:List D} {t:Option DS}:r.fz ≠ .ok (.l xs) t:=by
  cases r with
  | ok a t =>
    intro e
    have e':Rs.ok a.fz t = .ok (.l xs) _:=e
    injection e' with e1 _
    cases a <;> cases e1
  | ex _ _ _=>intro e; cases e
  | stuck=>intro e; cases e
theorem fresh_of {r:Rs Rv} {v:V} {H:Hp} {x:Rv} {t:Option DS} (e:r.fz = .ok x t):Fresh H v x:=by
  cases x with
  | l xs=>exact absurd e fz_notl
  | _=>trivial
theorem se_and {rest:List Expr} (hK:P.K = X.K) (h:SE X P a ma) (h2:SE X P (.BoolOp .And (b :: rest) pos) mb):SE X P (.BoolOp .And (a :: b :: rest) pos) (mAnd ma mb):=by
  refine L2.PE.imp (pe_andT h.fz h2) fun σ H Q ⟨As,F,G,t,R,p⟩=>⟨As,F,G,t,R,bindEE R p fun As1 F1 H1 v1 r1 t1 er g1 R1 x1 p1=>?_⟩
  cases e:r1.truth with
  | none=>rw [e] at p1; exact p1.elim
  | some b =>
    rw [e] at p1
    rw [← hK]
    refine ⟨b,tru_of R1.sub x1 e,?_⟩
    cases b with
    | true=>exact ⟨As1,F1,G,t1,R1,p1⟩
    | false=>exact p1 As1 F1 H1 _ (.refl R1.sub) R1.st x1 (fresh_of er)
/-- a if c else b -/
def mIf (c:BM) (x y:EM):EM:=fun G t=>(c G t).bind fun b t=>if b then x G t else y G t
theorem se_if (hc:SB X P c ta) (ha:SE X P a ma) (hb:SE X P b mb):SE X P (.IfExp c a b pos) (mIf ta ma mb):=
  L2.PE.imp (pe_ifExp hc ha hb) fun σ H Q ⟨As,F,G,t,R,p⟩=>⟨As,F,G,t,R,bindBE R p fun As1 F1 H1 r1 t1 _ g1 R1 p1=>by
    cases r1 with
    | true=>exact ⟨As1,F1,G,t1,R1,p1⟩
    | false=>exact ⟨As1,F1,G,t1,R1,p1⟩⟩
/-- -a -/
def mNeg (m:EM):EM:=fun G t=>(m G t).fz.bind fun x t=>.of (match x with | .d (.int i)=>some (.d (.int (-i))) | _=>none) t
theorem se_neg (h:SE X P a ma):SE X P (.UnaryOp .USub a pos) (mNeg ma):=by
  refine L2.PE.imp (pe_un un_neg h.fz) fun σ H Q ⟨As,F,G,t,R,p⟩=>⟨As,F,G,t,R,bindEE R p fun As1 F1 H1 v1 r1 t1 er g1 R1 x1 p1=>?_⟩
  split at p1
  · cases x1
    exact ⟨_,rfl,p1 As1 F1 H1 _ (.refl R1.sub) R1.st (.int _) trivial⟩
  · exact p1.elim
def mNil:AM:=fun _ t=>.ok [] t
def mCons (x:EM) (y:AM):AM:=fun G t=>(x G t).fz.bind fun r t=>(y G t).bind fun rs t=>.ok (r :: rs) t
theorem sa_nil:SA X P [] mNil:=L2.PA.imp pa_nil fun σ H Q ⟨As,F,G,t,R,p⟩=>p As F H [] (.refl R.sub) R.st .nil
theorem sa_cons {es:List Expr} {m:AM} (ha:SE X P a ma) (hr:SA X P es m) (hs:starEach (a :: es) X.env = (false,eval a X.env) :: starEach es X.env):SA X P (a :: es) (mCons ma m):=
  L2.PA.imp (pa_cons ha.fz hr hs) fun σ H Q ⟨As,F,G,t,R,p⟩=>⟨As,F,G,t,R,bindEA R p fun As1 F1 H1 v1 r1 t1 _ g1 R1 x1 p1=>⟨As1,F1,G,t1,R1,bindAA R1 p1 fun As2 F2 H2 vs rs t2 _ g2 R2 x2 p2=>p2 As2 F2 H2 _ (.refl R2.sub) R2.st (.cons (x1.mono g2) x2)⟩⟩
/-- all frozen data -/
def dats:List Rv → Option (List D)
  | []=>some []
  | .d x :: r=>(dats r).map (x :: ·)
  | _ :: _=>none
theorem dats_ok {K:PySem.W.Frag} {As:List Addr} {F H:Hp}:∀ {rs:List Rv} {vs:List V} {ds:List D},Paired (VOk K As F H) vs rs → dats rs = some ds → DpAll K F vs ds
  | _,_,_,.nil,e=>by cases e; exact .nil
  | _,_,_,@Paired.cons _ _ _ v r vs rs h t,e=>by
    cases r with
    | d x =>
      unfold dats at e
      cases e1:dats rs with
      | none=>rw [e1] at e; cases e
      | some ds=>rw [e1] at e; cases e; exact .cons h (dats_ok t e1)
    | _=>cases e
def mTup (m:AM):EM:=fun G t=>(m G t).bind fun rs t=>.of (if rs.length ≤ 16777216 then (dats rs).map fun ds=>.d (.tuple ds) else none) t
def mLst (m:AM):EM:=fun G t=>(m G t).bind fun rs t=>.of (if rs.length ≤ 16777216 then (dats rs).map fun ds=>.l ds else none) t
theorem se_tup {es:List Expr} {m:AM} {k:Nat} (h:SA X P es m):SE X P (.Tuple es k pos) (mTup m):=by
  refine L2.PE.imp (pe_tupN h) fun σ H Q ⟨As,F,G,t,R,p⟩=>⟨As,F,G,t,R,bindAE R p fun As1 F1 H1 vs rs t1 _ g1 R1 x1 p1=>?_⟩
  by_cases hz:rs.length ≤ 16777216
  · rw [if_pos hz] at p1
    cases e:dats rs with
    | none=>rw [e] at p1; exact p1.elim
    | some ds =>
      rw [e] at p1
      have a:=dats_ok x1 e
      refine ⟨by rw [sizeLine_eq,Paired.length x1]; exact hz,fun q o n ho=>?_⟩
      obtain ⟨g,s⟩:=alloc_tup (vs:=vs) R1.st R1.sub n ho
      exact p1 As1 _ _ _ g s (Dp.tup sqN (DpAll.mono g.ff _ _ a)) trivial
  · rw [if_neg hz] at p1; exact p1.elim
theorem se_lst {es:List Expr} {m:AM} (h:SA X P es m):SE X P (.List es pos) (mLst m):=by
  refine L2.PE.imp (pe_lst h) fun σ H Q ⟨As,F,G,t,R,p⟩=>⟨As,F,G,t,R,bindAE R p fun As1 F1 H1 vs rs t1 _ g1 R1 x1 p1=>?_⟩
  by_cases hz:rs.length ≤ 16777216
  · rw [if_pos hz] at p1
    cases e:dats rs with
    | none=>rw [e] at p1; exact p1.elim
    | some ds =>
      rw [e] at p1
      have a:=dats_ok x1 e
      refine ⟨by rw [sizeLine_eq,Paired.length x1]; exact hz,fun q n=>?_⟩
      obtain ⟨⟨g,s⟩,_⟩:=alloc (o:=.lst vs) R1.st R1.sub n
      exact p1 As1 _ _ _ g s ⟨q,vs,rfl,fun z=>R1.st.ok.there q z n,R1.sub.free n,upd_same,a⟩ ⟨q,rfl,n⟩
  · rw [if_neg hz] at p1; exact p1.elim
end
end DL
end
section
namespace DL
open PySem PySem.Spec PyProof.Rows L2
variable [Tbs]
def fIx:Rv → Rv → Option Rv:=fun x y=>match y with
  | .d (.int i)=>((x.items.bind fun xs=>atI xs i).map Rv.d).or ((x.tup.bind fun xs=>atI xs i).map Rv.d)
  | _=>none
def rIxA (K:PySem.W.Frag):R2:=fun x y H Q=>rIxL K x y H Q ∨ rIxT K x y H Q
theorem ix_all {X:Cx}:IxR X (rIxA X.K):=IxR.or ix_list ix_tup
theorem atI_dp {K:PySem.W.Frag} {F:Hp} {vs:List V} {ds:List D} {i:Int} {d:D} (h:DpAll K F vs ds) (e:atI ds i = some d):∃ v,atI vs i = some v ∧ Dp K F v d:=by
  unfold atI at e ⊢
  rw [h.length]
  cases e1:ixN ds.length i with
  | none=>rw [e1] at e; cases e
  | some j =>
    rw [e1] at e
    exact h.get (i:=j) e
theorem opd_ix {K:PySem.W.Frag}:OpD K (rIxA K) fIx:=by
  intro x y z v u As F H t Q e s k vx vy q
  unfold fIx at e
  split at e
  · rename_i i
    cases vy
    cases e1:x.items with
    | some xs =>
      cases e2:atI xs i with
      | some d =>
        simp [e1,e2] at e
        subst e
        obtain ⟨p,vs,rfl,h,a⟩:=vx.items k e1
        obtain ⟨w,e3,hd⟩:=atI_dp a e2
        exact .inl ⟨p,vs,i,w,rfl,rfl,h,e3,q F H w (.refl k) s hd trivial⟩
      | none =>
        have e4:x.tup = none:=by
          cases x with
          | d x=>cases x <;> first | rfl | (cases e1)
          | _=>rfl
        simp [e1,e2,e4] at e
    | none =>
      cases e4:x.tup with
      | none=>simp [e1,e4] at e
      | some xs =>
        cases e2:atI xs i with
        | none=>simp [e1,e2,e4] at e
        | some d =>
          simp [e1,e2,e4] at e
          subst e
          obtain ⟨p,vs,rfl,h,a⟩:=vx.tup e4
          obtain ⟨w,e3,hd⟩:=atI_dp a e2
          exact .inr ⟨p,vs,i,w,rfl,rfl,Same.seqT k h,e3,q F H w (.refl k) s hd trivial⟩
  · cases e
section
variable {X:Cx} {P:Pm} {a b:Expr} {ma mb:EM} {pos:Pos}
theorem se_ix (hK:P.K = X.K) (ha:SE X P a ma) (hb:SE X P b mb) (hs:PlainIx b):SE X P (.Subscript a b pos) (mBin fIx ma mb):=
  L2.PE.imp (pe_ix ix_all ha.fz hb.fz hs) fun σ H Q h=>by
    have:=two (P:=P) (r:=rIxA P.K) opd_ix h
    rw [hK] at this
    exact this
def fSl (x:Rv) (lo hi:Option Int):Option Rv:=
  match x.items with
  | some xs=>some (.l ((xs.drop (HT.sIx xs.length 0 lo)).take (HT.sIx xs.length xs.length hi - HT.sIx xs.length 0 lo)))
  | none=>match x.tup with
    | some xs=>some (.d (.tuple ((xs.drop (HT.sIx xs.length 0 lo)).take (HT.sIx xs.length xs.length hi - HT.sIx xs.length 0 lo))))
    | none=>none
/-- t[lo:hi]: the whole of it is t itself -/
def rSlN (K:PySem.W.Frag):V → Option Int → Option Int → Hp → VK → Prop:=fun x lo hi H Q=>∃ a xs,x = .ref a ∧ SqT K H a xs ∧
  (HT.sIx xs.length 0 lo = 0 ∧ HT.sIx xs.length xs.length hi = xs.length → Q (.ref a) H) ∧ (¬ (HT.sIx xs.length 0 lo = 0 ∧ HT.sIx xs.length xs.length hi = xs.length) → NewT H (cutV xs lo hi) Q)
omit [Tbs] in
theorem sl_tupN {X:Cx}:SlR X (rSlN X.K):=by
  intro pins s σ H x v vl vu lo hi sl Q I rx hs pl pu h
  obtain ⟨a,xs,rfl,hx,q1,q2⟩:=h
  cases rx
  obtain ⟨its,r,ht,hz⟩:=I.tuple hx
  have hlen:its.toArray.size = xs.length:=by rw [List.size_toArray]; exact r.length.symm
  by_cases hw:HT.sIx xs.length 0 lo = 0 ∧ HT.sIx xs.length xs.length hi = xs.length
  · refine ⟨"tuple",_,PyProof.Rows.slot_tuple_getitem.lookup,ht.typeIs,?_⟩
    exact getItem_tuple_whole ht hs pl pu (by rw [hlen]; exact hw) ⟨.ref a,H,I,rfl,q1 hw⟩
  · refine ⟨"tuple",_,PyProof.Rows.slot_tuple_getitem.lookup,ht.typeIs,?_⟩
    refine HT.getItem_tuple_cut ht hs pl pu (by rw [hlen]; exact hw) ?_ (by rw [hlen]; exact hz)
    rw [hlen]
    exact newT (s:=s) (h':=s.heap) (t':=s.toks) I (Nat.le_trans (cutV_length xs lo hi) hz) ((r.drop (HT.sIx xs.length 0 lo)).take (HT.sIx xs.length xs.length hi - HT.sIx xs.length 0 lo)) (q2 hw)
def rSlAll (K:PySem.W.Frag):V → Option Int → Option Int → Hp → VK → Prop:=fun x lo hi H Q=>rSlL K x lo hi H Q ∨ rSlN K x lo hi H Q
theorem sl_all {X:Cx}:SlR X (rSlAll X.K):=SlR.or sl_list sl_tupN
theorem sIx_full {n:Nat} {lo hi:Option Int} (h:HT.sIx n 0 lo = 0 ∧ HT.sIx n n hi = n) {xs:List D} (e:xs.length = n):(xs.drop (HT.sIx n 0 lo)).take (HT.sIx n n hi - HT.sIx n 0 lo) = xs:=by
  rw [h.1,h.2,List.drop_zero,Nat.sub_zero,← e,List.take_length]
theorem sld {K:PySem.W.Frag} {x z:Rv} {lo hi:Option Int} {v:V} {As:List Addr} {F H:Hp} {t:Option DS} {Q:VK} (e:fSl x lo hi = some z) (s:StF As t F H) (k:Same F H) (vx:VOk K As F H v x)
    (q:∀ F' H' w,Grow As F H As F' H' → StF As t F' H' → VOk K As F' H' w z → Fresh H w z → Q w H'):rSlAll K v lo hi H Q:=by
  unfold fSl at e
  cases e1:x.items with
  | some xs =>
    rw [e1] at e
    cases e
    obtain ⟨p,vs,rfl,h,a⟩:=vx.items k e1
    refine .inl ⟨p,vs,rfl,h,fun l n=>?_⟩
    obtain ⟨⟨g,s'⟩,_⟩:=alloc (o:=.lst (cutV vs lo hi)) s k n
    have a2:DpAll K F (cutV vs lo hi) ((xs.drop (HT.sIx xs.length 0 lo)).take (HT.sIx xs.length xs.length hi - HT.sIx xs.length 0 lo)):=by
      unfold cutV
      rw [a.length]
      exact (a.drop _).take _
    exact q F _ _ g s' ⟨l,_,rfl,fun z=>s.ok.there l z n,k.free n,upd_same,a2⟩ ⟨l,rfl,n⟩
  | none =>
    cases e2:x.tup with
    | none=>simp [e1,e2] at e
    | some xs =>
      simp [e1,e2] at e
      subst e
      obtain ⟨p,vs,rfl,h,a⟩:=vx.tup e2
      have hl:=a.length
      refine .inr ⟨p,vs,rfl,Same.seqT k h,fun hf=>?_,fun _ l o n ho=>?_⟩
      · rw [hl] at hf
        rw [sIx_full hf rfl] at q
        exact q F H _ (.refl k) s (Dp.tup h a) trivial
      · obtain ⟨g,s'⟩:=alloc_tup (vs:=cutV vs lo hi) s k n ho
        have a2:DpAll K F (cutV vs lo hi) ((xs.drop (HT.sIx xs.length 0 lo)).take (HT.sIx xs.length xs.length hi - HT.sIx xs.length 0 lo)):=by
          unfold cutV
          rw [hl]
          exact (a.drop _).take _
        exact q _ _ _ g s' (Dp.tup sqN (DpAll.mono g.ff _ _ a2)) trivial
/-- a part of a slice -/
def partI:Rv → Option DS → Rs (Option Int)
  | .d (.int i),t=>.ok (some i) t
  | _,_=>.stuck
def mPart (m:Option EM):Gm → Option DS → Rs (Option Int):=fun G t=>match m with
  | none=>.ok none t
  | some m=>(m G t).fz.bind partI
theorem bind_assoc {α β γ:Type} (r:Rs α) (f:α → Option DS → Rs β) (g:β → Option DS → Rs γ):(r.bind f).bind g = r.bind fun a t=>(f a t).bind g:=by
  cases r <;> rfl
def mSl (x:EM) (lo hi:Option EM):EM:=fun G t=>(x G t).fz.bind fun r t=>(mPart lo G t).bind fun l t=>(mPart hi G t).bind fun h t=>.of (fSl r l h) t
def SO (X:Cx) (P:Pm) (e:Option Expr) (m:Option EM):Prop:=match e,m with
  | none,none=>True
  | some e,some m=>SE X P e m
  | _,_=>False
/-- reading of a part -/
def toM (P:Pm) (m:Option EM):TO:=fun σ H Q=>match m with
  | none=>Q none H
  | some m=>teM P (fun G t=>(m G t).fz) σ H fun x H1=>∃ i,x = .int i ∧ Q (some i) H1
theorem po_of {e:Option Expr} {m:Option EM} (h:SO X P e m):PO X e (toM P m):=by
  cases e with
  | none =>
    cases m with
    | none=>exact po_none
    | some m=>exact h.elim
  | some e =>
    cases m with
    | none=>exact h.elim
    | some m=>exact po_some (SE.fz h)
theorem toM_bind {m:Option EM} {f:Option Int → Option DS → Rs Rv} {As:List Addr} {F H:Hp} {G:Gm} {t:Option DS} {σ:Sg} {Q:VK} {Q1:Option Int → Hp → Prop} (R:Rel P.K P.xi As F G t σ H) (h:PostE P As F H σ Q ((mPart m G t).bind f))
    (h2:∀ As1 F1 H1 i t1,Grow As F H As1 F1 H1 → Rel P.K P.xi As1 F1 G t1 σ H1 → PostE P As1 F1 H1 σ Q (f i t1) → Q1 i H1):toM P m σ H Q1:=by
  cases m with
  | none=>exact h2 As F H none t (.refl R.sub) R h
  | some m =>
    have h':PostE P As F H σ Q ((m G t).fz.bind fun x t=>(partI x t).bind f):=by
      rw [← bind_assoc]; exact h
    refine ⟨As,F,G,t,R,bindEE R h' fun As1 F1 H1 v1 r1 t1 _ g1 R1 x1 p1=>?_⟩
    unfold partI at p1
    split at p1
    · cases x1
      exact ⟨_,rfl,h2 As1 F1 H1 _ t1 g1 R1 p1⟩
    · exact p1.elim
theorem se_sl {lo hi:Option Expr} {ml mh:Option EM} {p2:Pos} (hK:P.K = X.K) (ha:SE X P a ma) (hl:SO X P lo ml) (hh:SO X P hi mh):SE X P (.Subscript a (.Slice lo hi none p2) pos) (mSl ma ml mh):=by
  refine L2.PE.imp (pe_slice sl_all ha.fz (po_of hl) (po_of hh)) fun σ H Q ⟨As,F,G,t,R,p⟩=>⟨As,F,G,t,R,bindEE R p fun As1 F1 H1 v1 r1 t1 _ g1 R1 x1 p1=>?_⟩
  refine toM_bind R1 p1 fun As2 F2 H2 i t2 g2 R2 p2=>toM_bind R2 p2 fun As3 F3 H3 j t3 g3 R3 p3=>?_
  cases e:fSl r1 i j with
  | none=>rw [e] at p3; exact p3.elim
  | some z =>
    rw [e] at p3
    rw [← hK]
    exact sld e R3.st R3.sub ((x1.mono g2).mono g3) fun F' H' w g s x f=>p3 As3 F' H' w g s x f
def CallD (K:PySem.W.Frag) (r:List V → Hp → VK → Prop) (f:List Rv → Option Rv):Prop:=∀ {xs:List Rv} {z:Rv} {vs:List V} {As:List Addr} {F H:Hp} {t:Option DS} {Q:VK},f xs = some z → StF As t F H → Same F H → Paired (VOk K As F H) vs xs →
  (∀ F' H' w,Grow As F H As F' H' → StF As t F' H' → VOk K As F' H' w z → Fresh H w z → Q w H') → r vs H Q
def mCallB (f:List Rv → Option Rv) (m:AM):EM:=fun G t=>(m G t).bind fun rs t=>.of (f rs) t
theorem callB_te {r:List V → Hp → VK → Prop} {f:List Rv → Option Rv} {m:AM} (hf:CallD P.K r f) {σ:Sg} {H:Hp} {Q:VK} (h:teM P (mCallB f m) σ H Q):tCB r (taM P m) σ H Q:=by
  obtain ⟨As,F,G,t,R,p⟩:=h
  refine ⟨As,F,G,t,R,bindAE R p fun As1 F1 H1 vs rs t1 _ g1 R1 x1 p1=>?_⟩
  cases e:f rs with
  | none=>rw [e] at p1; exact p1.elim
  | some z =>
    rw [e] at p1
    exact hf e R1.st R1.sub x1 fun F' H' w g s x f=>p1 As1 F' H' w g s x f
theorem se_callB {id:String} {r:List V → Hp → VK → Prop} {f:List Rv → Option Rv} {x:Str} {p:Pos} {es:List Expr} {m:AM} (hc:CallR X (.builtin id) r) (hf:CallD P.K r f) (hg:Gl X x) (hm:X.mg x = none) (hv:bootBuiltins x = some (.builtin id)) (ha:SA X P (a :: es) m)
    (hn:x ≠ "__name__") (hdb:(x == ("__debug__" : Str)) = false) (he:starEach (a :: es) X.env = (false,eval a X.env) :: starEach es X.env) (hpl:(backTo pos (starEach es X.env)).any (·.1) = false):SE X P (.Call (.Name x p) (a :: es) [] pos) (mCallB f m):=
  L2.PE.imp (pe_callB hc hg hm hv ha hn hdb he hpl) fun σ H Q h=>callB_te hf h
theorem se_callTy {T:String} {r:List V → Hp → VK → Prop} {f:List Rv → Option Rv} {x:Str} {p:Pos} {es:List Expr} {m:AM} (hc:CallR X (.type T) r) (hf:CallD P.K r f) (hg:Gl X x) (hm:X.mg x = none) (hv:bootBuiltins x = some (.type T)) (ha:SA X P (a :: es) m)
    (hn:x ≠ "__name__") (hdb:(x == ("__debug__" : Str)) = false) (he:starEach (a :: es) X.env = (false,eval a X.env) :: starEach es X.env) (hpl:(backTo pos (starEach es X.env)).any (·.1) = false):SE X P (.Call (.Name x p) (a :: es) [] pos) (mCallB f m):=
  L2.PE.imp (pe_callTy hc hg hm hv ha hn hdb he hpl) fun σ H Q h=>callB_te hf h
end
/-- one argument that is read -/
theorem calld_read1 {K:PySem.W.Frag} {r:List V → Hp → VK → Prop} (g:D → Option D) (vw:D → V) (hv:∀ a d,g a = some d → ∀ F,Dp K F (vw d) d) (hr:∀ a d v H (Q:VK),g a = some d → Dp K H v a → Q (vw d) H → r [v] H Q) :
    CallD K r (fun xs=>match xs with | [x]=>x.toD.bind fun a=>(g a).map Rv.d | _=>none):=by
  intro xs z vs As F H t Q e s k vx q
  match xs,vx with
  | [x],.cons h .nil =>
    simp only at e
    cases e1:x.toD with
    | none=>simp [e1] at e
    | some a =>
      cases e2:g a with
      | none=>simp [e1,e2] at e
      | some d =>
        simp [e1,e2] at e
        subst e
        exact hr a d _ H Q e2 (h.weak k e1) (q F H _ (.refl k) s (hv a d e2 F) trivial)
def vOf:D → V
  | .none=>.non
  | .bool b=>.bl b
  | .int i=>.int i
  | .str x=>.str x
  | _=>.non
/-- len -/
def gLen:D → Option D
  | .list xs=>some (.int xs.length)
  | .tuple xs=>some (.int xs.length)
  | .str x=>if x.length ≤ 16777216 then some (.int x.length) else none
  | _=>none
def rLenA (K:PySem.W.Frag):List V → Hp → VK → Prop:=fun xs H Q=>∃ x n,xs = [x] ∧ LenV K x H n ∧ Q (.int n) H
def f1 (g:D → Option D):List Rv → Option Rv:=fun xs=>match xs with | [x]=>x.toD.bind fun a=>(g a).map Rv.d | _=>none
theorem calld_len {K:PySem.W.Frag}:CallD K (rLenA K) (f1 gLen):=calld_read1 gLen vOf (fun a d e F=>by
    unfold gLen at e
    split at e
    · cases e; exact .int _
    · cases e; exact .int _
    · split at e
      · cases e; exact .int _
      · cases e
    · cases e) fun a d v H Q e h q=>by
  unfold gLen at e
  split at e
  · cases e
    cases h with
    | lst hs ha=>exact ⟨_,_,rfl,.inl ⟨_,hs,rfl⟩,by rw [ha.length]; exact q⟩
  · cases e
    cases h with
    | tup hs ha=>exact ⟨_,_,rfl,.inr ⟨_,hs,rfl⟩,by rw [ha.length]; exact q⟩
  · split at e
    · rename_i hz
      cases e
      cases h
      exact ⟨_,_,rfl,⟨by rw [sizeLine_eq]; exact hz,rfl⟩,q⟩
    · cases e
  · cases e
/-- repr -/
def gRepr (d:D):Option D:=if !d.hasDict && d.showable && decide (d.depth ≤ 64) && decide (d.shown.length ≤ 16777216) then some (.str d.shown) else none
def rRepr (K:PySem.W.Frag):List V → Hp → VK → Prop:=fun xs H Q=>∃ v d,xs = [v] ∧ Dp K H v d ∧ d.hasDict = false ∧ d.showable = true ∧ d.depth ≤ 64 ∧ d.shown.length ≤ sizeLine ∧ Q (.str d.shown) H
theorem call_reprD {X:Cx} (hg:X.A.guards = some []) (hu:X.A.units + 70 < cLine):CallR X (.builtin "repr") (rRepr X.K):=by
  intro pins s σ H xs us Q I r h
  obtain ⟨v,d,rfl,hd,hnd,hs,hdp,hz,q⟩:=h
  obtain ⟨u,rfl,rv⟩:=vals1 r
  cases d with
  | none =>
    cases hd
    cases rv
    simp only [PyData.shown] at q
    exact PySem.P.repr_of_none ⟨.str "None",H,I.tok _,⟨_,rfl⟩,q⟩
  | bool b =>
    cases hd
    cases rv
    simp only [PyData.shown] at q
    exact PySem.P.repr_of_bool ⟨.str _,H,I.tok _,⟨_,rfl⟩,q⟩
  | int i =>
    cases hd
    obtain ⟨t,rfl⟩:=rv
    simp only [PyData.shown] at q
    exact PySem.P.repr_of_int (by simpa [PyData.showable] using hs) ⟨.str _,H,I.tok _,⟨_,rfl⟩,q⟩
  | str x =>
    cases hd
    obtain ⟨t,rfl⟩:=rv
    simp only [PyData.shown] at q hz
    exact PySem.P.repr_of_str ⟨.str _,H,I.tok _,⟨_,rfl⟩,q⟩ hz
  | list ds =>
    obtain ⟨as,rd⟩:=Dp.reads I (.list ds) v u hd rv
    cases hd with
    | lst h1 h2 =>
      cases rv
      refine repr_of_reads' rd hs (fun z=>?_) hg (by omega) (fun b o e=>e) (fun h' tu tk hk=>⟨.str _,H,I.kept (t':=tk) hk,⟨tu,rfl⟩,q⟩) hz
      rw [hnd] at z
      cases z
  | tuple ds =>
    obtain ⟨as,rd⟩:=Dp.reads I (.tuple ds) v u hd rv
    cases hd with
    | tup h1 h2 =>
      cases rv
      refine repr_of_reads' rd hs (fun z=>?_) hg (by omega) (fun b o e=>e) (fun h' tu tk hk=>⟨.str _,H,I.kept (t':=tk) hk,⟨tu,rfl⟩,q⟩) hz
      rw [hnd] at z
      cases z
  | dict _=>cases hd; simp [PyData.hasDict] at hnd
end DL
end
section
namespace DL
open PySem PySem.Spec PyProof.Rows L2
variable [Tbs]
theorem calld_repr {K:PySem.W.Frag}:CallD K (rRepr K) (f1 gRepr):=calld_read1 gRepr vOf (fun a d e F=>by
    unfold gRepr at e
    split at e
    · cases e; exact .str _
    · cases e) fun a d v H Q e h q=>by
  unfold gRepr at e
  split at e
  · rename_i hh
    cases e
    rw [Bool.and_eq_true,Bool.and_eq_true,Bool.and_eq_true] at hh
    exact ⟨_,_,rfl,h,by simpa using hh.1.1.1,hh.1.1.2,of_decide_eq_true hh.1.2,by rw [sizeLine_eq]; exact of_decide_eq_true hh.2,q⟩
  · cases e
/-- max(a, b), min(a, b) of ints -/
def f2 (g:D → D → Option D):List Rv → Option Rv:=fun xs=>match xs with | [x,y]=>fRead g x y | _=>none
theorem calld_read2 {K:PySem.W.Frag} {r:List V → Hp → VK → Prop} (g:D → D → Option D) (vw:D → V) (hv:∀ a b d,g a b = some d → ∀ F,Dp K F (vw d) d) (hr:∀ a b d v w H (Q:VK),g a b = some d → Dp K H v a → Dp K H w b → Q (vw d) H → r [v,w] H Q) :
    CallD K r (f2 g):=by
  intro xs z vs As F H t Q e s k vx q
  match xs,vx with
  | [x,y],.cons h (.cons h' .nil) =>
    obtain ⟨a,b,d,e1,e2,e3,rfl⟩:=fRead_some (show fRead g x y = some z from e)
    exact hr a b d _ _ H Q e3 (h.weak k e1) (h'.weak k e2) (q F H _ (.refl k) s (hv a b d e3 F) trivial)
def gMax:D → D → Option D
  | .int i,.int j=>some (.int (if j > i then j else i))
  | _,_=>none
def gMin:D → D → Option D
  | .int i,.int j=>some (.int (if j < i then j else i))
  | _,_=>none
def rMin2:List V → Hp → VK → Prop:=fun xs H Q=>∃ i j,xs = [.int i,.int j] ∧ Q (.int (if j < i then j else i)) H
theorem calld_min2 {K:PySem.W.Frag}:CallD K rMin2 (f2 gMin):=calld_read2 gMin vOf (fun a b d e F=>by
    unfold gMin at e
    split at e
    · cases e; exact .int _
    · cases e) fun a b d v w H Q e h h' q=>by
  unfold gMin at e
  split at e
  · cases e; cases h; cases h'; exact ⟨_,_,rfl,q⟩
  · cases e
/-- int(x) -/
def gInt:D → Option D
  | .int i=>some (.int i)
  | .bool b=>some (.int (if b then 1 else 0))
  | _=>none
def rInt1:List V → Hp → VK → Prop:=fun xs H Q=>(∃ i,xs = [.int i] ∧ Q (.int i) H) ∨ ∃ k,xs = [.bl k] ∧ Q (.int (if k then 1 else 0)) H
theorem calld_int {K:PySem.W.Frag}:CallD K rInt1 (f1 gInt):=calld_read1 gInt vOf (fun a d e F=>by
    unfold gInt at e
    split at e
    · cases e; exact .int _
    · cases e; exact .int _
    · cases e) fun a d v H Q e h q=>by
  unfold gInt at e
  split at e
  · cases e; cases h; exact .inl ⟨_,rfl,q⟩
  · cases e; cases h; exact .inr ⟨_,rfl,q⟩
  · cases e
def gAbs:D → Option D
  | .int i=>some (.int (if i < 0 then -i else i))
  | _=>none
def rAbs1:List V → Hp → VK → Prop:=fun xs H Q=>∃ i,xs = [.int i] ∧ Q (.int (if i < 0 then -i else i)) H
theorem calld_abs {K:PySem.W.Frag}:CallD K rAbs1 (f1 gAbs):=calld_read1 gAbs vOf (fun a d e F=>by
    unfold gAbs at e
    split at e
    · cases e; exact .int _
    · cases e) fun a d v H Q e h q=>by
  unfold gAbs at e
  split at e
  · cases e; cases h; exact ⟨_,rfl,q⟩
  · cases e
/-- lists of ints -/
def dInts:List D → Option (List Int)
  | []=>some []
  | .int i :: r=>(dInts r).map (i :: ·)
  | _ :: _=>none
theorem dInts_some:∀ {ds:List D} {ns:List Int},dInts ds = some ns → ds = ns.map .int
  | [],ns,e=>by cases e; rfl
  | .int i :: r,ns,e=>by
    unfold dInts at e
    cases e1:dInts r with
    | none=>rw [e1] at e; cases e
    | some ms=>rw [e1] at e; cases e; rw [dInts_some e1]; rfl
  | .none :: r,ns,e=>by cases e
  | .bool _ :: r,ns,e=>by cases e
  | .str _ :: r,ns,e=>by cases e
  | .list _ :: r,ns,e=>by cases e
  | .tuple _ :: r,ns,e=>by cases e
  | .dict _ :: r,ns,e=>by cases e
theorem ints_dp {K:PySem.W.Frag} {H:Hp}:∀ {ns:List Int} {vs:List V},DpAll K H vs (ns.map .int) → vs = ns.map V.int
  | [],_,h=>by cases h; rfl
  | n :: ns,_,h=>by
    cases h with
    | cons h1 h2=>cases h1; rw [ints_dp h2]; rfl
theorem dp_ints {K:PySem.W.Frag} {H:Hp}:∀ (ns:List Int),DpAll K H (ns.map V.int) (ns.map .int)
  | []=>.nil
  | n :: ns=>.cons (.int n) (dp_ints ns)
/-- sum of a list or tuple of ints -/
def rSumA (K:PySem.W.Frag):List V → Hp → VK → Prop:=fun vs H Q=>∃ (a:Addr) (ns:List Int),vs = [V.ref a] ∧ (SqL K H a (ns.map V.int) ∨ SqT K H a (ns.map V.int)) ∧ Q (.int ns.sum) H
def gSum:D → Option D
  | .list ds=>(dInts ds).map fun ns=>.int ns.sum
  | .tuple ds=>(dInts ds).map fun ns=>.int ns.sum
  | _=>none
theorem calld_sum {K:PySem.W.Frag}:CallD K (rSumA K) (f1 gSum):=calld_read1 gSum vOf (fun a d e F=>by
    unfold gSum at e
    split at e
    · rename_i ds; cases e1:dInts ds with
      | none=>rw [e1] at e; cases e
      | some ns=>rw [e1] at e; cases e; exact .int _
    · rename_i ds; cases e1:dInts ds with
      | none=>rw [e1] at e; cases e
      | some ns=>rw [e1] at e; cases e; exact .int _
    · cases e) fun a d v H Q e h q=>by
  unfold gSum at e
  split at e
  · rename_i ds
    cases e1:dInts ds with
    | none=>rw [e1] at e; cases e
    | some ns =>
      rw [e1] at e; cases e
      rw [dInts_some e1] at h
      cases h with
      | lst hs ha=>rw [ints_dp ha] at hs; exact ⟨_,_,rfl,.inl hs,q⟩
  · rename_i ds
    cases e1:dInts ds with
    | none=>rw [e1] at e; cases e
    | some ns =>
      rw [e1] at e; cases e
      rw [dInts_some e1] at h
      cases h with
      | tup hs ha=>rw [ints_dp ha] at hs; exact ⟨_,_,rfl,.inr hs,q⟩
  · cases e
/-- tuple(x), list(x) of a list or a tuple -/
def fTuple:List Rv → Option Rv:=fun xs=>match xs with
  | [x]=>(x.items.map fun ds=>.d (.tuple ds)).or (x.tup.map fun ds=>.d (.tuple ds))
  | _=>none
def rTupleOf (K:PySem.W.Frag):List V → Hp → VK → Prop:=fun xs H Q=>∃ p ys,xs = [.ref p] ∧ ((SqL K H p ys ∧ NewT H ys Q) ∨ (SqT K H p ys ∧ Q (.ref p) H))
omit [Tbs] in
theorem call_tupleN {X:Cx}:CallR X (.type "tuple") (rTupleOf X.K):=by
  intro pins s σ H xs us Q I r h
  obtain ⟨p,ys,rfl,h⟩:=h
  obtain ⟨u,rfl,rx⟩:=vals1 r
  cases rx
  rcases h with ⟨hq,q⟩ | ⟨hq,q⟩
  · obtain ⟨its,r',pl,hz⟩:=I.list hq
    have hlen:=r'.length
    refine call_tuple_list pl.isList (fun h' kp=>?_) (by simp only [List.size_toArray] <;> omega)
    have I1:L2.Inv X pins σ H { s with heap:=h' }:=I.kept (t':=s.toks) kp
    exact newT (s:=s) (h':=h') (t':=s.toks) I1 hz r' q
  · obtain ⟨its,r',pl,hz⟩:=I.tuple hq
    exact call_tuple_same pl ⟨.ref p,H,I,rfl,q⟩
theorem calld_tuple {K:PySem.W.Frag}:CallD K (rTupleOf K) fTuple:=by
  intro xs z vs As F H t Q e s k vx q
  match xs,vx with
  | [x],.cons h .nil =>
    simp only [fTuple] at e
    cases e1:x.items with
    | some ds =>
      simp [e1] at e
      subst e
      obtain ⟨p,ws,rfl,hs,a⟩:=h.items k e1
      refine ⟨p,ws,rfl,.inl ⟨hs,fun l o n ho=>?_⟩⟩
      obtain ⟨g,s'⟩:=alloc_tup (vs:=ws) s k n ho
      exact q _ _ _ g s' (Dp.tup sqN (DpAll.mono g.ff _ _ a)) trivial
    | none =>
      cases e2:x.tup with
      | none=>simp [e1,e2] at e
      | some ds =>
        simp [e1,e2] at e
        subst e
        obtain ⟨p,ws,rfl,hs,a⟩:=h.tup e2
        exact ⟨p,ws,rfl,.inr ⟨Same.seqT k hs,q F H _ (.refl k) s (Dp.tup hs a) trivial⟩⟩
def fList:List Rv → Option Rv:=fun xs=>match xs with
  | [x]=>(x.items.map fun ds=>.l ds).or (x.tup.map fun ds=>.l ds)
  | _=>none
def rListOf (K:PySem.W.Frag):List V → Hp → VK → Prop:=fun xs H Q=>∃ p ys,xs = [.ref p] ∧ (SqL K H p ys ∨ SqT K H p ys) ∧ ∀ l,H l = none → Q (.ref l) (upd H l (.lst ys))
theorem calld_list {K:PySem.W.Frag}:CallD K (rListOf K) fList:=by
  intro xs z vs As F H t Q e s k vx q
  match xs,vx with
  | [x],.cons h .nil =>
    have fin:∀ {ds:List D} {p:Addr} {ws:List V},DpAll K F ws ds → z = .l ds → ∀ l,H l = none → Q (.ref l) (upd H l (.lst ws)):=fun {ds p ws} a ez l n=>by
      obtain ⟨⟨g,s'⟩,_⟩:=alloc (o:=.lst ws) s k n
      subst ez
      exact q F _ _ g s' ⟨l,_,rfl,fun z=>s.ok.there l z n,k.free n,upd_same,a⟩ ⟨l,rfl,n⟩
    simp only [fList] at e
    cases e1:x.items with
    | some ds =>
      simp [e1] at e
      obtain ⟨p,ws,rfl,hs,a⟩:=h.items k e1
      exact ⟨p,ws,rfl,.inl hs,fin (p:=p) a e.symm⟩
    | none =>
      cases e2:x.tup with
      | none=>simp [e1,e2] at e
      | some ds =>
        simp [e1,e2] at e
        obtain ⟨p,ws,rfl,hs,a⟩:=h.tup e2
        exact ⟨p,ws,rfl,.inr (Same.seqT k hs),fin (p:=p) a e.symm⟩
/-- isinstance(x, T), T a built-in class by its name -/
def tyName:D → String
  | .none => "NoneType"
  | .bool _ => "bool"
  | .int _ => "int"
  | .str _ => "str"
  | .list _ => "list"
  | .tuple _ => "tuple"
  | .dict _ => "dict"
/-- a value's type: as the kit's, and a dict of ours without entries -/
def TyD (K:PySem.W.Frag) (H:Hp) (v:V) (t:Value):Prop:=TyX K H v t ∨ ∃ a:Addr,v = .ref a ∧ t = .type "dict" ∧ H a = some (DTO a [])
theorem kit_ofD {X:Cx} {pins:List (Addr × Obj)} {σ:L2.St} {H:Hp} {s:Shared} {x:V} {u t:Value} (I:L2.Inv X pins σ H s) (rx:RelV x u) (ty:TyD X.K H x t):∃ P:Heap → Prop,PySem.W.KitX X.K u t P ∧ P s.heap ∧ u ≠ .builtin "__main__.__loader__#opaque" := by
  rcases ty with ty | ⟨a,rfl,rfl,he⟩
  · exact kit_of I rx ty
  · cases (show u = Value.ref a from rx)
    obtain ⟨⟨_,_,xs,rl,q,cs,m,e1,e2,e3,e4,_⟩,_,_⟩:=(show ObjOk X.prog X.w H s.heap _ (DTO _ []) from I.hok _ _ he)
    exact ⟨_,PySem.W.kitx_dict,⟨q,e1,e2.1⟩,fun z=>nomatch z⟩
/-- isinstance(x, c), one class -/
def rIsiD (K:PySem.W.Frag):List V → Hp → VK → Prop:=fun xs H Q=>∃ (x c:V) (t u:Value) (b:Bool),xs = [x,c] ∧ ClsV c u ∧ TyD K H x t ∧ PySem.W.kitOne K t u = some b ∧ Q (.bl b) H
theorem call_isiD {X:Cx}:CallR X (.builtin "isinstance") (rIsiD X.K):=by
  intro pins s σ H xs us Q I r h
  obtain ⟨x,c,t,u,b,rfl,k,ty,e,q⟩:=h
  obtain ⟨u1,u2,rfl,r1,r2⟩:=vals2 r
  have e2:=k.eq r2
  subst e2
  obtain ⟨P,Z,p,hx⟩:=kit_ofD I r1 ty
  exact PySem.W.kia_one Z I.kIn p e hx fun tk=>⟨.bl b,H,I.tok tk,rfl,q⟩
theorem tyX_of {K:PySem.W.Frag} {H:Hp} {v:V} {d:D} (h:Dp K H v d):TyD K H v (.type (tyName d)):=by
  cases h with
  | non=>exact .inl (.base .non)
  | bl b=>exact .inl (.base (.bl b))
  | int i=>exact .inl (.base (.int i))
  | str x=>exact .inl (.base (.str x))
  | lst hs ha =>
    rcases hs with (e | ⟨o,e⟩) | ⟨o,its,n,e,c,_⟩
    · exact .inl (.base (.lst e))
    · exact .inl (.base (.frz e))
    · exact .inl (.kList e c)
  | tup hs ha =>
    rcases hs with (e | ⟨o,e⟩) | ⟨o,its,n,e,c,_⟩
    · exact .inl (.base (.tup e))
    · exact .inl (.fTuple e)
    · exact .inl (.kTuple e c)
  | dct e=>exact .inr ⟨_,rfl,rfl,e⟩
/-- what isinstance says, by the two names -/
def isiB (a b:String):Bool:=a == b || (a == "bool" && b == "int")
def isiOk (b:String):Bool:=b == "int" || b == "bool" || b == "str" || b == "tuple" || b == "list" || b == "dict"
theorem kit_isi (d:D) {b:String} (h:isiOk b = true):kitB (tyName d) b = some (isiB (tyName d) b):=by
  unfold isiOk at h
  simp only [Bool.or_eq_true,beq_iff_eq] at h
  rcases h with ((((rfl | rfl) | rfl) | rfl) | rfl) | rfl <;> cases d <;> (simp only [tyName]; decide +kernel)
def mIsi (T:String) (m:EM):EM:=fun G t=>(m G t).fz.bind fun x t=>.of (if isiOk T then x.toD.map fun d=>.d (.bool (isiB (tyName d) T)) else none) t
section
variable {X:Cx} {P:Pm} {a:Expr} {ma:EM} {pos p p2:Pos}
theorem se_isi {x:Str} {T:String} (hK:P.K = X.K) (ha:SE X P a ma) (hg:Gl X "isinstance") (hm:X.mg "isinstance" = none) (hgT:Gl X x) (hmT:X.mg x = none) (hvT:bootBuiltins x = some (.type T)) (hnT:x ≠ "__name__") (hdT:(x == ("__debug__" : Str)) = false)
    (h:PA X [a,.Name x p2] (tCons (teM P fun G t=>(ma G t).fz) (tCons (tC (.ty T)) tNil)) → PE X (.Call (.Name "isinstance" p) [a,.Name x p2] [] pos) (tCB (rIsiD X.K) (tCons (teM P fun G t=>(ma G t).fz) (tCons (tC (.ty T)) tNil))))
    (h2:PE X (.Name x p2) (tC (.ty T)) → PA X [a,.Name x p2] (tCons (teM P fun G t=>(ma G t).fz) (tCons (tC (.ty T)) tNil))) :
    SE X P (.Call (.Name "isinstance" p) [a,.Name x p2] [] pos) (mIsi T ma):=by
  have e0:PE X (.Name x p2) (tC (.ty T)):=pe_bltn hgT hmT hvT rfl hnT hdT
  refine L2.PE.imp (h (h2 e0)) fun σ H Q ⟨As,F,G,t,R,pp⟩=>⟨As,F,G,t,R,bindEE R pp fun As1 F1 H1 v1 r1 t1 _ g1 R1 x1 p1=>?_⟩
  by_cases ok:isiOk T = true
  · rw [if_pos ok] at p1
    cases e:r1.toD with
    | none=>rw [e] at p1; exact p1.elim
    | some d =>
      rw [e] at p1
      refine ⟨v1,.ty T,.type (tyName d),.type T,isiB (tyName d) T,rfl,?_,?_,kit_ty (kit_isi d ok),p1 As1 F1 H1 _ (.refl R1.sub) R1.st (.bl _) trivial⟩
      · exact .ty T
      · rw [← hK]; exact tyX_of (x1.weak R1.sub e)
  · rw [if_neg ok] at p1; exact p1.elim
end
end DL
end
section
namespace DL
open PySem PySem.Spec PyProof.Rows L2
variable [Tbs]
def SqK (K:PySem.W.Frag) (H:Hp) (k:Bool) (a:Addr) (xs:List V):Prop:=match k with
  | true=>SqL K H a xs
  | false=>SqT K H a xs
def ItK (h:Heap) (k:Bool) (it a:Addr) (i:Nat):Prop:=match k with
  | true=>h.IsListIter it a i
  | false=>h.IsTupleIter it a i
def IsK (h:Heap) (k:Bool) (a:Addr) (vs:Array Value):Prop:=match k with
  | true=>h.IsList a vs
  | false=>h.IsTuple a vs
theorem Inv.sq {X:Cx} {pins:List (Addr × Obj)} {σ:Sg} {H:Hp} {s:Shared} (I:Inv X pins σ H s) {k:Bool} {a:Addr} {xs:List V} (h:SqK X.K H k a xs):∃ its:List Value,Vals xs its ∧ IsK s.heap k a its.toArray ∧ xs.length ≤ sizeLine:=by
  cases k with
  | true=>obtain ⟨its,r,p,z⟩:=I.list h; exact ⟨its,r,p.isList,z⟩
  | false=>obtain ⟨its,r,p,z⟩:=I.tuple h; exact ⟨its,r,p,z⟩
theorem Inv.sq_inj {X:Cx} {pins:List (Addr × Obj)} {σ:Sg} {H:Hp} {s:Shared} (I:Inv X pins σ H s) {k:Bool} {a:Addr} {xs ys:List V} (h:SqK X.K H k a xs) (h':SqK X.K H k a ys):xs = ys:=by
  cases k with
  | true=>exact I.list_inj h h'
  | false=>exact I.tuple_inj h h'
theorem drawsK {prog:Program} {w:World} {A:Around} (hh:A.handled = none) (k:Bool) (it a:Addr) (hne:a ≠ it) (items:Array Value) :
    Draws prog w A it [it,a] items.size (fun i v=>items[i]? = some v) (fun i h=>ItK h k it a i ∧ IsK h k a items):=by
  cases k with
  | true=>exact .list hh it a hne items
  | false=>exact .tuple hh it a hne items
def itObj (k:Bool) (a:Addr):Obj:=match k with
  | true=>{ cls:=.type "list_iterator",data:=.fields #[.ref a,.int 0 0] }
  | false=>{ cls:=.type "tuple_iterator",data:=.fields #[.ref a,.int 0 0] }
theorem beginsK (k:Bool) (a:Addr) (items:Array Value):Begins (.ref a) (itObj k a) fun h=>IsK h k a items:=by
  cases k with
  | true=>exact begins_list a items
  | false=>exact begins_tuple a items
theorem itK_new {h:Heap} {k:Bool} {a it:Addr} (e:h.get? it = some (itObj k a)):ItK h k it a 0:=by
  cases k with
  | true=>exact ⟨_,e,rfl,rfl⟩
  | false=>exact ⟨_,e,rfl,rfl⟩
theorem ItK.at {h h':Heap} {k:Bool} {it a:Addr} {i:Nat} (x:ItK h k it a i) (q:∀ o,h.get? it = some o → h'.get? it = some o):ItK h' k it a i:=by
  cases k with
  | true=>obtain ⟨o,e,r⟩:=x; exact ⟨o,q o e,r⟩
  | false=>obtain ⟨o,e,r⟩:=x; exact ⟨o,q o e,r⟩
theorem ItK.obj {h:Heap} {k:Bool} {it a:Addr} {i:Nat} (x:ItK h k it a i):∃ o,h.get? it = some o ∧ ∀ v,o.data ≠ .cell v:=by
  cases k with
  | true=>obtain ⟨o,e,_,d⟩:=x; exact ⟨o,e,fun v q=>by rw [d] at q; cases q⟩
  | false=>obtain ⟨o,e,_,d⟩:=x; exact ⟨o,e,fun v q=>by rw [d] at q; cases q⟩
theorem SqK.lt {X:Cx} {pins:List (Addr × Obj)} {σ:Sg} {H:Hp} {s:Shared} (I:Inv X pins σ H s) {k:Bool} {a:Addr} {xs:List V} (h:SqK X.K H k a xs):a < s.heap.objs.size:=by
  obtain ⟨its,_,p,_⟩:=Inv.sq I h
  cases k with
  | true=>obtain ⟨o,e,_⟩:=p; exact Heap.lt_size e
  | false=>obtain ⟨o,e,_⟩:=p; exact Heap.lt_size e
theorem apartK {h:Heap} {k:Bool} {it a:Addr} {i:Nat} {vs:Array Value} (x:ItK h k it a i) (y:IsK h k a vs):a ≠ it:=fun e=>by
  subst e
  cases k with
  | true =>
    obtain ⟨o,e1,c1,_⟩:=x
    obtain ⟨o',e2,c2,_⟩:=y
    rw [e1] at e2; cases e2; rw [c1] at c2
    injection c2 with c2
    exact absurd c2 (by decide)
  | false =>
    obtain ⟨o,e1,c1,_⟩:=x
    obtain ⟨o',e2,c2,_⟩:=y
    rw [e1] at e2; cases e2; rw [c1] at c2
    injection c2 with c2
    exact absurd c2 (by decide)
/-- zip of two -/
def ItzM (K:PySem.W.Frag) (k l:Bool) (a b:Addr):It:=
  ⟨fun i H=>∃ (xs ys:List V) (x y:V),SqK K H k a xs ∧ SqK K H l b ys ∧ xs[i]? = some x ∧ ys[i]? = some y,
    fun i H v H'=>∃ T x y o,v = .ref T ∧ H T = none ∧ o.dict = none ∧ H' = upd H T (.frz o (.tup [x,y])) ∧ (∀ xs,SqK K H k a xs → xs[i]? = some x) ∧ ∀ ys,SqK K H l b ys → ys[i]? = some y,
    fun i H=>∃ xs ys:List V,SqK K H k a xs ∧ SqK K H l b ys ∧ i ≤ xs.length ∧ i ≤ ys.length ∧ (i = xs.length ∨ i = ys.length)⟩
theorem turn_zipM {P:Program} {w:World} {K:PySem.W.Frag} {elts:List Expr} {kk:Nat} {tpos:Pos} {k l:Bool} {a b z TI TO i1 i2:Addr} (S:ZipSep2 z TI TO i1 i2 [i1,a] [i2,b]) :
    Turn P w K (.Tuple elts kk tpos) (ItzM K k l a b) [z,TI,TO,i1,i2] z (fun i h=>IsZip h z TI TO .none ∧ IsTupOf2 h TI (.ref i1) (.ref i2) ∧ (∃ x y,IsTupOf2 h TO x y) ∧ ItK h k i1 a i ∧ ItK h l i2 b i) where
  mem:=List.mem_cons_self
  obj:=fun i h ⟨hz,hTI,⟨x,y,hTO⟩,h1,h2⟩ c hc=>by
    simp only [List.mem_cons,List.not_mem_nil,or_false] at hc
    rcases hc with q | q | q | q | q <;> subst q
    · exact ⟨_,hz,fun v q=>nomatch q⟩
    · exact ⟨_,hTI,fun v q=>nomatch q⟩
    · exact ⟨_,hTO,fun v q=>nomatch q⟩
    · exact h1.obj
    · exact h2.obj
  keep:=fun i h h' ⟨hz,hTI,⟨x,y,hTO⟩,h1,h2⟩ q=>⟨q z (by simp) _ hz,q TI (by simp) _ hTI,⟨x,y,q TO (by simp) _ hTO⟩,h1.at (q i1 (by simp)),h2.at (q i2 (by simp))⟩
  item:=by
    rintro X rfl rfl rfl hc i pins s σ H E I hf ⟨hz,hTI,⟨x0,y0,hTO⟩,h1,h2⟩ ⟨xs,ys,x,y,qx,qy,hx,hy⟩
    obtain ⟨us,rv,p1,_⟩:=Inv.sq I qx
    obtain ⟨ws,rw',p2,_⟩:=Inv.sq I qy
    have hh:X.A.in1.handled = none:=I.ok.hd hc
    have n1:a ≠ i1:=apartK h1 p1
    have n2:b ≠ i2:=apartK h2 p2
    have D1:=drawsK (prog:=X.prog) (w:=X.w) hh k i1 a n1 us.toArray
    have D2:=drawsK (prog:=X.prog) (w:=X.w) hh l i2 b n2 ws.toArray
    have lt1:i < us.toArray.size:=by
      have:=(List.getElem?_eq_some_iff.mp hx).1
      rw [List.size_toArray,← rv.length]; exact this
    have lt2:i < ws.toArray.size:=by
      have:=(List.getElem?_eq_some_iff.mp hy).1
      rw [List.size_toArray,← rw'.length]; exact this
    obtain ⟨ux,hux,rx⟩:=rv.get hx
    obtain ⟨uy,huy,ry⟩:=rw'.get hy
    have hzl:z < s.heap.objs.size:=Heap.lt_size hz
    refine wpAny_pyNext_zipD2_item S D1 D2 hz hTI hTO ⟨h1,p1⟩ ⟨h2,p2⟩ lt1 lt2 fun u1 u2 h' tk q1 q2 z' TO' st1 st2 hT hsz hk=>?_
    have e1:u1 = ux:=by
      have q1':us[i]? = some u1:=by simpa using q1
      rw [hux] at q1'; exact (Option.some.inj q1').symm
    have e2:u2 = uy:=by
      have q2':ws[i]? = some u2:=by simpa using q2
      rw [huy] at q2'; exact (Option.some.inj q2').symm
    subst e1 e2
    refine ⟨_,rfl,wpAny_letOwnedTupleGo_zip (s:={ s with heap:=h',toks:=tk }) z' fun h'' z'' sb=>?_⟩
    have up:∀ c o,c ≠ z → h'.get? c = some o → h''.get? c = some o:=fun c o n e=>(sb.2 c n).trans e
    have hT2:=up _ _ (Nat.ne_of_gt hzl) hT
    have new:ObjOk X.prog X.w (upd H s.heap.objs.size (.frz { cls:=.type "tuple",data:=.seq #[u1,u2] } (.tup [x,y]))) h'' s.heap.objs.size (.frz { cls:=.type "tuple",data:=.seq #[u1,u2] } (.tup [x,y])):=
      ⟨hT2,by show 2 ≤ sizeLine; decide,[u1,u2],.cons rx (.cons ry .nil),⟨_,hT2,rfl,_,rfl⟩⟩
    have I1:=I.turnedNew (t':=tk) (ch:=[z,TI,TO,i1,i2]) (h':=h'') (fun c o hb e=>by
      simp only [List.mem_cons,List.not_mem_nil,or_false,not_or] at hb
      exact up c o hb.1 (hk c o hb.1 hb.2.2.1 hb.2.2.2.1 hb.2.2.2.2 e)) hf (Nat.le_refl _) new
    refine ⟨.ref s.heap.objs.size,_,I1,rfl,⟨_,x,y,_,rfl,I.hok.fresh (Nat.le_refl _),rfl,rfl,fun ls hl=>by rw [Inv.sq_inj I hl qx]; exact hx,fun ls hl=>by rw [Inv.sq_inj I hl qy]; exact hy⟩,
      ⟨z'',up _ _ S.TIz (hk _ _ S.TIz S.TITO S.TIi1 S.TIi2 hTI),⟨u1,u2,up _ _ S.TOz TO'⟩,st1.1.at fun o e=>up _ _ (fun e'=>S.zi1 e'.symm) e,st2.1.at fun o e=>up _ _ (fun e'=>S.zi2 e'.symm) e⟩,fun c hcm=>?_⟩
    have cl:c < s.heap.objs.size:=by
      simp only [List.mem_cons,List.not_mem_nil,or_false] at hcm
      rcases hcm with q | q | q | q | q <;> subst q
      · exact hzl
      · exact Heap.lt_size hTI
      · exact Heap.lt_size hTO
      · obtain ⟨o,e,_⟩:=h1.obj; exact Heap.lt_size e
      · obtain ⟨o,e,_⟩:=h2.obj; exact Heap.lt_size e
    rw [upd_ne (Nat.ne_of_lt cl)]
    exact (hf c hcm).1
  done:=by
    rintro X rfl rfl rfl hc i pins s σ H E I hf ⟨hz,hTI,⟨x0,y0,hTO⟩,h1,h2⟩ ⟨xs,ys,qx,qy,le1,le2,hend⟩
    obtain ⟨us,rv,p1,_⟩:=Inv.sq I qx
    obtain ⟨ws,rw',p2,_⟩:=Inv.sq I qy
    have hh:X.A.in1.handled = none:=I.ok.hd hc
    have n1:a ≠ i1:=apartK h1 p1
    have n2:b ≠ i2:=apartK h2 p2
    have l1:=rv.length
    have l2:=rw'.length
    refine wpAny_pyNext_zipD2_end S (drawsK hh k i1 a n1 us.toArray) (drawsK hh l i2 b n2 ws.toArray) hz hTI hTO ⟨h1,p1⟩ ⟨h2,p2⟩ (by rw [List.size_toArray]; omega) (by rw [List.size_toArray]; omega) (by rw [List.size_toArray,List.size_toArray]; omega) fun h' tk hk=>⟨rfl,I.turnedL (ch:=[z,TI,TO,i1,i2]) (fun c o hb e=>?_) hf⟩
    simp only [List.mem_cons,List.not_mem_nil,or_false,not_or] at hb
    exact hk c o hb.1 hb.2.2.1 hb.2.2.2.1 hb.2.2.2.2 e
  self:=fun A i s Q E st h=>wpAny_pyIter_zip st.1 h
def iZipM (K:PySem.W.Frag) (ta:TA):TI:=fun σ H R=>ta σ H fun vs H1=>∃ k l a b xs ys,vs = [.ref a,.ref b] ∧ SqK K H1 k a xs ∧ SqK K H1 l b ys ∧ R (ItzM K k l a b) H1
theorem pi_zipM {X:Cx} {e e2:Expr} {ta:TA} {p pos tpos:Pos} {elts:List Expr} {kk:Nat} (hg:Gl X "zip") (hm:X.mg "zip" = none) (ha:PA X [e,e2] ta)
    (hs:starEach [e,e2] X.env = (false,eval e X.env) :: starEach [e2] X.env) (hpl:(backTo pos (starEach [e2] X.env)).any (·.1) = false) :
    PI X (.Tuple elts kk tpos) (.Call (.Name "zip" p) [e,e2] [] pos) (iZipM X.K ta):=by
  refine ⟨fun pins s σ H R I h=>Call_ (ld_blt I hg hm PyProof.Rows.boot_zip (PyProof.Rows.callWith_type1 (thn (ha.run pos pins s σ H _ I h) fun us s1 hh=>?_) hs hpl))⟩
  obtain ⟨vs,H1,I1,r1,k,l,a,b,xs,ys,ev,qx,qy,q⟩:=hh
  subst ev
  cases r1 with
  | cons r rr =>
    cases rr with
    | cons r' rr =>
      cases rr
      cases r
      cases r'
      obtain ⟨ux,rv,p1,_⟩:=Inv.sq I1 qx
      obtain ⟨uy,rw',p2,_⟩:=Inv.sq I1 qy
      have la:=SqK.lt I1 qx
      have lb:=SqK.lt I1 qy
      refine zip_begins2 (beginsK k a ux.toArray) (beginsK l b uy.toArray) p1 p2 fun h' hz hTI hTO h1 h2 hsz hk=>wpAny_pyIter_zip hz ?_
      refine ⟨s1.heap.objs.size + 4,[s1.heap.objs.size + 4,s1.heap.objs.size + 2,s1.heap.objs.size + 3,s1.heap.objs.size,s1.heap.objs.size + 1],_,_,H1,rfl,I1.kept (t':=s1.toks) hk,
        turn_zipM (k:=k) (l:=l) (zip_sep2 (fp1:=[a]) (fp2:=[b]) (fun c hc=>by simp at hc; subst hc; exact la) (fun c hc=>by simp at hc; subst hc; exact lb)),⟨hz,hTI,⟨_,_,hTO⟩,itK_new h1,itK_new h2⟩,fun c hc=>?_,q⟩
      have hle:s1.heap.objs.size ≤ c:=by
        simp only [List.mem_cons,List.not_mem_nil,or_false] at hc
        rcases hc with z | z | z | z | z <;> subst z <;> first | exact Nat.le_add_right _ _ | exact Nat.le_refl _
      exact I1.fpOk hle (I1.hok.fresh hle)
/-- enumerate of one -/
def IteM (K:PySem.W.Frag) (k:Bool) (a:Addr):It:=
  ⟨fun i H=>∃ (xs:List V) (x:V),SqK K H k a xs ∧ xs[i]? = some x,
    fun i H v H'=>∃ T x o,v = .ref T ∧ H T = none ∧ o.dict = none ∧ H' = upd H T (.frz o (.tup [.int (i:Nat),x])) ∧ ∀ xs,SqK K H k a xs → xs[i]? = some x,
    fun i H=>∃ xs:List V,SqK K H k a xs ∧ i = xs.length⟩
end DL
end
section
namespace DL
open PySem PySem.Spec PyProof.Rows L2
variable [Tbs]
def Walks (K:PySem.W.Frag) (J:It) (items:List D) (F:Hp):Prop:=∀ (F2 H2:Hp) (As:List Addr) (t:Option DS),Same F F2 → Same F2 H2 → StF As t F2 H2 → ∀ i:Nat,
  (∀ d,items[i]? = some d → J.go i H2 ∧ ∀ x H3,J.yld i H2 x H3 → ∃ F3,Grow As F2 H2 As F3 H3 ∧ StF As t F3 H3 ∧ Dp K F3 x d) ∧ (i = items.length → J.stop i H2)
theorem walks_list {K:PySem.W.Frag} {a:Addr} {vs:List V} {ds:List D} {F:Hp} (h:SqL K F a vs) (ha:DpAll K F vs ds):Walks K (Itl K a) ds F:=by
  intro F2 H2 As t k1 k2 s i
  have h2:SqL K H2 a vs:=(k1.trans k2).seq h
  refine ⟨fun d e=>?_,fun e=>⟨vs,h2,by rw [ha.length]; omega⟩⟩
  obtain ⟨v,e1,hd⟩:=ha.get e
  refine ⟨⟨vs,v,h2,e1⟩,fun x H3 y=>?_⟩
  obtain ⟨rfl,y⟩:=y
  have:=y vs h2
  rw [e1] at this
  cases this
  exact ⟨F2,.refl k2,s,Dp.mono k1 _ _ hd⟩
theorem walks_tup {K:PySem.W.Frag} {a:Addr} {vs:List V} {ds:List D} {F:Hp} (h:SqT K F a vs) (ha:DpAll K F vs ds):Walks K (Itt K a) ds F:=by
  intro F2 H2 As t k1 k2 s i
  have h2:SqT K H2 a vs:=Same.seqT (k1.trans k2) h
  refine ⟨fun d e=>?_,fun e=>⟨vs,h2,by rw [ha.length]; omega⟩⟩
  obtain ⟨v,e1,hd⟩:=ha.get e
  refine ⟨⟨vs,v,h2,e1⟩,fun x H3 y=>?_⟩
  obtain ⟨rfl,y⟩:=y
  have:=y vs h2
  rw [e1] at this
  cases this
  exact ⟨F2,.refl k2,s,Dp.mono k1 _ _ hd⟩
def rangeD (lo:Int) (n:Nat):List D:=(List.range n).map fun (i:Nat)=>.int (lo + (i:Int))
theorem walks_range {K:PySem.W.Frag} {lo:Int} {n:Nat} {F:Hp}:Walks K (Itr lo n) (rangeD lo n) F:=by
  intro F2 H2 As t k1 k2 s i
  refine ⟨fun d e=>?_,fun e=>by unfold rangeD at e; simp at e; exact Nat.le_of_eq e.symm⟩
  unfold rangeD at e
  simp only [List.getElem?_map,Option.map_eq_some_iff] at e
  obtain ⟨j,e1,e2⟩:=e
  obtain ⟨hlt,e3⟩:=List.getElem?_eq_some_iff.mp e1
  simp at hlt e3
  subst e3
  refine ⟨hlt,fun x H3 y=>?_⟩
  obtain ⟨rfl,rfl⟩:=y
  exact ⟨F2,.refl k2,s,by rw [← e2]; exact .int _⟩
def zipD:List D → List D → List D
  | x :: xs,y :: ys=>.tuple [x,y] :: zipD xs ys
  | _,_=>[]
theorem zipD_get:∀ {xs ys:List D} {i:Nat} {d:D},(zipD xs ys)[i]? = some d → ∃ x y,xs[i]? = some x ∧ ys[i]? = some y ∧ d = .tuple [x,y]
  | [],_,_,_,e=>by simp [zipD] at e
  | _ :: _,[],_,_,e=>by simp [zipD] at e
  | x :: xs,y :: ys,0,d,e=>by simp [zipD] at e; exact ⟨x,y,rfl,rfl,e.symm⟩
  | x :: xs,y :: ys,i + 1,d,e=>by
    obtain ⟨x',y',e1,e2,e3⟩:=zipD_get (xs:=xs) (ys:=ys) (i:=i) (by simpa [zipD] using e)
    exact ⟨x',y',by simpa using e1,by simpa using e2,e3⟩
theorem zipD_length:∀ (xs ys:List D),(zipD xs ys).length = min xs.length ys.length
  | [],_=>by simp [zipD]
  | _ :: _,[]=>by simp [zipD]
  | x :: xs,y :: ys=>by simp [zipD,zipD_length xs ys]
theorem SqK.mono {K:PySem.W.Frag} {H H':Hp} {k:Bool} {a:Addr} {xs:List V} (q:Same H H') (h:SqK K H k a xs):SqK K H' k a xs:=by
  cases k with
  | true=>exact q.seq h
  | false=>exact Same.seqT q h
theorem walks_zip {K:PySem.W.Frag} {k l:Bool} {a b:Addr} {vs ws:List V} {ds es:List D} {F:Hp} (h:SqK K F k a vs) (h':SqK K F l b ws) (ha:DpAll K F vs ds) (hb:DpAll K F ws es):Walks K (ItzM K k l a b) (zipD ds es) F:=by
  intro F2 H2 As t k1 k2 s i
  have q1:SqK K H2 k a vs:=h.mono (k1.trans k2)
  have q2:SqK K H2 l b ws:=h'.mono (k1.trans k2)
  refine ⟨fun d e=>?_,fun e=>⟨vs,ws,q1,q2,?_⟩⟩
  · obtain ⟨x,y,e1,e2,rfl⟩:=zipD_get e
    obtain ⟨v,e3,hd⟩:=ha.get e1
    obtain ⟨w,e4,he⟩:=hb.get e2
    refine ⟨⟨vs,ws,v,w,q1,q2,e3,e4⟩,fun z H3 yy=>?_⟩
    obtain ⟨T,x1,y1,o,rfl,n,ho,rfl,f1,f2⟩:=yy
    have z1:=f1 vs q1
    have z2:=f2 ws q2
    rw [e3] at z1; cases z1
    rw [e4] at z2; cases z2
    obtain ⟨g,s'⟩:=alloc_tup (vs:=[v,w]) s k2 n ho
    exact ⟨_,g,s',Dp.tup sqN (.cons (Dp.mono (k1.trans g.ff) _ _ hd) (.cons (Dp.mono (k1.trans g.ff) _ _ he) .nil))⟩
  · rw [zipD_length] at e
    rw [ha.length,hb.length]
    omega
abbrev IM:=Gm → Option DS → Rs (List D)
def PostI (P:Pm) (As:List Addr) (F H:Hp) (σ:Sg) (R:It → Hp → Prop):Rs (List D) → Prop
  | .ok items t=>∀ As' F' H' J,Grow As F H As' F' H' → StF As' t F' H' → Walks P.K J items F' → R J H'
  | .ex c fs t=>PostX P As F H σ c fs t
  | .stuck=>False
def tiM (P:Pm) (m:IM):TI:=fun σ H R=>∃ As F G t,Rel P.K P.xi As F G t σ H ∧ PostI P As F H σ R (m G t)
theorem PostI.re {P:Pm} {As As1:List Addr} {F F1 H H1:Hp} {σ:Sg} {R:It → Hp → Prop} {r:Rs (List D)} (g:Grow As F H As1 F1 H1) (h:PostI P As F H σ R r):PostI P As1 F1 H1 σ R r:=by
  cases r with
  | ok r t=>exact fun As' F' H' J g' s x=>h As' F' H' J (g.trans g') s x
  | ex c fs t=>exact PostX.re g h
  | stuck=>exact h
instance instI:Ends' (List D):=⟨It → Hp → Prop,PostI,PostI.re,fun h=>h,fun h=>h⟩
theorem bindEI {P:Pm} {As:List Addr} {F H:Hp} {G:Gm} {t:Option DS} {σ:Sg} {m:Rs Rv} {f:Rv → Option DS → Rs (List D)} {Q:It → Hp → Prop} {Q1:VK} (R:Rel P.K P.xi As F G t σ H) (h:PostI P As F H σ Q (m.bind f))
    (h2:∀ As1 F1 H1 v1 r1 t1,m = .ok r1 t1 → Grow As F H As1 F1 H1 → Rel P.K P.xi As1 F1 G t1 σ H1 → VOk P.K As1 F1 H1 v1 r1 → PostI P As1 F1 H1 σ Q (f r1 t1) → Q1 v1 H1):PostE P As F H σ Q1 m:=
  bindE (E:=instI) (Q:=Q) R h h2
def SI (X:Cx) (P:Pm) (tg iter:Expr) (m:IM):Prop:=PI X tg iter (tiM P m)
theorem _root_.L2.PI.imp {X:Cx} {tg e:Expr} {t t':TI} (h:PI X tg e t) (hi:∀ σ H Q,t' σ H Q → t σ H Q):PI X tg e t':=⟨fun pins s σ H Q I q=>h.run pins s σ H Q I (hi _ _ _ q)⟩
/-- a list or a tuple, by its value -/
def iSeq (K:PySem.W.Frag) (te:TE):TI:=fun σ H R=>te σ H fun x H1=>∃ a,x = .ref a ∧ (((∃ xs,SqL K H1 a xs) ∧ R (Itl K a) H1) ∨ ((∃ xs,SqT K H1 a xs) ∧ R (Itt K a) H1))
theorem pi_seq {X:Cx} {tg e:Expr} {te:TE} (he:PE X e te):PI X tg e (iSeq X.K te):=by
  refine ⟨fun pins s σ H R I h=>thn (he.run pins s σ H _ I h) fun u s1 hh=>?_⟩
  obtain ⟨x,H1,I1,r1,a,ex,h1⟩:=hh
  subst ex
  cases r1
  have new:∀ {o:Obj},Inv X pins σ H1 { s1 with heap:=s1.heap.push o }:=I1.kept (t':=s1.toks) fun b ob e=>Heap.get?_push_of_some _ e
  have fp:∀ b ∈ [s1.heap.objs.size],FpOk X pins H1 b:=fun b hb=>by
    rw [List.mem_singleton] at hb
    subst hb
    exact I1.fpOk (Nat.le_refl _) (I1.hok.fresh (Nat.le_refl _))
  rcases h1 with ⟨⟨xs,hq⟩,q⟩ | ⟨⟨xs,hq⟩,q⟩
  · obtain ⟨its,rv,p,_⟩:=I1.list hq
    exact wpAny_pyIter_list p.isList ⟨_,[s1.heap.objs.size],_,_,H1,rfl,new,turn_list a _,⟨_,Heap.get?_push_size _ rfl,rfl,rfl⟩,fp,q⟩
  · obtain ⟨its,rv,p,_⟩:=I1.tuple hq
    exact wpAny_pyIter_tuple (show s1.heap.IsTuple a its.toArray from p) ⟨_,[s1.heap.objs.size],_,_,H1,rfl,new,turn_tuple a _,⟨_,Heap.get?_push_size _ rfl,rfl,rfl⟩,fp,q⟩
/-- the sequence that a frozen value is -/
def Rv.seq:Rv → Option (List D)
  | .d (.list xs)=>some xs
  | .d (.tuple xs)=>some xs
  | _=>none
theorem VOk.seq {K:PySem.W.Frag} {As:List Addr} {F H:Hp} {v:V} {r:Rv} {xs:List D} (h:VOk K As F H v r) (e:r.seq = some xs):∃ k p vs,v = .ref p ∧ SqK K F k p vs ∧ DpAll K F vs xs:=by
  cases r with
  | d y =>
    cases y with
    | list ys =>
      cases e
      cases h with
      | lst hs ha=>exact ⟨true,_,_,rfl,hs,ha⟩
    | tuple ys =>
      cases e
      cases h with
      | tup hs ha=>exact ⟨false,_,_,rfl,hs,ha⟩
    | _=>cases e
  | _=>cases e
def mSeq (m:EM):IM:=fun G t=>(m G t).fz.bind fun r t=>.of r.seq t
section
variable {X:Cx} {P:Pm} {tg e a b:Expr} {m ma mb:EM} {pos p:Pos}
theorem si_seq (hK:P.K = X.K) (h:SE X P e m):SI X P tg e (mSeq m):=by
  refine L2.PI.imp (pi_seq h.fz) fun σ H Q ⟨As,F,G,t,R,pp⟩=>⟨As,F,G,t,R,bindEI R pp fun As1 F1 H1 v1 r1 t1 _ g1 R1 x1 p1=>?_⟩
  cases e1:r1.seq with
  | none=>rw [e1] at p1; exact p1.elim
  | some xs =>
    rw [e1] at p1
    obtain ⟨k,p,vs,rfl,hs,ha⟩:=x1.seq e1
    rw [← hK]
    cases k with
    | true=>exact ⟨p,rfl,.inl ⟨⟨vs,R1.sub.seq hs⟩,p1 As1 F1 H1 _ (.refl R1.sub) R1.st (walks_list hs ha)⟩⟩
    | false=>exact ⟨p,rfl,.inr ⟨⟨vs,Same.seqT R1.sub hs⟩,p1 As1 F1 H1 _ (.refl R1.sub) R1.st (walks_tup hs ha)⟩⟩
def rngOk (i:Int):Bool:=decide (-(2 ^ 62) ≤ i) && decide (i < 2 ^ 62)
theorem rngOk_of {i:Int} (h:rngOk i = true):-(2 ^ 62) ≤ i ∧ i < 2 ^ 62:=by
  unfold rngOk at h
  rw [Bool.and_eq_true] at h
  exact ⟨of_decide_eq_true h.1,of_decide_eq_true h.2⟩
def rng1:Rv → Option (List D)
  | .d (.int j)=>if rngOk j then some (rangeD 0 j.toNat) else none
  | _=>none
def mRange1 (m:EM):IM:=fun G t=>(m G t).fz.bind fun r t=>.of (rng1 r) t
theorem si_range1 (hg:Gl X "range") (hm:X.mg "range" = none) (ha:SE X P a ma) (hs:starEach [a] X.env = [(false,eval a X.env)]):SI X P tg (.Call (.Name "range" p) [a] [] pos) (mRange1 ma):=by
  refine L2.PI.imp (pi_range1 hg hm (pa_cons ha.fz pa_nil hs) hs) fun σ H Q ⟨As,F,G,t,R,pp⟩=>⟨As,F,G,t,R,bindEI R pp fun As1 F1 H1 v1 r1 t1 er g1 R1 x1 p1=>?_⟩
  unfold rng1 at p1
  split at p1
  · rename_i j
    split at p1
    · rename_i hj
      cases x1
      obtain ⟨b1,b2⟩:=rngOk_of hj
      exact ⟨j,rfl,b1,b2,p1 As1 F1 H1 _ (.refl R1.sub) R1.st walks_range⟩
    · exact p1.elim
  · exact p1.elim
def rng2:Rv → Rv → Option (List D)
  | .d (.int i),.d (.int j)=>if rngOk i && rngOk j then some (rangeD i (j - i).toNat) else none
  | _,_=>none
def mRange2 (m m':EM):IM:=fun G t=>(m G t).fz.bind fun r t=>(m' G t).fz.bind fun r' t=>.of (rng2 r r') t
def mZip (m m':EM):IM:=fun G t=>(m G t).fz.bind fun r t=>(m' G t).fz.bind fun r' t=>.of (r.seq.bind fun xs=>r'.seq.map fun ys=>zipD xs ys) t
theorem si_zip {elts:List Expr} {kk:Nat} {tpos:Pos} (hK:P.K = X.K) (hg:Gl X "zip") (hm:X.mg "zip" = none) (ha:SE X P a ma) (hb:SE X P b mb) (hs:starEach [a,b] X.env = [(false,eval a X.env),(false,eval b X.env)]) (hs2:starEach [b] X.env = [(false,eval b X.env)])
    (hpl:(backTo pos (starEach [b] X.env)).any (·.1) = false):SI X P (.Tuple elts kk tpos) (.Call (.Name "zip" p) [a,b] [] pos) (mZip ma mb):=by
  refine L2.PI.imp (pi_zipM hg hm (pa_cons ha.fz (pa_cons hb.fz pa_nil hs2) (by rw [hs,hs2])) (by rw [hs,hs2]) hpl) fun σ H Q ⟨As,F,G,t,R,pp⟩=>⟨As,F,G,t,R,bindEI R pp fun As1 F1 H1 v1 r1 t1 er g1 R1 x1 p1=>⟨As1,F1,G,t1,R1,bindEI R1 p1 fun As2 F2 H2 v2 r2 t2 _ g2 R2 x2 p2=>?_⟩⟩
  have x1':=x1.mono g2
  cases e1:r1.seq with
  | none=>rw [e1] at p2; exact p2.elim
  | some xs =>
    cases e2:r2.seq with
    | none=>rw [e1,e2] at p2; exact p2.elim
    | some ys =>
      rw [e1,e2] at p2
      obtain ⟨k,q,vs,rfl,hs,ha⟩:=x1'.seq e1
      obtain ⟨l,q',ws,rfl,hs',hb⟩:=x2.seq e2
      rw [← hK]
      exact ⟨k,l,q,q',vs,ws,rfl,hs.mono R2.sub,hs'.mono R2.sub,p2 As2 F2 H2 _ (.refl R2.sub) R2.st (walks_zip hs hs' ha hb)⟩
end
inductive Pt where
  | nm (i:Nat) | tup (ps:List Nat)
def setAll:List Nat → List D → Gm → Option Gm
  | [],[],G=>some G
  | i :: is,x :: xs,G=>if i < G.length then setAll is xs (G.set i (.d x)) else none
  | _,_,_=>none
def asg:Pt → D → Gm → Option Gm
  | .nm i,x,G=>setAll [i] [x] G
  | .tup is,.tuple xs,G=>setAll is xs G
  | .tup _,_,_=>none
def Pt.ix:Pt → List Nat
  | .nm i=>[i]
  | .tup is=>is
theorem Rel.set {K:PySem.W.Frag} {xi:XI} {As:List Addr} {F:Hp} {G:Gm} {t:Option DS} {σ:Sg} {H:Hp} (R:Rel K xi As F G t σ H) {i:Nat} {x:D} {v:V} (hi:i < G.length) (hd:Dp K F v x):Rel K xi As F (G.set i (.d x)) t (σ.set i (some v)) H:=by
  refine ⟨R.sub,R.st,by simp [R.len],fun j s e=>?_,fun j k xs ys w n e1 e2 e3 e4=>?_⟩
  · by_cases hj:j = i
    · subst hj
      rw [List.getElem?_set_self hi] at e
      cases e
      exact ⟨v,by rw [List.getElem?_set_self (by rw [← R.len]; exact hi)],hd⟩
    · rw [List.getElem?_set_ne (Ne.symm hj)] at e
      rw [List.getElem?_set_ne (Ne.symm hj)]
      exact R.slot j s e
  · have nj:j ≠ i:=fun q=>by subst q; rw [List.getElem?_set_self hi] at e1; cases e1
    have nk:k ≠ i:=fun q=>by subst q; rw [List.getElem?_set_self hi] at e2; cases e2
    rw [List.getElem?_set_ne (Ne.symm nj)] at e1 e3
    rw [List.getElem?_set_ne (Ne.symm nk)] at e2 e4
    exact R.inj j k xs ys w n e1 e2 e3 e4
/-- behind a target -/
def After (is:List Nat) (σ σ':Sg):Prop:=σ'.length = σ.length ∧ ∀ j,j ∉ is → σ'[j]? = σ[j]?
theorem After.refl (is:List Nat) (σ:Sg):After is σ σ:=⟨rfl,fun _ _=>rfl⟩
theorem After.wipe:∀ {vs is:List Nat} {σ σ':Sg},After is (L2.wipe σ vs) σ' → (∀ i ∈ is,i ∈ vs) → L2.wipe σ' vs = L2.wipe σ vs:=by
  intro vs is σ σ' h hs
  have key:∀ (ws:List Nat) (τ:Sg) (j:Nat),(L2.wipe τ ws)[j]? = if j ∈ ws then (if j < τ.length then some none else none) else τ[j]?:=by
    intro ws
    induction ws with
    | nil=>intro τ j; simp [L2.wipe]
    | cons w ws ih =>
      intro τ j
      unfold L2.wipe
      by_cases hj:w = j
      · subst hj
        by_cases hl:w < τ.length
        · rw [List.getElem?_set_self (by rw [wipe_length]; exact hl)]
          simp [hl]
        · rw [List.getElem?_eq_none (by simp [wipe_length]; omega)]
          simp [hl]
      · rw [List.getElem?_set_ne hj,ih]
        have:(j ∈ w :: ws) = (j ∈ ws):=by simp [Ne.symm hj]
        simp only [this]
  apply List.ext_getElem?
  intro j
  rw [key,key]
  have hl:σ'.length = σ.length:=by rw [h.1,wipe_length]
  by_cases hj:j ∈ vs
  · simp [hj,hl]
  · have:=h.2 j (fun z=>hj (hs j z))
    rw [key] at this
    simp [hj] at this ⊢
    exact this
def tgM (P:Pm) (is:List Nat) (pt:Pt):TG:=fun v σ H Q=>∃ As F G t x G',Rel P.K P.xi As F G t σ H ∧ Dp P.K F v x ∧ asg pt x G = some G' ∧ ∀ σ',Rel P.K P.xi As F G' t σ' H → After is σ σ' → Q σ' H
/-- names one after another -/
theorem tgs_ok {P:Pm} {As:List Addr} {F:Hp} {t:Option DS} {H:Hp}:∀ {is:List Nat} {xs:List D} {vs:List V} {G G':Gm} {σ:Sg},Rel P.K P.xi As F G t σ H → DpAll P.K F vs xs → setAll is xs G = some G' →
    ∃ σ',(∀ Q:Sg → Hp → Prop,Q σ' H → (is.foldr (fun i u=>gCons (gName i) u) gNil) vs σ H Q) ∧ Rel P.K P.xi As F G' t σ' H ∧ After is σ σ'
  | [],[],vs,G,G',σ,R,a,e=>by
    cases e; cases a
    exact ⟨σ,fun Q q=>⟨rfl,q⟩,R,.refl _ _⟩
  | i :: is,x :: xs,vs,G,G',σ,R,a,e=>by
    unfold setAll at e
    split at e
    · rename_i hi
      cases a with
      | cons h1 h2 =>
        obtain ⟨σ',hq,R',af⟩:=tgs_ok (R.set hi h1) h2 e
        refine ⟨σ',fun Q q=>⟨_,_,rfl,hq Q q⟩,R',by rw [af.1]; simp,fun j hj=>?_⟩
        rw [af.2 j (fun z=>hj (List.mem_cons_of_mem _ z)),List.getElem?_set_ne (fun z=>hj (by rw [z]; exact List.mem_cons_self))]
    · cases e
  | [],_ :: _,_,_,_,_,_,_,e=>by cases e
  | _ :: _,[],_,_,_,_,_,_,e=>by cases e
section
variable {X:Cx} {P:Pm} {pos:Pos}
def SG (X:Cx) (P:Pm) (tg:Expr) (pt:Pt):Prop:=PG X tg (tgM P pt.ix pt)
theorem _root_.L2.PG.imp {e:Expr} {t t':TG} (h:PG X e t) (hi:∀ v σ H Q,t' v σ H Q → t v σ H Q):PG X e t':=⟨fun pins s σ H v u Q I r q=>h.run pins s σ H v u Q I r (hi _ _ _ _ q)⟩
theorem sg_name {i:Nat} {x:Str} (hN:X.N.Nodup) (hi:X.N[i]? = some x) (hx:Loc X.env.scope x) (hf:X.fn x = true ∨ X.env.scope.names.lookup x = some .local):SG X P (.Name x pos) (.nm i):=by
  refine L2.PG.imp (pg_name hN hi hx hf) fun v σ H Q ⟨As,F,G,t,x,G',R,hd,e,q⟩=>?_
  obtain ⟨σ',hq,R',af⟩:=tgs_ok (P:=P) (is:=[i]) R (DpAll.one hd) e
  obtain ⟨v',r,ev,_,h3,_⟩:=hq (fun s' h'=>s' = σ' ∧ h' = H) ⟨rfl,rfl⟩
  cases ev
  show Q (σ.set i (some v)) H
  rw [h3]
  exact q σ' R' af
inductive Nms (X:Cx):List Expr → List Nat → Prop
  | nil:Nms X [] []
  | cons {i:Nat} {x:Str} {p:Pos} {es:List Expr} {is:List Nat} (hi:X.N[i]? = some x) (hx:Loc X.env.scope x) (hf:X.fn x = true ∨ X.env.scope.names.lookup x = some .local) (r:Nms X es is):Nms X (.Name x p :: es) (i :: is)
theorem pgs_nms (hN:X.N.Nodup):∀ {es:List Expr} {is:List Nat},Nms X es is → PGs X es (is.foldr (fun i u=>gCons (gName i) u) gNil)
  | _,_,.nil=>pgs_nil
  | _,_,.cons hi hx hf r=>pgs_cons (pg_name hN hi hx hf) (pgs_nms hN r) rfl
theorem assign_nms:∀ {es:List Expr} {is:List Nat},Nms X es is → (assignEach es X.env).findIdx? (·.1) = none ∧ (assignEach es X.env).length = is.length
  | _,_,.nil=>⟨rfl,rfl⟩
  | _,_,@Nms.cons _ i x p es is hi hx hf r=>by
    obtain ⟨h1,h2⟩:=assign_nms r
    have e:assignEach (.Name x p :: es) X.env = (false,assign (.Name x p) X.env) :: assignEach es X.env:=rfl
    rw [e]
    refine ⟨?_,by simp [h2]⟩
    rw [List.findIdx?_cons]
    simp [h1]
theorem setAll_len:∀ {is:List Nat} {xs:List D} {G G':Gm},setAll is xs G = some G' → is.length = xs.length
  | [],[],_,_,_=>rfl
  | i :: is,x :: xs,G,G',e=>by
    unfold setAll at e
    split at e
    · simp [setAll_len e]
    · cases e
  | [],_ :: _,_,_,e=>by cases e
  | _ :: _,[],_,_,e=>by cases e
theorem sg_tup {es:List Expr} {is:List Nat} {k:Nat} (hK:P.K = X.K) (hc:X.calm = true) (hN:X.N.Nodup) (h:Nms X es is):SG X P (.Tuple es k pos) (.tup is):=by
  obtain ⟨hf,hl⟩:=assign_nms h
  refine L2.PG.imp (pg_tup hc (pgs_nms hN h) rfl hf) fun v σ H Q ⟨As,F,G,t,x,G',R,hd,e,q⟩=>?_
  cases x with
  | tuple xs =>
    cases hd with
    | tup hs ha =>
      obtain ⟨σ',hq,R',af⟩:=tgs_ok (P:=P) R ha e
      refine ⟨_,_,rfl,by rw [← hK]; exact Same.seqT R.sub hs,?_,hq Q (q σ' R' af)⟩
      rw [ha.length,hl,setAll_len e]
  | _=>cases e
end
end DL
end
section
namespace DL
open PySem PySem.Spec PyProof.Rows L2
variable [Tbs]
inductive So where
  | nx (G:Gm) (t:Option DS) | rt (x:D) (t:Option DS) | rl (xs:List D) (t:Option DS) | ra (k:Nat) (t:Option DS) | bk (G:Gm) (t:Option DS) | ct (G:Gm) (t:Option DS)
  | ex (c:Str) (fs:List (Str × D)) (G:Gm) (t:Option DS) | stuck
abbrev SM:=Gm → Option DS → So
def Rs.bindS {α:Type}:Rs α → Gm → (α → Option DS → So) → So
  | .ok a t,_,f=>f a t
  | .ex c fs t,G,_=>.ex c fs G t
  | .stuck,_,_=>.stuck
/-- a def's entry: what stood there -/
structure Bs where
  As:List Addr
  F:Hp
  H:Hp
  lk:List (Nat × Addr × Obj × HO)
structure RelS (P:Pm) (B:Bs) (As:List Addr) (F:Hp) (G:Gm) (t:Option DS) (σ:Sg) (H:Hp):Prop where
  rel:Rel P.K P.xi As F G t σ H
  gr:Grow B.As B.F B.H As F H
  own:∀ (i:Nat) xs p,G[i]? = some (.l xs) → σ[i]? = some (some (.ref p)) → B.H p = none
  lk:∀ q ∈ B.lk,sa As q.1 = some q.2.1 ∧ H q.2.1 = some (.frz q.2.2.1 q.2.2.2)
theorem RelS.mono {P:Pm} {B:Bs} {As As':List Addr} {F F' H H':Hp} {G:Gm} {t t':Option DS} {σ:Sg} (R:RelS P B As F G t σ H) (g:Grow As F H As' F' H') (s:StF As' t' F' H'):RelS P B As' F' G t' σ H':=
  ⟨R.rel.mono g s,R.gr.trans g,R.own,fun q hq=>⟨g.sa (R.lk q hq).1,g.ll _ _ _ (R.lk q hq).2⟩⟩
def PostS (P:Pm) (B:Bs) (F:Hp) (D:Ends):So → Prop
  | .nx G t=>∀ As' F' σ' H',RelS P B As' F' G t σ' H' → Same F F' → D.nx σ' H'
  | .bk G t=>∀ As' F' σ' H',RelS P B As' F' G t σ' H' → Same F F' → D.bk σ' H'
  | .ct G t=>∀ As' F' σ' H',RelS P B As' F' G t σ' H' → Same F F' → D.ct σ' H'
  | .rt x t=>∀ As' F' H' v,Grow B.As B.F B.H As' F' H' → StF As' t F' H' → Same F F' → Dp P.K F' v x → D.rt v H'
  | .rl xs t=>∀ As' F' H' v,Grow B.As B.F B.H As' F' H' → StF As' t F' H' → Same F F' → OwnL P.K As' F' H' v xs → (∃ p,v = .ref p ∧ B.H p = none) → D.rt v H'
  | .ra k t=>∀ As' F' H' v,Grow B.As B.F B.H As' F' H' → StF As' t F' H' → Same F F' → (∃ d,v = .ref d ∧ sa As' k = some d) → D.rt v H'
  | .ex c fs G t=>∀ As' F' σ' H' C d,P.mg c = some (.ref C) → RelS P B As' F' G t σ' H' → Same F F' → ExAt P.K As' F' H' d fs → P.W (.ref C) d σ' H'
  | .stuck=>False
theorem PostS.re {P:Pm} {B:Bs} {F F1:Hp} {D:Ends} {o:So} (k:Same F F1) (h:PostS P B F D o):PostS P B F1 D o:=by
  cases o with
  | nx G t=>exact fun As' F' σ' H' r q=>h As' F' σ' H' r (k.trans q)
  | bk G t=>exact fun As' F' σ' H' r q=>h As' F' σ' H' r (k.trans q)
  | ct G t=>exact fun As' F' σ' H' r q=>h As' F' σ' H' r (k.trans q)
  | rt x t=>exact fun As' F' H' v g s q d=>h As' F' H' v g s (k.trans q) d
  | rl x t=>exact fun As' F' H' v g s q d n=>h As' F' H' v g s (k.trans q) d n
  | ra x t=>exact fun As' F' H' v g s q d=>h As' F' H' v g s (k.trans q) d
  | ex c fs G t=>exact fun As' F' σ' H' C d e r q x=>h As' F' σ' H' C d e r (k.trans q) x
  | stuck=>exact h
/-- another wish -/
theorem PostS.imp {P:Pm} {B:Bs} {F:Hp} {D D':Ends} {o:So} (h:PostS P B F D o) (h1:∀ σ H,D.nx σ H → D'.nx σ H) (h2:∀ v H,D.rt v H → D'.rt v H) (h3:∀ σ H,D.bk σ H → D'.bk σ H) (h4:∀ σ H,D.ct σ H → D'.ct σ H):PostS P B F D' o:=by
  cases o with
  | nx G t=>exact fun As' F' σ' H' r q=>h1 _ _ (h As' F' σ' H' r q)
  | bk G t=>exact fun As' F' σ' H' r q=>h3 _ _ (h As' F' σ' H' r q)
  | ct G t=>exact fun As' F' σ' H' r q=>h4 _ _ (h As' F' σ' H' r q)
  | rt x t=>exact fun As' F' H' v g s q d=>h2 _ _ (h As' F' H' v g s q d)
  | rl x t=>exact fun As' F' H' v g s q d n=>h2 _ _ (h As' F' H' v g s q d n)
  | ra x t=>exact fun As' F' H' v g s q d=>h2 _ _ (h As' F' H' v g s q d)
  | ex c fs G t=>exact h
  | stuck=>exact h
def tsM (P:Pm) (m:SM):TS:=fun D σ H=>∃ B As F G t,RelS P B As F G t σ H ∧ PostS P B F D (m G t)
def SS (X:Cx) (P:Pm) (st:Stmt) (m:SM):Prop:=PS X st (tsM P m)
def SSs (X:Cx) (P:Pm) (st:List Stmt) (m:SM):Prop:=PSs X st (tsM P m)
section
variable {P:Pm} {B:Bs} {As:List Addr} {F H:Hp} {G:Gm} {t:Option DS} {σ:Sg} {D:Ends}
theorem exS {c:Str} {fs:List (Str × PyData)} {t1:Option DS} (R:RelS P B As F G t σ H) (h:PostS P B F D (.ex c fs G t1)):PostX P As F H σ c fs t1:=
  fun As' F' H' C d e g s x=>h As' F' σ H' C d e (R.mono g s) g.ff x
theorem bindSE {m:Rs Rv} {f:Rv → Option DS → So} {Q:VK} (R:RelS P B As F G t σ H) (h:PostS P B F D (m.bindS G f))
    (h2:∀ As1 F1 H1 v1 r1 t1,m = .ok r1 t1 → Grow As F H As1 F1 H1 → RelS P B As1 F1 G t1 σ H1 → VOk P.K As1 F1 H1 v1 r1 → Fresh H v1 r1 → PostS P B F1 D (f r1 t1) → Q v1 H1):PostE P As F H σ Q m:=by
  cases m with
  | ok r1 t1=>exact fun As1 F1 H1 v1 g s x fr=>h2 As1 F1 H1 v1 r1 t1 rfl g (R.mono g s) x fr (h.re g.ff)
  | ex c fs t=>exact exS R h
  | stuck=>exact h
theorem bindSB {m:Rs Bool} {f:Bool → Option DS → So} {Q:Bool → Hp → Prop} (R:RelS P B As F G t σ H) (h:PostS P B F D (m.bindS G f))
    (h2:∀ As1 F1 H1 b t1,m = .ok b t1 → Grow As F H As1 F1 H1 → RelS P B As1 F1 G t1 σ H1 → PostS P B F1 D (f b t1) → Q b H1):PostB P As F H σ Q m:=by
  cases m with
  | ok r1 t1=>exact fun As1 F1 H1 g s=>h2 As1 F1 H1 r1 t1 rfl g (R.mono g s) (h.re g.ff)
  | ex c fs t=>exact exS R h
  | stuck=>exact h
theorem bindSI {m:Rs (List PyData)} {f:List PyData → Option DS → So} {Q:It → Hp → Prop} (R:RelS P B As F G t σ H) (h:PostS P B F D (m.bindS G f))
    (h2:∀ As1 F1 H1 J items t1,m = .ok items t1 → Grow As F H As1 F1 H1 → RelS P B As1 F1 G t1 σ H1 → Walks P.K J items F1 → PostS P B F1 D (f items t1) → Q J H1):PostI P As F H σ Q m:=by
  cases m with
  | ok r1 t1=>exact fun As1 F1 H1 J g s x=>h2 As1 F1 H1 J r1 t1 rfl g (R.mono g s) x (h.re g.ff)
  | ex c fs t=>exact exS R h
  | stuck=>exact h
end
def sSkip:SM:=fun G t=>.nx G t
def sSeq (a b:SM):SM:=fun G t=>match a G t with
  | .nx G1 t1=>b G1 t1
  | o=>o
section
variable {X:Cx} {P:Pm} {st:Stmt} {rest:List Stmt} {m m':SM} {pos:Pos} {e:Expr} {me:EM}
theorem ss_nil:SSs X P [] sSkip:=L2.PSs.imp pss_nil fun D σ H ⟨B,As,F,G,t,R,p⟩=>p As F σ H R (Same.refl _)
theorem seq_te {D:Ends} {σ:Sg} {H:Hp} (h:tsM P (sSeq m m') D σ H):tSeq (tsM P m) (tsM P m') D σ H:=by
  obtain ⟨B,As,F,G,t,R,p⟩:=h
  refine ⟨B,As,F,G,t,R,?_⟩
  unfold sSeq at p
  cases e:m G t with
  | nx G1 t1 =>
    rw [e] at p
    exact fun As' F' σ' H' r q=>⟨B,As',F',G1,t1,r,p.re q⟩
  | rt x t=>rw [e] at p; exact p
  | rl x t=>rw [e] at p; exact p
  | ra x t=>rw [e] at p; exact p
  | bk G t=>rw [e] at p; exact p
  | ct G t=>rw [e] at p; exact p
  | ex c fs G t=>rw [e] at p; exact p
  | stuck=>rw [e] at p; exact p
theorem ss_cons (h1:SS X P st m) (h2:SSs X P rest m'):SSs X P (st :: rest) (sSeq m m'):=L2.PSs.imp (pss_cons h1 h2) fun D σ H h=>seq_te h
theorem ss_break:SS X P (.Break pos) (fun G t=>.bk G t):=L2.PS.imp ps_break fun D σ H ⟨B,As,F,G,t,R,p⟩=>p As F σ H R (Same.refl _)
def sExpr (m:EM):SM:=fun G t=>(m G t).bindS G fun _ t=>.nx G t
theorem ss_expr (he:SE X P e me) (hs:swapsWith e none pos.line X.env = pure false):SS X P (.Expr e pos) (sExpr me):=
  L2.PS.imp (ps_expr he hs) fun D σ H ⟨B,As,F,G,t,R,p⟩=>⟨As,F,G,t,R.rel,bindSE R p fun As1 F1 H1 v1 r1 t1 _ g R1 x fr p1=>p1 As1 F1 σ H1 R1 (Same.refl _)⟩
def sRet (m:EM):SM:=fun G t=>(m G t).fz.bindS G fun r t=>match r with
  | .d x=>.rt x t
  | _=>.stuck
theorem ss_ret (he:SE X P e me):SS X P (.Return (some e) pos) (sRet me):=
  L2.PS.imp (ps_ret he.fz) fun D σ H ⟨B,As,F,G,t,R,p⟩=>⟨As,F,G,t,R.rel,bindSE R p fun As1 F1 H1 v1 r1 t1 _ g R1 x fr p1=>by
    cases r1 with
    | d x1=>exact p1 As1 F1 H1 v1 R1.gr R1.rel.st (Same.refl _) x
    | l _=>exact p1.elim
    | b _=>exact p1.elim
    | a _=>exact p1.elim
    | s=>exact p1.elim⟩
/-- a list of the call's own is told -/
def sRetV (i:Nat):SM:=fun G t=>match G[i]? with
  | some (.l xs)=>.rl xs t
  | some (.d x)=>.rt x t
  | some (.a k)=>.ra k t
  | _=>.stuck
def sRetL (m:EM):SM:=fun G t=>(m G t).bindS G fun r t=>match r with
  | .d x=>.rt x t
  | .l xs=>.rl xs t
  | _=>.stuck
def sIf (c:BM) (a b:SM):SM:=fun G t=>(c G t).bindS G fun k t=>if k then a G t else b G t
theorem ss_if {c:Expr} {a b:List Stmt} {mc:BM} {ma mb:SM} (hc:SB X P c mc) (ha:SSs X P a ma) (hb:SSs X P b mb):SS X P (.If c a b pos) (sIf mc ma mb):=
  L2.PS.imp (ps_if hc ha hb) fun D σ H ⟨B,As,F,G,t,R,p⟩=>⟨As,F,G,t,R.rel,bindSB R p fun As1 F1 H1 k t1 _ g R1 p1=>by
    cases k with
    | true=>exact ⟨B,As1,F1,G,t1,R1,p1⟩
    | false=>exact ⟨B,As1,F1,G,t1,R1,p1⟩⟩
def Rv.sl:Rv → Option Sl
  | .d x=>some (.d x)
  | .l xs=>some (.l xs)
  | .s=>some .s
  | .a k=>some (.a k)
  | .b _=>none
def sSet (i:Nat) (m:EM):SM:=fun G t=>(m G t).bindS G fun r t=>match r.sl with
  | some s=>if i < G.length then .nx (G.set i s) t else .stuck
  | none=>.stuck
theorem RelS.put {B:Bs} {As:List Addr} {F H H1:Hp} {As1:List Addr} {F1:Hp} {G:Gm} {t t1:Option DS} {σ:Sg} {i:Nat} {v:V} {r:Rv} {s:Sl} (R:RelS P B As F G t σ H) (g:Grow As F H As1 F1 H1) (R1:RelS P B As1 F1 G t1 σ H1) (x:VOk P.K As1 F1 H1 v r) (fr:Fresh H v r) (e:r.sl = some s) (hi:i < G.length) :
    RelS P B As1 F1 (G.set i s) t1 (σ.set i (some v)) H1:=by
  have hσ:i < σ.length:=by rw [← R.rel.len]; exact hi
  refine ⟨⟨R1.rel.sub,R1.rel.st,by simp [R1.rel.len],fun j s' e'=>?_,fun j k xs ys w n e1 e2 e3 e4=>?_⟩,R1.gr,fun j xs p e1 e2=>?_,R1.lk⟩
  · by_cases hj:j = i
    · subst hj
      rw [List.getElem?_set_self hi] at e'
      cases e'
      rw [List.getElem?_set_self hσ]
      cases r with
      | d y=>cases e; exact ⟨v,rfl,x⟩
      | l ys=>cases e; exact ⟨v,rfl,x⟩
      | b ys=>cases e
      | s =>
        cases e
        obtain ⟨d,rfl,hd⟩:=x
        exact ⟨d,rfl,hd⟩
      | a k =>
        cases e
        obtain ⟨d,rfl,hd⟩:=x
        exact ⟨d,rfl,hd⟩
    · rw [List.getElem?_set_ne (Ne.symm hj)] at e' ⊢
      exact R1.rel.slot j s' e'
  · -- a new list is no other slot's
    have key:∀ {a b:Nat} {zs:List PyData} {w:V},a ≠ i → G[a]? = some (.l zs) → σ[a]? = some (some w) → ∀ zs',s = .l zs' → w ≠ v:=by
      intro a b zs w na ea ew zs' es ewv
      subst es
      cases r with
      | l ys =>
        obtain ⟨q,rfl,hq⟩:=fr
        obtain ⟨v',ev,q',vs,eq,_,_,hp,_⟩:=R.rel.slot a _ ea
        rw [ew] at ev
        cases ev
        rw [ewv] at eq
        cases eq
        rw [hq] at hp
        cases hp
      | d _=>cases e
      | b _=>cases e
      | a _=>cases e
      | s=>cases e
    by_cases hj:j = i
    · subst hj
      have hk:k ≠ j:=Ne.symm n
      rw [List.getElem?_set_self hi] at e1
      rw [List.getElem?_set_self hσ] at e3
      rw [List.getElem?_set_ne (Ne.symm hk)] at e2 e4
      cases e1
      cases e3
      exact key (b:=0) hk e2 e4 _ rfl rfl
    · rw [List.getElem?_set_ne (Ne.symm hj)] at e1 e3
      by_cases hk:k = i
      · subst hk
        rw [List.getElem?_set_self hi] at e2
        rw [List.getElem?_set_self hσ] at e4
        cases e2
        cases e4
        exact key (b:=0) hj e1 e3 _ rfl rfl
      · rw [List.getElem?_set_ne (Ne.symm hk)] at e2 e4
        exact R1.rel.inj j k xs ys w n e1 e2 e3 e4
  · by_cases hj:j = i
    · subst hj
      rw [List.getElem?_set_self hi] at e1
      rw [List.getElem?_set_self hσ] at e2
      cases e1
      cases e2
      cases r with
      | l ys =>
        obtain ⟨q,eq,hq⟩:=fr
        cases eq
        exact R.gr.nw hq
      | d _=>cases e
      | b _=>cases e
      | a _=>cases e
      | s=>cases e
    · rw [List.getElem?_set_ne (Ne.symm hj)] at e1 e2
      exact R1.own j xs p e1 e2
theorem set_te {i:Nat} {D:Ends} {σ:Sg} {H:Hp} (h:tsM P (sSet i me) D σ H):tAsg (teM P me) (gName i) D σ H:=by
  obtain ⟨B,As,F,G,t,R,p⟩:=h
  refine ⟨As,F,G,t,R.rel,bindSE R p fun As1 F1 H1 v1 r1 t1 _ g R1 x fr p1=>?_⟩
  cases e:r1.sl with
  | none=>rw [e] at p1; exact p1.elim
  | some s =>
    rw [e] at p1
    have p1:PostS P B F1 D (if i < G.length then .nx (G.set i s) t1 else .stuck):=p1
    by_cases hi:i < G.length
    · rw [if_pos hi] at p1
      exact p1 As1 F1 _ H1 (R.put g R1 x fr e hi) (Same.refl _)
    · rw [if_neg hi] at p1; exact p1.elim
theorem ss_set {i:Nat} {x:Str} {p':Pos} (hN:X.N.Nodup) (hi:X.N[i]? = some x) (hx:Loc X.env.scope x) (he:SE X P e me) (hs:swapsWith e (some (.Name x p')) pos.line X.env = pure false) (hf:X.fn x = true ∨ X.env.scope.names.lookup x = some .local):SS X P (.Assign [.Name x p'] e pos) (sSet i me):=
  L2.PS.imp (ps_set hN hi hx he hs hf) fun D σ H h=>set_te h
/-- a, b = a tuple -/
def sTgt (pt:Pt) (m:EM):SM:=fun G t=>(m G t).fz.bindS G fun r t=>match r with
  | .d x=>match asg pt x G with
    | some G'=>.nx G' t
    | none=>.stuck
  | _=>.stuck
theorem asg_own {pt:Pt} {x:D} {G G':Gm} (h:asg pt x G = some G') (i:Nat) (xs:List PyData) (e:G'[i]? = some (.l xs)):G[i]? = some (.l xs) ∧ i ∉ pt.ix:=by
  have key:∀ (is:List Nat) (ds:List PyData) (G G':Gm),setAll is ds G = some G' → G'[i]? = some (.l xs) → G[i]? = some (.l xs) ∧ i ∉ is:=by
    intro is
    induction is with
    | nil =>
      intro ds G G' h e
      cases ds with
      | nil=>cases h; exact ⟨e,by simp⟩
      | cons _ _=>cases h
    | cons j is ih =>
      intro ds G G' h e
      cases ds with
      | nil=>cases h
      | cons d ds =>
        unfold setAll at h
        split at h
        · rename_i hj
          obtain ⟨h1,h2⟩:=ih ds _ _ h e
          by_cases hij:i = j
          · subst hij
            rw [List.getElem?_set_self hj] at h1
            cases h1
          · rw [List.getElem?_set_ne (Ne.symm hij)] at h1
            exact ⟨h1,by simp [hij,h2]⟩
        · cases h
  cases pt with
  | nm j=>exact key [j] [x] G G' h e
  | tup js =>
    cases x with
    | tuple ys=>exact key js ys G G' h e
    | _=>cases h
theorem RelS.tgt {B:Bs} {As:List Addr} {F H:Hp} {G G':Gm} {t:Option DS} {σ σ':Sg} {pt:Pt} {x:PyData} (R:RelS P B As F G t σ H) (e:asg pt x G = some G') (R':Rel P.K P.xi As F G' t σ' H) (af:After pt.ix σ σ'):RelS P B As F G' t σ' H:=
  ⟨R',R.gr,fun i xs p e1 e2=>by
    obtain ⟨h1,h2⟩:=asg_own e i xs e1
    rw [af.2 i h2] at e2
    exact R.own i xs p h1 e2,R.lk⟩
theorem ss_tgt {tg:Expr} {pt:Pt} (he:SE X P e me) (hg:SG X P tg pt) (hs:swapsWithSole [tg] e pos.line X.env = pure false) (hw:swappedStores [tg] e X.env = pure none) (h1:(assignEach [tg] X.env).map (·.2) = [assign tg X.env]):SS X P (.Assign [tg] e pos) (sTgt pt me):=
  L2.PS.imp (ps_asg he.fz hg hs hw h1) fun D σ H ⟨B,As,F,G,t,R,p⟩=>⟨As,F,G,t,R.rel,bindSE R p fun As1 F1 H1 v1 r1 t1 _ g R1 x fr p1=>by
    cases r1 with
    | d y =>
      cases e:asg pt y G with
      | none=>simp only [e] at p1; exact p1.elim
      | some G' =>
        simp only [e] at p1
        exact ⟨As1,F1,G,t1,y,G',R1.rel,x,e,fun σ' R' af=>p1 As1 F1 σ' H1 (R1.tgt e R' af) (Same.refl _)⟩
    | l _=>exact p1.elim
    | b _=>exact p1.elim
    | a _=>exact p1.elim
    | s=>exact p1.elim⟩
/-- a, b = x, y -/
def sPar (i j:Nat) (a b:EM):SM:=fun G t=>(a G t).fz.bindS G fun x t=>(b G t).fz.bindS G fun y t=>match x,y with
  | .d x,.d y=>if i < G.length ∧ j < G.length then .nx ((G.set i (.d x)).set j (.d y)) t else .stuck
  | _,_=>.stuck
theorem ss_par {i j:Nat} {x y:Str} {a b:Expr} {ma mb:EM} {px py pt:Pos} {kt k2 pt2} (hc:X.calm = true) (hN:X.N.Nodup) (hi:X.N[i]? = some x) (hj:X.N[j]? = some y) (hij:i ≠ j)
    (hx:X.env.scope.names.lookup x = some .local) (hy:X.env.scope.names.lookup y = some .local) (ha:SE X P a ma) (hb:SE X P b mb) (hs1:starEach [a,b] X.env = [(false,eval a X.env),(false,eval b X.env)]) (hs2:starEach [b] X.env = [(false,eval b X.env)])
    (hw:swappedStores [.Tuple [.Name x px,.Name y py] kt pt] (.Tuple [a,b] k2 pt2) X.env = pure (some [x,y])) (hs:swapsWithSole [.Tuple [.Name x px,.Name y py] kt pt] (.Tuple [a,b] k2 pt2) pos.line X.env = pure false) :
    SS X P (.Assign [.Tuple [.Name x px,.Name y py] kt pt] (.Tuple [a,b] k2 pt2) pos) (sPar i j ma mb):=
  L2.PS.imp (ps_par hc hN hi hj hij hx hy (pa_cons ha.fz (pa_cons hb.fz pa_nil hs2) (by rw [hs1,hs2])) hw hs) fun D σ H ⟨B,As,F,G,t,R,p⟩=>⟨As,F,G,t,R.rel,bindSE R p fun As1 F1 H1 v1 r1 t1 _ g R1 x1 fr p1=>⟨As1,F1,G,t1,R1.rel,bindSE R1 p1 fun As2 F2 H2 v2 r2 t2 _ g2 R2 x2 fr2 p2=>by
    have x1':=x1.mono g2
    split at p2
    · split at p2
      · rename_i hij2
        have Ra:=R2.rel.set (i:=i) hij2.1 x1'
        have Rb:=Ra.set (i:=j) (by simp; exact hij2.2) x2
        refine ⟨v1,v2,rfl,p2 As2 F2 _ H2 ⟨Rb,R2.gr,fun k xs q e1 e2=>?_,R2.lk⟩ (Same.refl _)⟩
        have nj:k ≠ j:=fun z=>by subst z; rw [List.getElem?_set_self (by simp; exact hij2.2)] at e1; cases e1
        rw [List.getElem?_set_ne (Ne.symm nj)] at e1 e2
        have ni:k ≠ i:=fun z=>by subst z; rw [List.getElem?_set_self hij2.1] at e1; cases e1
        rw [List.getElem?_set_ne (Ne.symm ni)] at e1 e2
        exact R2.own k xs q e1 e2
      · exact p2.elim
    · exact p2.elim⟩⟩
end
def loop (pt:Pt) (body:SM):List D → SM
  | [],G,t=>.nx G t
  | x :: xs,G,t=>match asg pt x G with
    | none=>.stuck
    | some G1=>match body G1 t with
      | .nx G2 t2=>loop pt body xs G2 t2
      | .ct G2 t2=>loop pt body xs G2 t2
      | .bk G2 t2=>.nx G2 t2
      | o=>o
def sFor (im:IM) (pt:Pt) (body:SM):SM:=fun G t=>(im G t).bindS G fun items t=>loop pt body items G t
section
variable {X:Cx} {P:Pm} {tg iter:Expr} {body:List Stmt} {im:IM} {pt:Pt} {mb:SM} {pos:Pos}
theorem ss_for (hp:PassesOwn (model X.prog X.w) X.A X.env X.xe) (hc:X.calm = true) (hi:SI X P tg iter im) (hg:SG X P tg pt) (hb:SSs X P body mb) (hs:∀ x,foldedSetIterable iter X.env x = pure x):SS X P (.For tg iter body [] pos) (sFor im pt mb):=by
  refine L2.PS.imp (ps_for hp hc hi hg hb hs) fun D σ H ⟨B,As,F,G,t,R,p⟩=>⟨As,F,G,t,R.rel,bindSI R p fun As1 F1 H1 J items t1 _ g R1 wk p1=>?_⟩
  let Z:Nat → Sg → Hp → Prop:=fun i σ H=>i ≤ items.length ∧ ∃ As F G t,RelS P B As F G t σ H ∧ Same F1 F ∧ PostS P B F D (loop pt mb (items.drop i) G t)
  refine ⟨fun i m σ H=>m = items.length - i ∧ Z i σ H,⟨_,rfl,Nat.zero_le _,As1,F1,G,t1,R1,Same.refl _,p1⟩,?_⟩
  rintro i m σ2 H2 ⟨rfl,hle,As2,F2,G2,t2,R2,k2,p2⟩
  obtain ⟨w1,w2⟩:=wk F2 H2 As2 t2 k2 R2.rel.sub R2.rel.st i
  by_cases hlt:i < items.length
  · have hd:items[i]? = some items[i]:=List.getElem?_eq_getElem hlt
    obtain ⟨go,yl⟩:=w1 _ hd
    have hdrop:items.drop i = items[i] :: items.drop (i + 1):=List.drop_eq_getElem_cons hlt
    rw [hdrop] at p2
    refine .inr ⟨go,Z (i + 1),fun σ' H' z=>⟨_,by omega,rfl,z⟩,fun x H3 y=>?_⟩
    obtain ⟨F3,g3,s3,d3⟩:=yl x H3 y
    have R3:=R2.mono g3 s3
    unfold loop at p2
    cases e:asg pt items[i] G2 with
    | none=>rw [e] at p2; exact p2.elim
    | some G1 =>
      rw [e] at p2
      refine ⟨As2,F3,G2,t2,_,G1,R3.rel,d3,e,fun σ' R' af=>⟨B,As2,F3,G1,t2,R3.tgt e R' af,?_⟩⟩
      have go2:∀ {G4:Gm} {t4:Option DS},PostS P B F2 D (loop pt mb (items.drop (i + 1)) G4 t4) → ∀ As' F' σ' H',RelS P B As' F' G4 t4 σ' H' → Same F3 F' → Z (i + 1) σ' H':=
        fun {G4 t4} q As' F' σ' H' r k=>⟨hlt,As',F',G4,t4,r,(k2.trans g3.ff).trans k,q.re (g3.ff.trans k)⟩
      cases eb:mb G1 t2 with
      | nx G4 t4=>simp only [eb] at p2; exact go2 p2
      | ct G4 t4=>simp only [eb] at p2; exact go2 p2
      | bk G4 t4 =>
        simp only [eb] at p2
        exact PostS.re g3.ff p2
      | rt v t4 =>
        simp only [eb] at p2
        exact PostS.re g3.ff p2
      | rl v t4 =>
        simp only [eb] at p2
        exact PostS.re g3.ff p2
      | ra v t4 =>
        simp only [eb] at p2
        exact PostS.re g3.ff p2
      | ex c fs G4 t4 =>
        simp only [eb] at p2
        exact PostS.re g3.ff p2
      | stuck=>simp only [eb] at p2; exact p2.elim
  · have ei:i = items.length:=by omega
    subst ei
    rw [List.drop_length] at p2
    exact .inl ⟨w2 rfl,p2 As2 F2 σ2 H2 R2 (Same.refl _)⟩
end
end DL
end
section
namespace DL
open PySem PySem.Spec PyProof.Rows L2
variable [Tbs]
def wipeG (G:Gm):List Nat → Gm
  | []=>G
  | v :: vs=>(wipeG G vs).set v .un
def Rs.nox {α:Type}:Rs α → Rs α
  | .ok a t=>.ok a t
  | _=>.stuck
def cst (cs:Option BM):BM:=fun G t=>match cs with
  | none=>.ok true t
  | some c=>(c G t).nox
def lcLoop (pt:Pt) (cs:Option BM) (elt:EM) (G0:Gm):List D → List D → Option DS → Rs Rv
  | [],acc,t=>.ok (.l acc) t
  | x :: xs,acc,t=>match asg pt x G0 with
    | none=>.stuck
    | some G1=>(cst cs G1 t).bind fun b t=>if b then (elt G1 t).fz.nox.bind fun y t=>match y with
          | .d y=>if acc.length < 16777216 then lcLoop pt cs elt G0 xs (acc ++ [y]) t else .stuck
          | _=>.stuck
        else lcLoop pt cs elt G0 xs acc t
def mLc (im:IM) (pt:Pt) (cs:Option BM) (elt:EM) (vs:List Nat):EM:=fun G t=>if pt.ix.all (vs.contains ·) then (im G t).bind fun items t=>lcLoop pt cs elt (wipeG G vs) items [] t else .stuck
theorem Rel.wipe {K:PySem.W.Frag} {xi:XI} {As:List Addr} {F:Hp} {G:Gm} {t:Option DS} {σ:Sg} {H:Hp} (R:Rel K xi As F G t σ H):∀ vs:List Nat,Rel K xi As F (wipeG G vs) t (L2.wipe σ vs) H
  | []=>R
  | v :: vs=>by
    have Q:=Rel.wipe R vs
    unfold wipeG L2.wipe
    refine ⟨Q.sub,Q.st,by simp [Q.len],fun j s e=>?_,fun j k xs ys w n e1 e2 e3 e4=>?_⟩
    · by_cases hj:v = j
      · subst hj
        by_cases hv:v < (wipeG G vs).length
        · rw [List.getElem?_set_self hv] at e; cases e; trivial
        · rw [List.getElem?_eq_none (by simp; omega)] at e; cases e
      · rw [List.getElem?_set_ne hj] at e ⊢
        exact Q.slot j s e
    · have nj:∀ {a:Nat} {zs:List D},((wipeG G vs).set v .un)[a]? = some (.l zs) → v ≠ a:=fun {a zs} e q=>by
        subst q
        by_cases hv:v < (wipeG G vs).length
        · rw [List.getElem?_set_self hv] at e; cases e
        · rw [List.getElem?_eq_none (by simp; omega)] at e; cases e
      have n1:=nj e1
      have n2:=nj e2
      rw [List.getElem?_set_ne n1] at e1 e3
      rw [List.getElem?_set_ne n2] at e2 e4
      exact Q.inj j k xs ys w n e1 e2 e3 e4
/-- the params within a comprehension: nothing is raised -/
def Pm.calm (P:Pm):Pm:={ P with W:=fun _ _ _ _=>False }
theorem PostE.nox {P P':Pm} (hK:P'.K = P.K) {As:List Addr} {F H:Hp} {σ:Sg} {Q:VK} {r:Rs Rv} (h:PostE P As F H σ Q r.nox):PostE P' As F H σ Q r:=by
  cases r with
  | ok r t=>intro As' F' H' v g s x f; rw [hK] at x; exact h As' F' H' v g s x f
  | ex c fs t=>exact False.elim h
  | stuck=>exact h
theorem PostB.nox {P P':Pm} {As:List Addr} {F H:Hp} {σ:Sg} {Q:Bool → Hp → Prop} {r:Rs Bool} (h:PostB P As F H σ Q r.nox):PostB P' As F H σ Q r:=by
  cases r with
  | ok r t=>exact h
  | ex c fs t=>exact False.elim h
  | stuck=>exact h
/-- all the tests of a clause -/
def ttsM (P:Pm) (cs:Option BM):TT:=match cs with
  | none=>tYes
  | some c=>ttM P c
def lcM (P:Pm) (im:IM) (pt:Pt) (cs:Option BM) (elt:EM) (vs:List Nat):TE:=tLc (tiM P im) (tgM P.calm pt.ix pt) (ttsM P.calm cs) (teM P.calm fun G t=>(elt G t).fz) vs
theorem lc_te {P:Pm} {im:IM} {pt:Pt} {cs:Option BM} {elt:EM} {vs:List Nat} {σ:Sg} {H:Hp} {Q:VK} (h:teM P (mLc im pt cs elt vs) σ H Q):lcM P im pt cs elt vs σ H Q:=by
  obtain ⟨As,F,G,t,R,p⟩:=h
  unfold mLc at p
  by_cases hix:pt.ix.all (vs.contains ·) = true
  · rw [if_pos hix] at p
    have hix':∀ i ∈ pt.ix,i ∈ vs:=fun i hi=>by
      have:=List.all_eq_true.mp hix i hi
      simpa using this
    refine ⟨As,F,G,t,R,?_⟩
    cases ei:im G t with
    | ex c fs t=>rw [ei] at p; exact p
    | stuck=>rw [ei] at p; exact p
    | ok items t1 =>
      rw [ei] at p
      intro As1 F1 H1 J g1 s1 wk Dd hD
      have R1:=(R.mono g1 s1).wipe vs
      generalize hG0:wipeG G vs = G0 at p R1
      have p:PostE P As F H σ Q (lcLoop pt cs elt G0 items [] t1):=p
      have FD:F1 Dd = none:=g1.fh.free hD
      obtain ⟨⟨g2,s2⟩,_⟩:=alloc (o:=.lst []) s1 g1.fh hD
      let Z:Nat → Hp → Prop:=fun i H2=>i ≤ items.length ∧ ∃ As2 F2 t2 accV acc,Rel P.K P.xi As2 F2 G0 t2 (L2.wipe σ vs) H2 ∧ Grow As F H As2 F2 H2 ∧ Same F1 F2 ∧ Dd ∉ As2 ∧ F2 Dd = none ∧ H2 Dd = some (.lst accV) ∧ DpAll P.K F2 accV acc ∧
        PostE P As F H σ Q (lcLoop pt cs elt G0 (items.drop i) acc t2)
      refine ⟨fun i m H2=>m = items.length - i ∧ Z i H2,⟨_,rfl,Nat.zero_le _,As1,F1,t1,[],[],R1.mono g2 s2,g1.trans g2,Same.refl _,fun z=>s1.ok.there _ z hD,FD,upd_same,.nil,p⟩,?_⟩
      rintro i m H2 ⟨rfl,hle,As2,F2,t2,accV,acc,R2,g,k2,nA,nF,hacc,hda,p2⟩
      obtain ⟨w1,w2⟩:=wk F2 H2 As2 t2 k2 R2.sub R2.st i
      by_cases hlt:i < items.length
      · have hd:items[i]? = some items[i]:=List.getElem?_eq_getElem hlt
        obtain ⟨go,yl⟩:=w1 _ hd
        rw [List.drop_eq_getElem_cons hlt] at p2
        refine .inr ⟨go,Z (i + 1),fun H' z=>⟨_,by omega,rfl,z⟩,fun x H3 y=>?_⟩
        obtain ⟨F3,g3,s3,d3⟩:=yl x H3 y
        have R3:=R2.mono g3 s3
        unfold lcLoop at p2
        cases e:asg pt items[i] G0 with
        | none=>rw [e] at p2; exact p2.elim
        | some G1 =>
          rw [e] at p2
          refine ⟨As2,F3,G0,t2,_,G1,R3,d3,e,fun σ' R' af=>⟨After.wipe af hix',?_⟩⟩
          have p2:PostE P As F H σ Q ((cst cs G1 t2).bind fun b t=>if b then (elt G1 t).fz.nox.bind fun y t=>match y with
              | .d y=>if acc.length < 16777216 then lcLoop pt cs elt G0 (items.drop (i + 1)) (acc ++ [y]) t else .stuck
              | _=>.stuck
            else lcLoop pt cs elt G0 (items.drop (i + 1)) acc t):=p2
          have mv:∀ {As4:List Addr} {F4 H4:Hp},Grow As2 F3 H3 As4 F4 H4 → Dd ∉ As4 ∧ F4 Dd = none ∧ H4 Dd = some (.lst accV) ∧ DpAll P.K F4 accV acc:=fun {As4 F4 H4} g4=>by
            obtain ⟨q,us,eq,a1,a2,a3,a4⟩:=(OwnL.mono (g3.trans g4) (K:=P.K) (v:=.ref Dd) (xs:=acc) ⟨Dd,accV,rfl,nA,nF,hacc,hda⟩)
            cases eq
            refine ⟨a1,a2,?_,?_⟩
            · exact (g3.trans g4).hh Dd _ nA hacc
            · exact DpAll.mono (g3.trans g4).ff _ _ hda
          -- behind the tests
          have fin:∀ {As4:List Addr} {F4 H4:Hp} {b:Bool} {t4:Option DS},Grow As2 F3 H3 As4 F4 H4 → Rel P.K P.xi As4 F4 G1 t4 σ' H4 → PostE P As F H σ Q (if b then (elt G1 t4).fz.nox.bind fun y t=>match y with
              | .d y=>if acc.length < 16777216 then lcLoop pt cs elt G0 (items.drop (i + 1)) (acc ++ [y]) t else .stuck
              | _=>.stuck
            else lcLoop pt cs elt G0 (items.drop (i + 1)) acc t4) →
            if b = true then teM P.calm (fun G t=>(elt G t).fz) σ' H4 fun y H5=>∃ acc,H5 Dd = some (.lst acc) ∧ acc.length < sizeLine ∧ Z (i + 1) (upd H5 Dd (.lst (acc ++ [y]))) else Z (i + 1) H4:=by
            intro As4 F4 H4 b t4 g4 R4 p4
            have g04:Grow As F H As4 F4 H4:=(g.trans g3).trans g4
            obtain ⟨m1,m2,m3,m4⟩:=mv g4
            cases b with
            | false =>
              refine ⟨hlt,As4,F4,t4,accV,acc,(R2.mono (g3.trans g4) R4.st),g04,(k2.trans g3.ff).trans g4.ff,m1,m2,m3,m4,p4⟩
            | true =>
              refine ⟨As4,F4,G1,t4,R4,?_⟩
              have p5:=PostE.re g04 p4
              show PostE P.calm As4 F4 H4 σ' _ (elt G1 t4).fz
              cases ee:(elt G1 t4).fz with
              | ex c fs t=>rw [ee] at p5; exact False.elim p5
              | stuck=>rw [ee] at p5; exact False.elim p5
              | ok y t5 =>
                rw [ee] at p4
                intro As5 F5 H5 v g5 s5 x5 _
                cases y with
                | d y =>
                  have p4:PostE P As F H σ Q (if acc.length < 16777216 then lcLoop pt cs elt G0 (items.drop (i + 1)) (acc ++ [y]) t5 else .stuck):=p4
                  by_cases hz:acc.length < 16777216
                  · rw [if_pos hz] at p4
                    obtain ⟨n1,n2,n3,n4⟩:=mv (g4.trans g5)
                    refine ⟨accV,n3,by rw [n4.length,sizeLine_eq]; exact hz,hlt,As5,F5,t5,accV ++ [v],acc ++ [y],?_,?_,((k2.trans g3.ff).trans g4.ff).trans g5.ff,n1,n2,upd_same,n4.append (DpAll.one x5),p4⟩
                    · -- the relation stands where the new list grows
                      have R5:Rel P.K P.xi As5 F5 G0 t5 (L2.wipe σ vs) H5:=R2.mono ((g3.trans g4).trans g5) s5
                      have oldD:∀ {q:Addr} {us:List V} {j:Nat} {zs:List D},G0[j]? = some (.l zs) → (L2.wipe σ vs)[j]? = some (some (.ref q)) → q ≠ Dd:=fun {q us j zs} e1 e2 z=>by
                        subst z
                        obtain ⟨w,e3,q',us',e4,_,_,e5,_⟩:=R1.slot j _ e1
                        rw [e2] at e3
                        cases e3
                        cases e4
                        rw [hD] at e5
                        cases e5
                      have kF:Same F5 (upd H5 Dd (.lst (accV ++ [v]))):=fun b o e=>by rw [upd_ne (ne_of_none e n2)]; exact g5.fh b o e
                      refine ⟨kF,⟨s5.ok.upd n1 (lst_code n3),s5.sf,s5.tn⟩,R5.len,fun j s e=>?_,R5.inj⟩
                      have sl:=R5.slot j s e
                      cases s with
                      | un=>trivial
                      | d x=>exact sl
                      | l zs =>
                        obtain ⟨w,e1,q,us,e2,b1,b2,b3,b4⟩:=sl
                        subst e2
                        exact ⟨_,e1,q,us,rfl,b1,b2,by rw [upd_ne (oldD (us:=us) e e1)]; exact b3,b4⟩
                      | a _=>exact sl
                      | c _=>exact sl
                      | s=>exact sl
                      | e c fs =>
                        obtain ⟨a,dd,e1,e2,ex⟩:=sl
                        refine ⟨a,dd,e1,e2,?_⟩
                        rcases ex with ex | ⟨a',vs',e3,b1,b2,b3⟩
                        · exact .inl ex
                        · refine .inr ⟨a',vs',e3,b1,?_,b3⟩
                          rw [upd_ne (fun z=>by subst z; rw [n3] at b2; cases b2)]
                          exact b2
                    · have g05:=g04.trans g5
                      have nD:H Dd = none:=g1.nw hD
                      refine ⟨g05.ff,fun b o e=>?_,fun q o nq e=>?_,g05.nn,fun q e=>?_,g05.ss,fun q x u e=>(by rw [upd_ne (ne_of_none e nD)]; exact g05.ll q x u e)⟩
                      · rw [upd_ne (ne_of_none e n2)]; exact g5.fh b o e
                      · rw [upd_ne (ne_of_none e nD)]; exact g05.hh q o nq e
                      · by_cases hq:q = Dd
                        · rw [hq,upd_same]; simp
                        · rw [upd_ne hq]; exact g05.dd q e
                  · rw [if_neg hz] at p4; exact p4.elim
                | l _=>exact False.elim p4
                | b _=>exact False.elim p4
                | a _=>exact False.elim p4
                | s=>exact False.elim p4
          cases cs with
          | none=>exact fin (b:=true) (.refl R'.sub) R' p2
          | some c =>
            refine ⟨As2,F3,G1,t2,R',?_⟩
            show PostB P.calm As2 F3 H3 σ' _ (c G1 t2)
            rw [show cst (some c) G1 t2 = (c G1 t2).nox from rfl] at p2
            cases ec:c G1 t2 with
            | ex c' fs t=>rw [ec] at p2; exact False.elim p2
            | stuck=>rw [ec] at p2; exact False.elim p2
            | ok b t4 =>
              rw [ec] at p2
              intro As4 F4 H4 g4 s4
              exact fin g4 (R'.mono g4 s4) p2
      · have ei:i = items.length:=by omega
        subst ei
        rw [List.drop_length] at p2
        have hDn:H Dd = none:=g1.nw hD
        exact .inl ⟨w2 rfl,p2 As2 F2 H2 (.ref Dd) g R2.st ⟨Dd,accV,rfl,nA,nF,hacc,hda⟩ ⟨Dd,rfl,hDn⟩⟩
  · rw [if_neg hix] at p; exact p.elim
end DL
end
section
namespace DL
open PySem PySem.Spec PyProof.Rows L2
variable [Tbs]
section
variable {X:Cx} {P:Pm} {pos spos:Pos}
theorem pts_of {c:Expr} {mc:BM} (h:SB X P c mc):PTs X [c] (ttsM P (some mc)):=pts_one h
theorem se_lc {elt tg iter:Expr} {ifs:List Expr} {scope:Scope} {own:List (Str × Nat)} {im:IM} {pt:Pt} {cs:Option BM} {me:EM} (hc:X.calm = true) (hN:X.N.Nodup) (hi:SI X P tg iter im) (ok:BlkOk X.N X.env.scope scope own)
    (hg:∀ (s:Shared) (H:Hp) (C:Addr) (cl:List (Str × Addr)) (fp:List Addr),SG (X.blk s H scope (compEnvC scope cl C X.env) fp) P.calm tg pt)
    (ht:∀ (s:Shared) (H:Hp) (C:Addr) (cl:List (Str × Addr)) (fp:List Addr),PTs (X.blk s H scope (compEnvC scope cl C X.env) fp) ifs (ttsM P.calm cs))
    (he:∀ (s:Shared) (H:Hp) (C:Addr) (cl:List (Str × Addr)) (fp:List Addr),SE (X.blk s H scope (compEnvC scope cl C X.env) fp) P.calm elt me) (hs:∀ x,foldedSetIterable iter X.env x = pure x) :
    SE X P (.ListComp elt [⟨tg,iter,ifs,0⟩] scope pos) (mLc im pt cs me (own.map (·.2))):=
  L2.PE.imp (pe_lc hc hN hi ok hg ht (fun s H C cl fp=>(he s H C cl fp).fz) hs) fun σ H Q h=>lc_te h
theorem ss_setLc {i:Nat} {y:Str} {py:Pos} {elt tg iter:Expr} {ifs:List Expr} {scope:Scope} {own:List (Str × Nat)} {im:IM} {pt:Pt} {cs:Option BM} {me:EM} (hc:X.calm = true) (hN:X.N.Nodup) (hy:X.N[i]? = some y) (hyl:X.env.scope.names.lookup y = some .local)
    (hsw:swapsWith (.ListComp elt [⟨tg,iter,ifs,0⟩] scope pos) (some (.Name y py)) spos.line X.env = pure true) (hi:SI X P tg iter im) (ok:BlkOk X.N X.env.scope scope own)
    (hg:∀ (s:Shared) (H:Hp) (C:Addr) (cl:List (Str × Addr)) (fp:List Addr),SG (X.blk s H scope (compEnvC scope cl C X.env) fp) P.calm tg pt)
    (ht:∀ (s:Shared) (H:Hp) (C:Addr) (cl:List (Str × Addr)) (fp:List Addr),PTs (X.blk s H scope (compEnvC scope cl C X.env) fp) ifs (ttsM P.calm cs))
    (he:∀ (s:Shared) (H:Hp) (C:Addr) (cl:List (Str × Addr)) (fp:List Addr),SE (X.blk s H scope (compEnvC scope cl C X.env) fp) P.calm elt me) (hs:∀ x,foldedSetIterable iter X.env x = pure x) :
    SS X P (.Assign [.Name y py] (.ListComp elt [⟨tg,iter,ifs,0⟩] scope pos) spos) (sSet i (mLc im pt cs me (own.map (·.2)))):=
  L2.PS.imp (ps_setLc hc hN hy hyl hsw hi ok hg ht (fun s H C cl fp=>(he s H C cl fp).fz) hs) fun D σ H h=>by
    have q:=set_te h
    obtain ⟨As,F,G,t,R,p⟩:=q
    exact lc_te ⟨As,F,G,t,R,p⟩
end
theorem RelS.write {P:Pm} {B:Bs} {As:List Addr} {F H:Hp} {G:Gm} {t:Option DS} {σ:Sg} {i:Nat} {xs ys:List D} {p:Addr} {vs ws:List V} (R:RelS P B As F G t σ H) (e:G[i]? = some (.l xs)) (ev:σ[i]? = some (some (.ref p))) (hp:H p = some (.lst vs)) (a:DpAll P.K F ws ys) :
    RelS P B As F (G.set i (.l ys)) t σ (upd H p (.lst ws)):=by
  obtain ⟨v,e1,p',vs',e2,b1,b2,b3,b4⟩:=R.rel.slot i _ e
  rw [ev] at e1
  cases e1
  cases e2
  have hi:i < G.length:=(List.getElem?_eq_some_iff.mp e).1
  have kF:Same F (upd H p (.lst ws)):=fun b o q=>by rw [upd_ne (ne_of_none q b2)]; exact R.rel.sub b o q
  have hB:=R.own i xs p e ev
  refine ⟨⟨kF,⟨R.rel.st.ok.upd b1 (lst_code b3),R.rel.st.sf,R.rel.st.tn⟩,by simp [R.rel.len],fun j s ej=>?_,fun j k zs us w n e1 e2 e3 e4=>?_⟩,⟨R.gr.ff,kF,fun q o nq eq=>?_,R.gr.nn,fun q eq=>?_,R.gr.ss,fun q x u eq=>(by rw [upd_ne (fun z=>by rw [z,hB] at eq; cases eq)]; exact R.gr.ll q x u eq)⟩,fun j zs q e1 e2=>?_,fun q hq=>(by have e:=R.lk q hq; refine ⟨e.1,?_⟩; rw [upd_ne (fun z=>by have e2:=e.2; rw [z,hp] at e2; cases e2)]; exact e.2)⟩
  · by_cases hj:j = i
    · subst hj
      rw [List.getElem?_set_self hi] at ej
      cases ej
      exact ⟨_,ev,p,ws,rfl,b1,b2,upd_same,a⟩
    · rw [List.getElem?_set_ne (Ne.symm hj)] at ej
      have sl:=R.rel.slot j s ej
      cases s with
      | un=>trivial
      | d x=>exact sl
      | l zs =>
        obtain ⟨w,e1,q,us,e2,c1,c2,c3,c4⟩:=sl
        subst e2
        refine ⟨_,e1,q,us,rfl,c1,c2,?_,c4⟩
        rw [upd_ne (fun z=>R.rel.inj j i zs xs (.ref q) hj ej e e1 (by rw [z]; exact ev))]
        exact c3
      | c _=>exact sl
      | a _=>exact sl
      | s=>exact sl
      | e c fs =>
        obtain ⟨a',dd,e1,e2,ex⟩:=sl
        refine ⟨a',dd,e1,e2,?_⟩
        rcases ex with ex | ⟨a',vs',e3,c1,c2,c3⟩
        · exact .inl ex
        · refine .inr ⟨a',vs',e3,c1,?_,c3⟩
          rw [upd_ne (fun z=>by subst z; rw [b3] at c2; cases c2)]
          exact c2
  · have own:∀ {a:Nat} {zs:List D},(G.set i (.l ys))[a]? = some (.l zs) → ∃ zs',G[a]? = some (.l zs'):=fun {a zs} q=>by
      by_cases ha:a = i
      · subst ha; exact ⟨_,e⟩
      · rw [List.getElem?_set_ne (Ne.symm ha)] at q; exact ⟨_,q⟩
    obtain ⟨_,q1⟩:=own e1
    obtain ⟨_,q2⟩:=own e2
    exact R.rel.inj j k _ _ w n q1 q2 e3 e4
  · rw [upd_ne (ne_of_none eq hB)]; exact R.gr.hh q o nq eq
  · by_cases hq:q = p
    · rw [hq,upd_same]; simp
    · rw [upd_ne hq]; exact R.gr.dd q eq
  · by_cases hj:j = i
    · subst hj; exact R.own j xs q e e2
    · rw [List.getElem?_set_ne (Ne.symm hj)] at e1; exact R.own j zs q e1 e2
/-- xs.append(e), xs in slot i -/
def sApp (i:Nat) (m:EM):SM:=fun G t=>match G[i]? with
  | some (.l xs)=>(m G t).fz.bindS G fun r t=>match r with
    | .d x=>if xs.length < 16777216 then .nx (G.set i (.l (xs ++ [x]))) t else .stuck
    | _=>.stuck
  | _=>.stuck
theorem slot_l {P:Pm} {B:Bs} {As:List Addr} {F H:Hp} {G:Gm} {t:Option DS} {σ:Sg} {i:Nat} {xs:List D} (R:RelS P B As F G t σ H) (e:G[i]? = some (.l xs)):∃ p vs,σ[i]? = some (some (.ref p)) ∧ H p = some (.lst vs) ∧ DpAll P.K F vs xs:=by
  obtain ⟨v,e1,p',vs',e2,b1,b2,b3,b4⟩:=R.rel.slot i _ e
  subst e2
  exact ⟨p',vs',e1,b3,b4⟩
section
variable {X:Cx} {P:Pm} {a b:Expr} {ma mb:EM} {pos cpos apos npos:Pos}
theorem ss_app {i:Nat} {x:Str} (hN:X.N[i]? = some x) (hv:Vis X.env.scope x) (hd:(x == ("__debug__" : Str)) = false) (hcd:(x == ("__classdict__" : Str)) = false) (ha:SE X P a ma)
    (h:PE X (.Name x npos) (tVar i) → PA X [a] (tCons (teM P fun G t=>(ma G t).fz) tNil) → PE X (.Call (.Attribute (.Name x npos) "append" apos) [a] [] cpos) (tBM X.K "list" rAppend (tVar i) (tCons (teM P fun G t=>(ma G t).fz) tNil)))
    (hs:starEach [a] X.env = [(false,eval a X.env)]) (hsw:swapsWith (.Call (.Attribute (.Name x npos) "append" apos) [a] [] cpos) none pos.line X.env = pure false) :
    SS X P (.Expr (.Call (.Attribute (.Name x npos) "append" apos) [a] [] cpos) pos) (sApp i ma):=by
  refine L2.PS.imp (ps_expr (h (pe_var hN hv hd hcd) (pa_cons ha.fz pa_nil hs)) hsw) fun D σ H ⟨B,As,F,G,t,R,p⟩=>?_
  unfold sApp at p
  split at p
  · rename_i xs e
    obtain ⟨q,vs,ev,hq,hda⟩:=slot_l R e
    refine ⟨.ref q,ev,.inl ⟨rfl,_,SqL.of hq⟩,As,F,G,t,R.rel,bindSE R p fun As1 F1 H1 v1 r1 t1 _ g R1 x1 fr p1=>?_⟩
    cases r1 with
    | d y =>
      have p1:PostS P B F1 D (if xs.length < 16777216 then .nx (G.set i (.l (xs ++ [y]))) t1 else .stuck):=p1
      by_cases hz:xs.length < 16777216
      · rw [if_pos hz] at p1
        obtain ⟨q',vs',ev',hq',hda'⟩:=slot_l R1 e
        rw [ev] at ev'
        cases ev'
        exact ⟨q,vs',v1,rfl,rfl,hq',by rw [hda'.length,sizeLine_eq]; exact hz,p1 As1 F1 σ _ (R1.write e ev hq' (hda'.append (DpAll.one x1))) (Same.refl _)⟩
      · rw [if_neg hz] at p1; exact p1.elim
    | l _=>exact False.elim p1
    | b _=>exact False.elim p1
    | a _=>exact False.elim p1
    | s=>exact False.elim p1
  · exact p.elim
/-- xs[i] = e, xs a list of one's own -/
def sPut (i:Nat) (mi m:EM):SM:=fun G t=>(m G t).fz.bindS G fun r t=>match r with
  | .d x=>(match G[i]? with
    | some (.l _)=>(mi G t).fz.bindS G fun r2 t=>(match r2,G[i]? with
      | .d (.int k),some (.l xs)=>(match ixN xs.length k with
        | some j=>.nx (G.set i (.l (xs.set j x))) t
        | none=>.stuck)
      | _,_=>.stuck)
    | _=>.stuck)
  | _=>.stuck
theorem ss_put {i:Nat} {x:Str} {p':Pos} (hN:X.N[i]? = some x) (hv:Vis X.env.scope x) (hd:(x == ("__debug__" : Str)) = false) (hcd:(x == ("__classdict__" : Str)) = false) (hi:SE X P b mb) (ha:SE X P a ma)
    (h:PE X (.Name x npos) (tVar i) → PE X b (teM P fun G t=>(mb G t).fz) → PE X a (teM P fun G t=>(ma G t).fz) → PS X (.Assign [.Subscript (.Name x npos) b p'] a pos) (tAsg (teM P fun G t=>(ma G t).fz) (gSub (tVar i) (teM P fun G t=>(mb G t).fz) rSetL))) :
    SS X P (.Assign [.Subscript (.Name x npos) b p'] a pos) (sPut i mb ma):=by
  refine L2.PS.imp (h (pe_var hN hv hd hcd) hi.fz ha.fz) fun D σ H ⟨B,As,F,G,t,R,p⟩=>⟨As,F,G,t,R.rel,bindSE R p fun As1 F1 H1 v1 r1 t1 _ g R1 x1 fr p1=>?_⟩
  cases r1 with
  | d y =>
    cases e:G[i]? with
    | none=>simp only [e] at p1; exact p1.elim
    | some s =>
      cases s with
      | l xs =>
        simp only [e] at p1
        obtain ⟨q,vs,ev,hq,hda⟩:=slot_l R1 e
        refine ⟨.ref q,ev,As1,F1,G,t1,R1.rel,bindSE R1 p1 fun As2 F2 H2 v2 r2 t2 em2 g2 R2 x2 fr2 p2=>?_⟩
        clear em2
        split at p2
        · rename_i k xs' ex
          cases ex
          split at p2
          · rename_i j ej
            cases x2
            obtain ⟨q',vs',ev',hq',hda'⟩:=slot_l R2 e
            rw [ev] at ev'
            cases ev'
            have x1':=x1.mono g2
            exact ⟨q,vs',k,j,rfl,rfl,hq',by rw [hda'.length]; exact ej,p2 As2 F2 σ _ (R2.write e ev hq' (DpAll.set x1' j hda')) (Same.refl _)⟩
          · exact p2.elim
        · exact p2.elim
      | _=>simp only [e] at p1; exact p1.elim
  | l _=>exact False.elim p1
  | b _=>exact False.elim p1
  | a _=>exact False.elim p1
  | s=>exact False.elim p1
end
/-- the slot's list is given away: no change for Python -/
def sFrz (i:Nat) (m:SM):SM:=fun G t=>match G[i]? with
  | some (.l xs)=>m (G.set i (.d (.list xs))) t
  | _=>m G t
theorem RelS.frz {P:Pm} {B:Bs} {As:List Addr} {F H:Hp} {G:Gm} {t:Option DS} {σ:Sg} {i:Nat} {xs:List D} (R:RelS P B As F G t σ H) (e:G[i]? = some (.l xs)) :
    ∃ q vs,σ[i]? = some (some (.ref q)) ∧ H q = some (.lst vs) ∧ F q = none ∧ DpAll P.K F vs xs ∧ Same F (upd F q (.lst vs)) ∧ RelS P B As (upd F q (.lst vs)) (G.set i (.d (.list xs))) t σ H:=by
  obtain ⟨v,e1,q,vs,e2,b1,b2,b3,b4⟩:=R.rel.slot i _ e
  subst e2
  have hi:i < G.length:=(List.getElem?_eq_some_iff.mp e).1
  have hB:=R.own i xs q e e1
  have k:Same F (upd F q (.lst vs)):=fun b o z=>by rw [upd_ne (ne_of_none z b2)]; exact z
  have kH:Same (upd F q (.lst vs)) H:=fun b o z=>by
    by_cases hb:b = q
    · subst hb; rw [upd_same] at z; cases z; exact b3
    · rw [upd_ne hb] at z; exact R.rel.sub b o z
  refine ⟨q,vs,e1,b3,b2,b4,k,⟨⟨kH,⟨R.rel.st.ok.mono (KM.of k),fun r hr=>?_,R.rel.st.tn.upd trivial⟩,by simp [R.rel.len],fun j s ej=>?_,fun j l zs us w n e1 e2 e3 e4=>?_⟩,⟨R.gr.ff.trans k,kH,R.gr.hh,fun r er z=>?_,R.gr.dd,R.gr.ss,R.gr.ll⟩,fun j zs r ej er=>?_,R.lk⟩⟩
  · rw [upd_ne (fun z=>b1 (by rw [← z]; exact hr))]; exact R.rel.st.sf r hr
  · by_cases hj:j = i
    · subst hj
      rw [List.getElem?_set_self hi] at ej
      cases ej
      exact ⟨_,e1,Dp.lst (SqL.of upd_same) (DpAll.mono k _ _ b4)⟩
    · rw [List.getElem?_set_ne (Ne.symm hj)] at ej
      have sl:=R.rel.slot j s ej
      cases s with
      | un=>trivial
      | d x=>obtain ⟨w,h1,h2⟩:=sl; exact ⟨w,h1,Dp.mono k _ _ h2⟩
      | l zs =>
        obtain ⟨w,h1,r,us,h2,c1,c2,c3,c4⟩:=sl
        subst h2
        refine ⟨_,h1,r,us,rfl,c1,?_,c3,DpAll.mono k _ _ c4⟩
        rw [upd_ne (fun z=>R.rel.inj j i zs xs (.ref r) hj ej e h1 (by rw [z]; exact e1))]
        exact c2
      | c th =>
        obtain ⟨w,h1,h2⟩:=sl
        exact ⟨w,h1,P.xi.mono k ⟨[],(List.append_nil _).symm⟩ h2⟩
      | a _=>exact sl
      | s=>exact sl
      | e c fs =>
        obtain ⟨a',dd,h1,h2,ex⟩:=sl
        refine ⟨a',dd,h1,h2,?_⟩
        rcases ex with ex | ⟨a2,vs2,e3,c1,c2,c3⟩
        · exact .inl ex
        · exact .inr ⟨a2,vs2,e3,c1,c2,c3.mono k⟩
  · have nj:∀ {a:Nat} {zs:List PyData},(G.set i (.d (.list xs)))[a]? = some (.l zs) → a ≠ i:=fun {a zs} q z=>by subst z; rw [List.getElem?_set_self hi] at q; cases q
    have n1:=nj e1
    have n2:=nj e2
    rw [List.getElem?_set_ne (Ne.symm n1)] at e1
    rw [List.getElem?_set_ne (Ne.symm n2)] at e2
    exact R.rel.inj j l zs us w n e1 e2 e3 e4
  · rw [upd_ne (fun z'=>z (by rw [z']; exact hB))]; exact R.gr.nn r er z
  · by_cases hj:j = i
    · subst hj; rw [List.getElem?_set_self hi] at ej; cases ej
    · rw [List.getElem?_set_ne (Ne.symm hj)] at ej; exact R.own j zs r ej er
theorem ss_frz {X:Cx} {P:Pm} {st:Stmt} {m:SM} {i:Nat} (h:SS X P st m):SS X P st (sFrz i m):=by
  refine L2.PS.imp h fun D σ H ⟨B,As,F,G,t,R,p⟩=>?_
  unfold sFrz at p
  split at p
  · rename_i xs e
    obtain ⟨q,vs,_,_,_,_,k,R2⟩:=R.frz e
    exact ⟨B,As,_,_,t,R2,p.re k⟩
  · exact ⟨B,As,F,G,t,R,p⟩
def whileL (c:BM) (body:SM):Nat → SM
  | 0,_,_=>.stuck
  | n + 1,G,t=>(c G t).bindS G fun k t=>if k then (match body G t with
      | .nx G1 t1=>whileL c body n G1 t1
      | .ct G1 t1=>whileL c body n G1 t1
      | .bk G1 t1=>.nx G1 t1
      | o=>o) else .nx G t
theorem ss_while {X:Cx} {P:Pm} {c:Expr} {body:List Stmt} {mc:BM} {mb:SM} {pos:Pos} (n:Nat) (hp:PassesOwn (model X.prog X.w) X.A X.env X.xe) (hc:SB X P c mc) (hb:SSs X P body mb):SS X P (.While c body [] pos) (whileL mc mb n):=by
  refine L2.PS.imp (ps_while hp hc hb) fun D σ H ⟨B,As,F,G,t,R,p⟩=>?_
  refine ⟨fun m σ H=>∃ As F G t,RelS P B As F G t σ H ∧ PostS P B F D (whileL mc mb m G t),⟨n,As,F,G,t,R,p⟩,?_⟩
  rintro m σ1 H1 ⟨As1,F1,G1,t1,R1,p1⟩
  cases m with
  | zero=>exact p1.elim
  | succ m =>
    refine ⟨As1,F1,G1,t1,R1.rel,bindSB R1 p1 fun As2 F2 H2 k t2 _ g2 R2 p2=>?_⟩
    cases k with
    | false=>exact p2 As2 F2 σ1 H2 R2 (Same.refl _)
    | true =>
      rw [if_pos rfl] at p2
      rw [if_pos rfl]
      refine ⟨fun σ' H'=>∃ As F G t,RelS P B As F G t σ' H' ∧ PostS P B F D (whileL mc mb m G t),fun σ' H' z=>⟨m,Nat.lt_succ_self _,z⟩,B,As2,F2,G1,t2,R2,?_⟩
      cases eb:mb G1 t2 with
      | nx G4 t4=>simp only [eb] at p2; exact fun As' F' σ' H' r k=>⟨As',F',G4,t4,r,p2.re k⟩
      | ct G4 t4=>simp only [eb] at p2; exact fun As' F' σ' H' r k=>⟨As',F',G4,t4,r,p2.re k⟩
      | bk G4 t4=>simp only [eb] at p2; exact p2
      | rt v t4=>simp only [eb] at p2; exact p2
      | rl v t4=>simp only [eb] at p2; exact p2
      | ra v t4=>simp only [eb] at p2; exact p2
      | ex c fs G4 t4=>simp only [eb] at p2; exact p2
      | stuck=>simp only [eb] at p2; exact p2.elim
end DL
end
section
namespace DL
open PySem PySem.Spec PyProof.Rows L2
variable [Tbs]
/-- a def's promise, called where no guard stands -/
structure FnG (P:Program) (w:World) (K:PySem.W.Frag) (mg:Str → Option Value) (base:Heap) (k:Nat) (f:Addr) (fd:FuncData) (ps:List Str) (sp:Sp):Prop where
  len:∀ {vs:List V} {H:Hp} {Q:VK} {E:XK},sp vs H Q E → vs.length = ps.length
  run:∀ {A:Around} {outer:List Env} {s:Shared} {H:Hp} {args:Args} {us:List Value} {vs:List V} {Q:VK} {E:XK},Room k A → A.guards = some [] → Env0 P w K mg base A outer s H → BindsTo s fd args (ps.zip us) →
    Vals vs us → sp vs H Q E → codeAny (model P w) A (.call (.ref f) args) (CR (L2.CX P w) outer P w H s Q E) s
theorem FnG.more {P:Program} {w:World} {K:PySem.W.Frag} {mg:Str → Option Value} {base:Heap} {j k:Nat} {f:Addr} {fd:FuncData} {ps:List Str} {sp:Sp} (F:FnG P w K mg base j f fd ps sp) (h:j ≤ k):FnG P w K mg base k f fd ps sp:=
  ⟨F.len,fun r g e b v q=>F.run (r.mono h) g e b v q⟩
/-- an end of a body as an end of the call -/
theorem body_end {X:Cx} {P:Program} {w:World} {outer:List Env} {s s':Shared} {H:Hp} {Q:VK} {E:XK} {fl:Flow} (h1:X.prog = P) (h2:X.w = w) (h3:X.s_0 = s) (h4:X.H_0 = H) (h5:X.outer = outer) (h6:X.ex = [])
    (h:SP X [] { nx:=fun _ H'=>Q .non H',rt:=Q } fl s'):CR (L2.CX P w) outer P w H s Q E (.ok (.ret (match (generalizing:=false) fl with | .ret v=>v | _=>.none))) s':=by
  subst h1 h2 h3 h4 h5
  have all:∀ {τ:Sg} {J:Hp} {v:V} {u:Value},Inv X [] τ J s' → RelV v u → Q v J → CE X.outer X.prog X.w X.H_0 X.s_0 Q u s':=fun {τ J v u} I r q =>
    ⟨v,J,I.os,I.bare,by have b:=I.base; rw [h6] at b; exact b,I.hok,r,q⟩
  cases fl with
  | next =>
    obtain ⟨τ,J,I,q⟩:=h
    exact all (v:=.non) (u:=.none) I rfl q
  | ret u =>
    obtain ⟨v,τ,J,I,r,q⟩:=h
    exact all I r q
  | brk =>
    obtain ⟨_,_,_,q⟩:=h
    exact q.elim
  | cont =>
    obtain ⟨_,_,_,q⟩:=h
    exact q.elim
abbrev cxG (P:Program) (w:World) (K:PySem.W.Frag) (mg:Str → Option Value) (base:Heap) (N:List Str) (qual:Str) (scope:Scope) (f:Addr) (cdv:Value) (A:Around) (outer:List Env) (s:Shared) (H:Hp) (E:XK):Cx:=
  cxOf (L2.CX P w) P w K mg base N qual scope f cdv A outer s H E
/-- the code object of the def at f -/
def CodeAt (K:PySem.W.Frag) (f:Addr) (cdv:Value):Prop:=∃ (oc:Value) (od:Option Addr) (fd:FuncData) (osl:Array (Option Value)),K.lookup f = some ⟨oc,od,.func fd,osl⟩ ∧ fd.code = cdv ∧ ∃ q,PySem.W.codeIn K cdv q = true
/-- a def by its body -/
theorem fnG_of {P:Program} {w:World} {K:PySem.W.Frag} {mg:Str → Option Value} {base:Heap} {k:Nat} {f:Addr} {fd:FuncData} {x qual:Str} {params:Arguments} {body:List Stmt} {scope:Scope} {dvs:List V} {kws:List (Str × V)} {N ps:List Str} {sp:Sp}
    (F:FunD K x qual params body scope dvs kws f fd) (S:FnScope N ps scope) (hlen:∀ {vs:List V} {H:Hp} {Q:VK} {E:XK},sp vs H Q E → vs.length = ps.length)
    (hb:∀ {cdv:Value} {A:Around} {outer:List Env} {s:Shared} {H:Hp} {vs:List V} {Q:VK} {E:XK},Room k (A.deeper (envOfC qual scope s.heap.objs.size f cdv)) → A.guards = some [] → CodeAt K f cdv → sp vs H Q E →
      ∃ t,PSs (cxG P w K mg base N qual scope f cdv A outer s H E) body t ∧ t { nx:=fun _ H'=>Q .non H',rt:=Q } (L2.start N vs) H):FnG P w K mg base (k + 1) f fd ps sp:=by
  obtain ⟨oc,od,dV,kV,doc,pm,an,cdv,ct,osl,rfl,lk,hcd,_,_⟩:=F.ex
  refine ⟨hlen,fun {A outer s H args us vs Q E} hr hg e0 bd rv hsp=>?_⟩
  have old:∀ b o,base.get? b = some o → s.heap.get? b = some o:=fun b o e=>(e0.bs b o e).1
  have inK:K.In s.heap:=e0.mod.kin.keeps old
  have nolim:s.heap.NoLimit:=e0.mod.nolimit.keeps old
  refine codeAny_call_function hr.depth (inK _ _ lk) rfl S.co S.gen rfl (PySem.W.codeRec_of inK hcd) (bd _ _ _ _ ?_)
  refine wpAny_newFunctionEnv_cells S.kind (fun y hy=>?_) fun env he s1 inn=>?_
  · have hy1:y.1 ∈ ps:=(List.of_mem_zip (show (y.1,y.2) ∈ ps.zip us from hy)).1
    rcases S.par y.1 hy1 with z | z
    · exact .inl z
    · exact .inr ⟨z,PySem.W.cellsFrom_some _ _ _ (.inl z)⟩
  · subst he
    refine ⟨nolim.keeps inn.toInCall.keep,codeAny_func ?_⟩
    obtain ⟨t,ht,hq⟩:=hb (hr.deeper _) hg ⟨oc,od,_,osl,lk,rfl,_,hcd⟩ hsp
    have I:=inv_start (CX:=L2.CX P w) (E:=E) S hr.hd e0 (hlen hsp) rv inn
    exact wpAny_mono (ht.run [] s1 (L2.start N vs) H _ I hq) (fun fl s' z=>body_end rfl rfl rfl rfl rfl rfl z) fun e s' z=>z
abbrev FM:=List Rv → Option DS → Rs Rv
def Rv.arg:Rv → Option Sl
  | .d x=>some (.d x)
  | .s=>some .s
  | .a k=>some (.a k)
  | _=>none
def argsG:List Rv → Option Gm
  | []=>some []
  | r :: rs=>r.arg.bind fun x=>(argsG rs).map (x :: ·)
/-- m run: its slots n, the arguments first -/
def runM (m:SM) (n:Nat):FM:=fun rs t=>match argsG rs with
  | none=>.stuck
  | some G=>match m (G ++ List.replicate (n - G.length) .un) t with
    | .nx _ t=>.ok (.d .none) t
    | .rt x t=>.ok (.d x) t
    | .rl xs t=>.ok (.l xs) t
    | .ra k t=>.ok (.a k) t
    | .ex c fs _ t=>.ex c fs t
    | _=>.stuck
def xP (K:PySem.W.Frag) (mg:Str → Option Value) (E:XK):Pm:=⟨K,mg,XI.no,fun c d _ H=>E c d H⟩
def spM (K:PySem.W.Frag) (mg:Str → Option Value) (n:Nat) (f:FM):Sp:=fun vs H Q E=>vs.length = n ∧ ∃ As F t rs,Same F H ∧ StF As t F H ∧ Paired (VOk K As F H) vs rs ∧ PostE (xP K mg E) As F H [] Q (f rs t)
theorem spM_len {K:PySem.W.Frag} {mg:Str → Option Value} {ps:List Str} {f:FM} {vs:List V} {H:Hp} {Q:VK} {E:XK} (h:spM K mg ps.length f vs H Q E):vs.length = ps.length:=h.1
/-- the arguments in the slots -/
theorem args_slots {K:PySem.W.Frag} {xi:XI} {As:List Addr} {F H:Hp}:∀ {rs:List Rv} {vs:List V} {G:Gm},Paired (VOk K As F H) vs rs → argsG rs = some G →
    G.length = vs.length ∧ (∀ (i:Nat) (x:Sl),G[i]? = some x → SlOk K xi As F H (vs.map some)[i]? x) ∧ ∀ (i:Nat) xs,G[i]? ≠ some (.l xs)
  | _,_,G,.nil,e=>by cases e; exact ⟨rfl,fun i x h=>by simp at h,fun i xs h=>by simp at h⟩
  | _,_,G,@Paired.cons _ _ _ v r vs rs h t,e=>by
    simp only [argsG,Option.bind_eq_some_iff,Option.map_eq_some_iff] at e
    obtain ⟨x,e1,G',e2,rfl⟩:=e
    obtain ⟨l,g,n⟩:=args_slots t e2
    refine ⟨by simp [l],fun i y hy=>?_,fun i xs hy=>?_⟩
    · cases i with
      | zero =>
        simp at hy
        subst hy
        cases r with
        | d z=>cases e1; exact ⟨v,by simp,h⟩
        | a _=>cases e1; obtain ⟨a,e3,e4⟩:=h; exact ⟨a,by simp [e3],e4⟩
        | s=>cases e1; obtain ⟨a,e3,e4⟩:=h; exact ⟨a,by simp [e3],e4⟩
        | l z=>cases e1
        | b z=>cases e1
      | succ i=>simpa using g i y (by simpa using hy)
    · cases i with
      | zero =>
        simp at hy
        subst hy
        cases r <;> cases e1
      | succ i=>exact n i xs (by simpa using hy)
theorem rel_start {K:PySem.W.Frag} {mg:Str → Option Value} {As:List Addr} {F H:Hp} {N:List Str} {rs:List Rv} {vs:List V} {G:Gm} {t:Option DS} {W:WX} (hl:vs.length ≤ N.length) (k:Same F H) (s:StF As t F H) (h:Paired (VOk K As F H) vs rs) (e:argsG rs = some G) :
    RelS ⟨K,mg,XI.no,W⟩ ⟨As,F,H,[]⟩ As F (G ++ List.replicate (N.length - G.length) .un) t (L2.start N vs) H:=by
  obtain ⟨l,g,n⟩:=args_slots (xi:=XI.no) h e
  have low:∀ (i:Nat) (x:Sl),(G ++ List.replicate (N.length - G.length) Sl.un)[i]? = some x → x = .un ∨ G[i]? = some x:=fun i x hx=>by
    by_cases hi:i < G.length
    · rw [List.getElem?_append_left hi] at hx; exact .inr hx
    · rw [List.getElem?_append_right (by omega),List.getElem?_replicate] at hx
      split at hx
      · exact .inl (Option.some.inj hx).symm
      · cases hx
  have nol:∀ (i:Nat) xs,(G ++ List.replicate (N.length - G.length) Sl.un)[i]? ≠ some (.l xs):=fun i xs hx=>by
    rcases low i _ hx with z | z
    · cases z
    · exact n i xs z
  refine ⟨⟨k,s,?_,fun i x hx=>?_,fun i j xs ys v _ hx=>absurd hx (nol i xs)⟩,.refl k,fun i xs p hx=>absurd hx (nol i xs),fun q hq=>nomatch hq⟩
  · unfold L2.start
    simp only [List.length_append,List.length_replicate,List.length_map,l]
  · rcases low i x hx with z | z
    · subst z; exact trivial
    · have hi:i < vs.length:=by
        rw [← l]
        exact (List.getElem?_eq_some_iff.mp z).1
      have q:=g i x z
      have e2:(L2.start N vs)[i]? = (vs.map some)[i]?:=by
        unfold L2.start
        rw [List.getElem?_append_left (by simpa using hi)]
      show SlOk K XI.no As F H (L2.start N vs)[i]? x
      rw [e2]
      exact q
/-- a def that computes its m -/
theorem fnM {P:Program} {w:World} {K:PySem.W.Frag} {mg:Str → Option Value} {base:Heap} {k:Nat} {f:Addr} {fd:FuncData} {x qual:Str} {params:Arguments} {body:List Stmt} {scope:Scope} {dvs:List V} {kws:List (Str × V)} {N ps:List Str} {m:SM}
    (F:FunD K x qual params body scope dvs kws f fd) (S:FnScope N ps scope) (hps:ps.length ≤ N.length)
    (hb:∀ {cdv:Value} {A:Around} {outer:List Env} {s:Shared} {H:Hp} {E:XK},Room k (A.deeper (envOfC qual scope s.heap.objs.size f cdv)) → A.guards = some [] → CodeAt K f cdv →
      SSs (cxG P w K mg base N qual scope f cdv A outer s H E) (xP K mg E) body m):FnG P w K mg base (k + 1) f fd ps (spM K mg ps.length (runM m N.length)):=by
  refine fnG_of F S spM_len fun {cdv A outer s H vs Q E} hr hg ca h=>⟨_,hb hr hg ca,?_⟩
  obtain ⟨hl,As,F0,t,rs,k0,s0,hv,q⟩:=h
  unfold runM at q
  split at q
  · exact q.elim
  · rename_i G eG
    refine ⟨⟨As,F0,H,[]⟩,As,F0,_,t,rel_start (mg:=mg) (by rw [hl]; exact hps) k0 s0 hv eG,?_⟩
    generalize G ++ List.replicate (N.length - G.length) Sl.un = G0 at q
    cases e:m G0 t with
    | nx G' t' =>
      rw [e] at q
      exact fun As' F' σ' H' R _=>q As' F' H' .non R.gr R.rel.st .non trivial
    | rt y t' =>
      rw [e] at q
      exact fun As' F' H' v g st _ d=>q As' F' H' v g st d trivial
    | rl y t' =>
      rw [e] at q
      exact fun As' F' H' v g st _ d n=>q As' F' H' v g st d n
    | ra y t' =>
      rw [e] at q
      exact fun As' F' H' v g st _ d=>q As' F' H' v g st d trivial
    | bk G' t'=>rw [e] at q; exact q.elim
    | ct G' t'=>rw [e] at q; exact q.elim
    | ex c fs G' t' =>
      rw [e] at q
      exact fun As' F' σ' H' C d mc R _ xa=>q As' F' H' C d mc R.gr R.rel.st xa
    | stuck=>rw [e] at q; exact q.elim
/-- a def that may be called by its name: ds fill up -/
structure CalM (P:Program) (w:World) (K:PySem.W.Frag) (mg:Str → Option Value) (base:Heap) (k n:Nat) (x:Str) (f:FM) (dvs:List D):Prop where
  ex:∃ (a:Addr) (fd:FuncData) (ps:List Str) (ds:List Value) (vs:List V),FnG P w K mg base k a fd ps (spM K mg ps.length f) ∧ mg x = some (.ref a) ∧ PySem.W.keepIn K (.ref a) = true ∧ Binds K fd ps ds ∧ Vals vs ds ∧ ps.length = n ∧ vs.length = dvs.length ∧ ∀ F,DpAll K F vs dvs
theorem CalM.more {P:Program} {w:World} {K:PySem.W.Frag} {mg:Str → Option Value} {base:Heap} {j k n:Nat} {x:Str} {f:FM} {dvs:List D} (c:CalM P w K mg base j n x f dvs) (h:j ≤ k):CalM P w K mg base k n x f dvs:=by
  obtain ⟨a,fd,ps,ds,vs,F,r⟩:=c.ex
  exact ⟨a,fd,ps,ds,vs,F.more h,r⟩
def mCall (n:Nat) (f:FM) (dvs:List D) (m:AM):EM:=fun G t=>(m G t).bind fun rs t=>if rs.length + dvs.length = n then f (rs ++ dvs.map Rv.d) t else .stuck
theorem vals_d {K:PySem.W.Frag} {As:List Addr} {F H:Hp}:∀ {vs:List V} {ds:List D},DpAll K F vs ds → Paired (VOk K As F H) vs (ds.map Rv.d)
  | _,[],h=>by cases h; exact .nil
  | _,d :: ds,h=>by
    cases h with
    | cons h1 h2=>exact .cons h1 (vals_d h2)
theorem pair_app {α β:Type} {R:α → β → Prop}:∀ {a c:List α} {b d:List β},Paired R a b → Paired R c d → Paired R (a ++ c) (b ++ d)
  | _,_,_,_,.nil,h=>h
  | _,_,_,_,.cons h t,h2=>.cons h (pair_app t h2)
section
variable {X:Cx} {P:Pm} {k j n:Nat} {x:Str} {f:FM} {dvs:List D} {e:Expr} {es:List Expr} {m:AM} {p pos:Pos}
/-- a callee's exceptions reach the caller's wish -/
theorem call_run {pins:List (Addr × Obj)} {σ:Sg} {H:Hp} {s:Shared} {Q:VK} {us:List Value} {vs wv:List V} {a:Addr} {fd:FuncData} {ps:List Str} {ds:List Value} {sp:Sp} (F:FnG X.prog X.w X.K X.mg X.base k a fd ps sp) (hr:Room k X.A) (hg:X.A.guards = some []) (tk:Takes X P.W)
    (hb:Binds X.K fd ps ds) (hd:Vals wv ds) (I:Inv X pins σ H s) (r:Vals vs us) (h:sp (vs ++ wv) H Q (WE P.W σ)):wpAny (model X.prog X.w) X.A (call (.ref a) us) (EP X pins σ Q) X.xe s:=by
  have rr:Vals (vs ++ wv) (us ++ ds):=r.append hd
  have bd:=hb s us I.kIn (by rw [← rr.length]; exact F.len h)
  refine wpAny_call (codeAny_mono (F.run hr hg I.env0 bd rr h) fun res s' q=>?_)
  cases res with
  | error er=>exact passAt tk σ pins H s er s' I q
  | ok fl =>
    cases fl with
    | ret u=>exact I.after q
    | next=>exact q.elim
    | brk=>exact q.elim
    | cont=>exact q.elim
theorem call_te {ps:List Str} {wv:List V} {K:PySem.W.Frag} {mg:Str → Option Value} {As:List Addr} {F H:Hp} {t:Option DS} {σ:Sg} {G:Gm} {rs:List Rv} {vs:List V} {Q:VK} (hK:P.K = K) (hm:P.mg = mg) (R:Rel P.K P.xi As F G t σ H) (hl:(vs ++ wv).length = ps.length) (hv:Paired (VOk P.K As F H) vs rs)
    (hd:DpAll P.K F wv dvs) (h:PostE P As F H σ Q (f (rs ++ dvs.map Rv.d) t)):spM K mg ps.length f (vs ++ wv) H Q (WE P.W σ):=by
  subst hK hm
  refine ⟨hl,As,F,t,_,R.sub,R.st,pair_app hv (vals_d hd),?_⟩
  cases e:f (rs ++ dvs.map Rv.d) t with
  | ok r t'=>rw [e] at h; exact h
  | ex c fs t'=>rw [e] at h; exact h
  | stuck=>rw [e] at h; exact h
theorem calm_te {pins:List (Addr × Obj)} {σ:Sg} {H:Hp} {s:Shared} {Q:VK} (c:CalM X.prog X.w X.K X.mg X.base k n x f dvs) (hK:P.K = X.K) (hm:P.mg = X.mg) (hr:Room k X.A) (hg:X.A.guards = some []) (tk:Takes X P.W) {As:List Addr} {F:Hp} {t:Option DS} {G:Gm} {rs:List Rv} {vs:List V} {us:List Value}
    (R:Rel P.K P.xi As F G t σ H) (hv:Paired (VOk P.K As F H) vs rs) (I:Inv X pins σ H s) (r:Vals vs us) (h:PostE P As F H σ Q (if rs.length + dvs.length = n then f (rs ++ dvs.map Rv.d) t else .stuck)) :
    ∃ a,X.mg x = some (.ref a) ∧ PySem.W.keepIn X.K (.ref a) = true ∧ wpAny (model X.prog X.w) X.A (call (.ref a) us) (EP X pins σ Q) X.xe s:=by
  obtain ⟨a,fd,ps,ds,wv,F1,m1,k1,b1,d1,l1,l2,a1⟩:=c.ex
  by_cases hn:rs.length + dvs.length = n
  · rw [if_pos hn] at h
    refine ⟨a,m1,k1,call_run F1 hr hg tk b1 d1 I r (call_te (ps:=ps) hK hm R ?_ hv (by rw [hK]; exact a1 F) h)⟩
    rw [List.length_append,hv.length,l2,l1,hn]
  · rw [if_neg hn] at h; exact h.elim
theorem se_call (c:CalM X.prog X.w X.K X.mg X.base k n x f dvs) (hK:P.K = X.K) (hm:P.mg = X.mg) (hr:Room j X.A) (hk:k ≤ j) (hg:X.A.guards = some []) (tk:Takes X P.W) (hgl:Gl X x) (ha:SA X P (e :: es) m)
    (he:starEach (e :: es) X.env = (false,eval e X.env) :: starEach es X.env) (hpl:(backTo pos (starEach es X.env)).any (·.1) = false) (hdb:(x == ("__debug__" : Str)) = false):SE X P (.Call (.Name x p) (e :: es) [] pos) (mCall n f dvs m):=by
  obtain ⟨a,fd,ps,ds,wv,F1,m1,k1,_⟩:=id c.ex
  refine ⟨fun pins s σ H Q I h=>?_⟩
  obtain ⟨As,F,G,t,R,q⟩:=h
  refine wpAny_Call_Name_kw (ld_glob I hgl m1 ?_ hdb)
  refine PySem.W.callWith_K (h₀:=X.base) I.ok.mod.kin k1 (thn (ha.run pos pins s σ H (fun vs H1=>∃ As1 F1 t1 rs,Rel P.K P.xi As1 F1 G t1 σ H1 ∧ Paired (VOk P.K As1 F1 H1) vs rs ∧ PostE P As1 F1 H1 σ Q (if rs.length + dvs.length = n then f (rs ++ dvs.map Rv.d) t1 else .stuck)) I
    ⟨As,F,G,t,R,bindAE R q fun As1 F1 H1 vs rs t1 er g1 R1 x1 p1=>?_⟩) fun us s1 z=>?_) he hpl
  · exact ⟨As1,F1,t1,rs,R1,x1,p1⟩
  · obtain ⟨vs,H1,I1,r1,As1,F1,t1,rs,R1,x1,p1⟩:=z
    refine ⟨I1.kIn,?_⟩
    obtain ⟨b,m2,_,z⟩:=calm_te c hK hm (hr.mono hk) hg tk R1 x1 I1 r1 p1
    rw [m1] at m2
    cases m2
    exact z
theorem se_call0 (c:CalM X.prog X.w X.K X.mg X.base k n x f dvs) (hK:P.K = X.K) (hm:P.mg = X.mg) (hr:Room j X.A) (hk:k ≤ j) (hg:X.A.guards = some []) (tk:Takes X P.W) (hgl:Gl X x)
    (hdb:(x == ("__debug__" : Str)) = false):SE X P (.Call (.Name x p) [] [] pos) (mCall n f dvs mNil):=by
  obtain ⟨a,fd,ps,ds,wv,F1,m1,k1,_⟩:=id c.ex
  refine ⟨fun pins s σ H Q I h=>?_⟩
  obtain ⟨As,F,G,t,R,q⟩:=h
  refine wpAny_Call_Name_kw (ld_glob I hgl m1 ?_ hdb)
  obtain ⟨b,m2,_,z⟩:=calm_te (us:=[]) c hK hm (hr.mono hk) hg tk R .nil I .nil q
  rw [m1] at m2
  cases m2
  exact PySem.W.callWith_K0 I.kIn k1 z
end
end DL
end
section
namespace DL
open PySem PySem.Spec PyProof.Rows L2
variable [Tbs]
/-- what the written part says of the own base class at U -/
structure BaseE (K:PySem.W.Frag) (mg:Str → Option Value) (U:Addr):Prop where
  gU:mg "UnitError" = some (.ref U)
  rd:PySem.W.readsIn K U (.type "type") = true
  ini:PySem.W.findCls K (.ref U) (.type "type") "__init__" = some (.val (.builtin "ValueError.__init__"))
  ga:PySem.W.specialIn K (.ref U) "__getattribute__" = some (some (.builtin "type.__getattribute__"))
/-- UnitError.__init__(self, ..) -/
theorem pe_uinit {X:Cx} {e:Expr} {es:List Expr} {ta:TA} {p1 p2 pos:Pos} {pl:Sem Bool} {U:Addr} (B:BaseE X.K X.mg U) (hg:Gl X "UnitError") (ha:PA X (e :: es) ta)
    (hc:eval (.Call (.Attribute (.Name "UnitError" p1) "__init__" p2) (e :: es) [] pos) X.env = (do
      let ov ← eval (.Name "UnitError" p1) X.env
      standAt p2.atName
      let (f,first) ← holding [ov] (getMethod ov "__init__" pl)
      callWith pos f first (backTo pos (starEach (e :: es) X.env)) (backToKw pos (keywordEach [] X.env))):=by rfl)
    (he:starEach (e :: es) X.env = (false,eval e X.env) :: starEach es X.env:=by rfl) (hpl:(backTo pos (starEach es X.env)).any (·.1) = false:=by rfl) :
    PE X (.Call (.Attribute (.Name "UnitError" p1) "__init__" p2) (e :: es) [] pos) (tVeI X.K ta):=by
  constructor
  intro pins s σ H Q I h
  refine PySem.W.methodCall_KW (ld_glob I hg B.gU ?_ (by decide)) hc
  refine PySem.W.method_cls I.kIn B.ga (PySem.W.cls_value I.kIn B.rd B.ini (by decide +kernel) ?_)
  have run:=ha.run pos pins _ σ H _ (I.tok (s.toks + 1)) h
  refine PyProof.Rows.callWith_method1 (thn run fun us s1 z=>?_) he hpl
  obtain ⟨vs,H1,I1,r1,a,C,ws,rfl,small,T,ea,q⟩:=z
  cases r1 with
  | @cons _ u0 _ ur r0 rw' =>
    obtain rfl:u0 = Value.ref a:=r0
    refine oinit_ok T I1 ea ?_ fun s' J=>⟨.non,H1,J,rfl,q⟩
    rw [← Paired.length rw',sizeLine_eq]
    omega
/-- what an __init__ of one field, of two fields leaves -/
def spX1 (K:PySem.W.Frag) (C:Addr) (f:Str):Sp:=fun vs H Q _=>∃ a v,vs = [.ref a,v] ∧ OexC K C ∧ PySem.W.findIn K (.ref C) f = some none ∧ H a = some (exo a C none) ∧
  ∀ dx,H dx = none → dx ≠ a → Q .non (upd (upd H dx (exd dx [(f,v)])) a (exo a C (some dx)))
def spX2 (K:PySem.W.Frag) (C:Addr) (f g:Str):Sp:=fun vs H Q _=>∃ a v u,vs = [.ref a,v,u] ∧ OexC K C ∧ PySem.W.findIn K (.ref C) f = some none ∧ PySem.W.findIn K (.ref C) g = some none ∧ H a = some (exo a C none) ∧
  ∀ dx,H dx = none → dx ≠ a → Q .non (upd (upd (upd H dx (exd dx [(f,v)])) a (exo a C (some dx))) dx (exd dx [(g,u),(f,v)]))
theorem spX1_len {K:PySem.W.Frag} {C:Addr} {f p q:Str} {vs:List V} {H:Hp} {Q:VK} {E:XK} (h:spX1 K C f vs H Q E):vs.length = [p,q].length:=by
  obtain ⟨a,v,rfl,_⟩:=h
  rfl
/-- the reading of such an __init__ -/
def tI1 (K:PySem.W.Frag) (f m:Str):TS:=tSeq (tDrop (tVeI K (tCons (tVar 0) (tCons (tC (.str m)) tNil)))) (tSeq (tOst K f (tVar 0) (tVar 1)) tNext)
theorem tI1_ok {K:PySem.W.Frag} {C:Addr} {f m:Str} {N:List Str} (hN:N.length = 2) {vs:List V} {H:Hp} {Q:VK} {E:XK} (h:spX1 K C f vs H Q E):tI1 K f m { nx:=fun _ H'=>Q .non H',rt:=Q } (L2.start N vs) H:=by
  obtain ⟨a,v,rfl,T,no,ea,q⟩:=h
  have s0:(L2.start N [V.ref a,v])[0]? = some (some (.ref a)):=rfl
  have s1:(L2.start N [V.ref a,v])[1]? = some (some v):=rfl
  refine ⟨.ref a,s0,a,C,[.str m],rfl,Nat.le_of_ble_eq_true rfl,T,ea,?_⟩
  refine ⟨v,s1,.ref a,s0,a,C,rfl,T,no,.inl ⟨ea,fun dx n ne=>?_⟩⟩
  exact q dx n ne
/-- an own error that may be raised by its name: C its class; fl its fields -/
structure ExcR (P:Program) (w:World) (K:PySem.W.Frag) (mg:Str → Option Value) (base:Heap) (k:Nat) (c:Str) (fl:List Str) (C:Addr):Prop where
  gC:mg c = some (.ref C)
  T:OexC K C
  xf:XfC K C
  no:∀ f ∈ fl,PySem.W.findIn K (.ref C) f = some none
  ini:∃ (fI:Addr) (fd:FuncData) (ps:List Str) (sp:Sp),PySem.W.findIn K (.ref C) "__init__" = some (some (.ref fI)) ∧ PySem.W.typeIn K (.ref fI) = some (.type "function") ∧ FnOk P w K mg base C8.CX0 k fI fd ps sp ∧ Binds K fd ps [] ∧
    ((∃ f,fl = [f] ∧ sp = spX1 K C f) ∨ ∃ f g,fl = [f,g] ∧ sp = spX2 K C f g)
def sRaise (c:Str) (fl:List Str) (m:AM):SM:=fun G t=>(m G t).bindS G fun rs t=>match dats rs with
  | some ds=>if ds.length = fl.length then .ex c (fl.zip ds).reverse G t else .stuck
  | none=>.stuck
theorem bindSA {P:Pm} {B:Bs} {As:List Addr} {F H:Hp} {G:Gm} {t:Option DS} {σ:Sg} {D:Ends} {m:Rs (List Rv)} {f:List Rv → Option DS → So} {Q:List V → Hp → Prop} (R:RelS P B As F G t σ H) (h:PostS P B F D (m.bindS G f))
    (h2:∀ As1 F1 H1 v1 r1 t1,m = .ok r1 t1 → Grow As F H As1 F1 H1 → RelS P B As1 F1 G t1 σ H1 → Paired (VOk P.K As1 F1 H1) v1 r1 → PostS P B F1 D (f r1 t1) → Q v1 H1):PostA P As F H σ Q m:=by
  cases m with
  | ok r1 t1=>exact fun As1 F1 H1 v1 g s x=>h2 As1 F1 H1 v1 r1 t1 rfl g (R.mono g s) x (h.re g.ff)
  | ex c fs t=>exact exS R h
  | stuck=>exact h
theorem heap_made {H:Hp} {a d:Addr} {x y z w:HO} (n:H a = none) (ne:d ≠ a):upd (L2.del (upd (upd (upd H a x) d y) a z) a) d w = upd H d w:=by
  funext b
  by_cases hd:b = d
  · rw [hd,upd_same,upd_same]
  · rw [upd_ne hd,upd_ne hd]
    by_cases ha:b = a
    · rw [ha,L2.del_same,n]
    · rw [L2.del_ne ha,upd_ne ha,upd_ne hd,upd_ne ha]
theorem heap_made2 {H:Hp} {a d:Addr} {x y z w y2:HO} (n:H a = none) (ne:d ≠ a):upd (L2.del (upd (upd (upd (upd H a x) d y) a z) d y2) a) d w = upd H d w:=by
  funext b
  by_cases hd:b = d
  · rw [hd,upd_same,upd_same]
  · rw [upd_ne hd,upd_ne hd]
    by_cases ha:b = a
    · rw [ha,L2.del_same,n]
    · rw [L2.del_ne ha,upd_ne hd,upd_ne ha,upd_ne hd,upd_ne ha]
section
variable {X:Cx} {P:Pm} {k j:Nat} {c:Str} {fl:List Str} {C:Addr} {e:Expr} {es:List Expr} {m:AM} {p pos pos2:Pos}
theorem ss_raise (R:ExcR X.prog X.w X.K X.mg X.base k c fl C) (hK:P.K = X.K) (hm:P.mg = X.mg) (hc:X.calm = true) (hr:Room j X.A) (hk:k + 1 ≤ j) (tk:Takes X P.W) (hgl:Gl X c) (ha:SA X P (e :: es) m)
    (he:starEach (e :: es) X.env = (false,eval e X.env) :: starEach es X.env) (hpl:(backTo pos (starEach es X.env)).any (·.1) = false) (hdb:(c == ("__debug__" : Str)) = false) :
    SS X P (.Raise (some (.Call (.Name c p) (e :: es) [] pos)) none pos2) (sRaise c fl m):=by
  obtain ⟨gC,T,xf,no,fI,fd,ps,sp,iC,tI,F1,b1,hsp⟩:=R
  refine L2.PS.imp (ps_raise hc tk (pmk_oex (dvs:=[]) (ds:=[]) T iC tI F1 (hr.mono hk) b1 .nil C8.pass0 hgl gC ha hdb he hpl)) fun D σ H ⟨B,As,F,G,t,R,q⟩=>?_
  refine ⟨As,F,G,t,R.rel,bindSA R q fun As1 F1 H1 vs rs t1 er g1 R1 x1 p1=>?_⟩
  clear er
  split at p1
  · rename_i ds eds
    split at p1
    · rename_i hl
      have hv:=dats_ok x1 eds
      have len:=hv.length
      have fin:∀ (d:Addr) (ws:List (Str × V)),H1 d = none → XdAll P.K F1 ws (fl.zip ds).reverse → P.W (.ref C) (some d) σ (upd H1 d (.xd ws)):=fun d ws n hx=>by
        obtain ⟨⟨g,s⟩,_⟩:=alloc (o:=.xd ws) R1.rel.st R1.rel.sub n
        have nA:d ∉ As1:=fun z=>R1.rel.st.ok.there d z n
        exact p1 As1 F1 σ _ C (some d) (by rw [hm]; exact gC) (R1.mono g s) (Same.refl _) (.inr ⟨d,ws,rfl,nA,upd_same,hx⟩)
      rcases hsp with ⟨f,rfl,rfl⟩ | ⟨f,g,rfl,rfl⟩
      · match ds,vs,hl,hv,len with
        | [y],[v],_,hv,_ =>
          cases hv with
          | cons hy _ =>
            refine ⟨Nat.le_of_ble_eq_true rfl,fun a na=>⟨a,v,rfl,T,no f (by simp),upd_same,fun dx n ne=>⟨rfl,dx,[(f,v)],upd_same,?_,?_,?_⟩⟩⟩
            · rw [upd_ne ne]; exact upd_same
            · rw [upd_ne ne] at n; exact n
            · rw [upd_ne ne] at n
              rw [heap_made na ne]
              exact fin dx _ n (.cons ⟨rfl,hy⟩ .nil)
      · match ds,vs,hl,hv,len with
        | [y,z],[v,u],_,hv,_ =>
          cases hv with
          | cons hy hv =>
            cases hv with
            | cons hz _ =>
              refine ⟨Nat.le_of_ble_eq_true rfl,fun a na=>⟨a,v,u,rfl,T,no f (by simp),no g (by simp),upd_same,fun dx n ne=>⟨rfl,dx,[(g,u),(f,v)],?_,upd_same,?_,?_⟩⟩⟩
              · rw [upd_ne (Ne.symm ne)]; exact upd_same
              · rw [upd_ne ne] at n; exact n
              · rw [upd_ne ne] at n
                rw [heap_made2 na ne]
                exact fin dx _ n (.cons ⟨rfl,hz⟩ (.cons ⟨rfl,hy⟩ .nil))
    · exact p1.elim
  · exact p1.elim
end
end DL
end
section
namespace DL
open PySem PySem.Spec PyProof.Rows L2
variable [Tbs]
/-- a clause: its class, the slot of its name, its suite -/
structure Cl where
  c:Value
  i:Option Nat
  ts:Addr → Value → Option Addr → TS
  c2:Option Value
def unn:Option Nat → Sg → Sg
  | some i,σ=>σ.set i none
  | none,σ=>σ
def inn (a:Addr):Option Nat → Sg → Sg
  | some i,σ=>σ.set i (some (.ref a))
  | none,σ=>σ
def endsU (i:Option Nat) (D:Ends):Ends:={ nx:=fun σ H=>D.nx (unn i σ) H,rt:=D.rt,bk:=fun σ H=>D.bk (unn i σ) H,ct:=fun σ H=>D.ct (unn i σ) H }
def wCl (K:PySem.W.Frag) (Wout:WX) (D:Ends):List Cl → WX
  | []=>Wout
  | q :: r=>fun cls d σ H=>match q.c2 with
    | none=>∃ b,PySem.W.exmOne K cls q.c = some b ∧ (b = true → ∀ a,H a = none → q.ts a cls d (endsU q.i D) (inn a q.i σ) H) ∧ (b = false → wCl K Wout D r cls d σ H)
    | some c2=>PySem.W.exmAny K cls [q.c,c2] = some true ∧ ∀ a,H a = none → q.ts a cls d (endsU q.i D) (inn a q.i σ) H
inductive ClOk (X:Cx):List ExceptHandler → List Cl → Prop
  | nil:ClOk X [] []
  | bare {x:Str} {c:Value} {ts:Addr → Value → Option Addr → TS} {st:Stmt} {sts:List Stmt} {np hp:Pos} {hds:List ExceptHandler} {l:List Cl} (hc:Names X x c)
      (hsu:∀ (a:Addr) (oe:Obj) (cls:Value) (d:Option Addr) (pn:List (Addr × Obj)),Zc cls d oe → (∃ vs,oe.data = .fields vs) → PSs (X.suite a ((a,oe) :: pn)) (st :: sts) (ts a cls d)) (r:ClOk X hds l) :
      ClOk X (.ExceptHandler (some (.Name x np)) none (st :: sts) hp :: hds) (⟨c,none,ts,none⟩ :: l)
  | named {x n:Str} {i:Nat} {c:Value} {ts:Addr → Value → Option Addr → TS} {st:Stmt} {sts:List Stmt} {np hp:Pos} {hds:List ExceptHandler} {l:List Cl} (hc:Names X x c) (hi:X.N[i]? = some n) (hl:X.env.kindOf n = some .local)
      (hsu:∀ (a:Addr) (oe:Obj) (cls:Value) (d:Option Addr) (pn:List (Addr × Obj)),Zc cls d oe → (∃ vs,oe.data = .fields vs) → PSs (X.suite a ((a,oe) :: pn)) (st :: sts) (ts a cls d)) (r:ClOk X hds l) :
      ClOk X (.ExceptHandler (some (.Name x np)) (some n) (st :: sts) hp :: hds) (⟨c,some i,ts,none⟩ :: l)
  | two {x y:Str} {c c2:Value} {ts:Addr → Value → Option Addr → TS} {st:Stmt} {sts:List Stmt} {np np2 tp hp:Pos} {kk:Nat} {hds:List ExceptHandler} {l:List Cl} (hc:Names X x c) (hc2:Names X y c2)
      (hsu:∀ (a:Addr) (oe:Obj) (cls:Value) (d:Option Addr) (pn:List (Addr × Obj)),Zc cls d oe → (∃ vs,oe.data = .fields vs) → PSs (X.suite a ((a,oe) :: pn)) (st :: sts) (ts a cls d)) (r:ClOk X hds l) :
      ClOk X (.ExceptHandler (some (.Tuple [.Name x np,.Name y np2] kk tp)) none (st :: sts) hp :: hds) (⟨c,none,ts,some c2⟩ :: l)
section
variable {X:Cx}
/-- the class's name, looked up within the clauses -/
theorem clause_name {x:Str} {c:Value} {np:Pos} (hc:Names X x c) {a:Addr} {q:Addr × Obj} {pn:List (Addr × Obj)} {σ:Sg} {H:Hp} {s:Shared} (S:L2.Inv (X.suite a (q :: pn)) [] σ H s) {Q E:Value → Shared → Prop} (z:Q c s) :
    wpAny (model X.prog X.w) (X.A.mark (some (.ref a))) (eval (.Name x np) X.env) Q E s:=by
  obtain ⟨g,nd,h | ⟨h,bv,nn⟩⟩:=hc
  · exact ld_glob (X:=X.suite a (q :: pn)) S g h z nd
  · exact ld_blt (X:=X.suite a (q :: pn)) S g h bv z nn nd
/-- out of a suite -/
theorem suite_out {a:Addr} {q:Addr × Obj} {pins:List (Addr × Obj)} {D:Ends} {fl:Flow} {s:Shared} (ok:X.Ok) (h:SP (X.suite a (q :: (X.pn ++ pins))) [] D fl s):SP X pins D fl s:=by
  cases fl with
  | next=>obtain ⟨τ,J,S,z⟩:=h; exact ⟨τ,J,S.unsuite ok,z⟩
  | brk=>obtain ⟨τ,J,S,z⟩:=h; exact ⟨τ,J,S.unsuite ok,z⟩
  | cont=>obtain ⟨τ,J,S,z⟩:=h; exact ⟨τ,J,S.unsuite ok,z⟩
  | ret u=>obtain ⟨v,τ,J,S,r,z⟩:=h; exact ⟨v,τ,J,S.unsuite ok,r,z⟩
/-- out of a try's body -/
theorem try_out {xe:Value → Shared → Prop} {pins pn':List (Addr × Obj)} {D:Ends} {fl:Flow} {s:Shared} (ok:X.Ok) (h:SP (X.tr (X.pn ++ pins) xe) pn' D fl s):SP X pins D fl s:=by
  cases fl with
  | next=>obtain ⟨τ,J,S,z⟩:=h; exact ⟨τ,J,S.ofTry ok,z⟩
  | brk=>obtain ⟨τ,J,S,z⟩:=h; exact ⟨τ,J,S.ofTry ok,z⟩
  | cont=>obtain ⟨τ,J,S,z⟩:=h; exact ⟨τ,J,S.ofTry ok,z⟩
  | ret u=>obtain ⟨v,τ,J,S,r,z⟩:=h; exact ⟨v,τ,J,S.ofTry ok,r,z⟩
theorem fly_kept {base h h':Heap} {l:List Env} {e:Addr} {Z:Obj → Prop} (f:HandSPX.FlyingZ base l e Z h) (k:∀ b o,h.get? b = some o → h'.get? b = some o):HandSPX.FlyingZ base l e Z h':=by
  obtain ⟨f1,f2,f3,oe,vs,T,oT,ts,e1,e2,e3,e4,e5,e6,e7,e8,e9⟩:=f
  exact ⟨fun b o q=>k b o (f1 b o q),f2,f3.of_keeps fun b o q _=>⟨o,k b o q,rfl⟩,oe,vs,T,oT,ts,k _ _ e1,e2,e3,e4,e5,e6,k _ _ e7,e8,e9⟩
theorem ps_tryC {body:List Stmt} {h₀:ExceptHandler} {hds:List ExceptHandler} {l:List Cl} {pos:Pos} {tb:WX → TS} {Wout:WX} (hs:X.stack = X.env :: X.outer) (hf:X.env.frame = some X.env.locals) (hN:X.N.Nodup) (tk:Takes X Wout)
    (hb:∀ (W:WX) (pn:List (Addr × Obj)) (xe:Value → Shared → Prop),Takes (X.tr pn xe) W → PassesOwn (model X.prog X.w) X.A X.env xe → PSs (X.tr pn xe) body (tb W))
    (hh:ClOk X (h₀ :: hds) l):PS X (.Try body (h₀ :: hds) [] [] pos) (fun D σ H=>tb (wCl X.K Wout D l) D σ H):=by
  constructor
  intro pins s σ H D I h
  have ok:=I.ok
  have hfr:X.A.frames = some (X.env :: X.outer):=by rw [← hs]; exact ok.frames
  refine wpAny_Try_except ?_
  have catchAll:∀ (u:Value) (s':Shared),XE (X.tr (X.pn ++ pins) fun _ _=>False) (wCl X.K Wout D l) u s' → wpAny (model X.prog X.w) X.A (noteFrame u X.env) (fun _ s₂=>wpAny (model X.prog X.w) X.A (setFlight u none) (fun _ s₃ =>
      wpAny (model X.prog X.w) X.A (handleBy u X.env (h₀ :: hds)) (SP X pins D) X.xe s₃) X.xe s₂) X.xe s':=by
    rintro u s' ⟨a,B,sI,pins',σ',H',cls,d,rfl,J',nb,up,sky,na,os,ag,wish⟩
    have J:L2.Inv X pins σ' H' sI:=J'.ofTry ok
    have sky2:Sky B (X.env :: X.outer) a (Zc cls d) X.env.locals s'.heap:=by rw [← hs]; exact sky
    refine Sky.land Zc.steady hfr hf sky2 fun h3 fl3 up3=>?_
    have J3:L2.Inv X pins σ' H' { s' with heap:=h3 }:=J.landed nb fl3.1 (up.trans up3) os ag
    obtain ⟨oe,fv,oeAt,oeZ,oeD⟩:=fl3.there
    have apart:a ∉ frs (X.env :: X.outer):=fun hm=>by
      obtain ⟨_,o2,e2,nf⟩:=fl3.2.2.1.mem hm
      rw [oeAt] at e2
      cases e2
      exact nf _ oeD
    have aL:a ≠ X.env.locals:=fun z=>apart (List.mem_filterMap.mpr ⟨X.env,List.mem_cons_self,by rw [z]; exact hf⟩)
    have aF:a ∉ X.fs:=fun hm=>by
      obtain ⟨env,m1,m2⟩:=List.mem_filterMap.mp hm
      exact apart (List.mem_filterMap.mpr ⟨env,List.mem_cons_of_mem _ m1,m2⟩)
    have S3:=J3.suite oeAt oeD na aL aF
    have typ:PySem.W.Looks (model X.prog X.w) h3 (typeOf (.ref a)) cls:=fun A Q E s kp q=>wpAny_typeOf_ref (kp _ _ oeAt) (by rw [oeZ.1]; exact q)
    have down:∀ {i:Option Nat} {ts:Addr → Value → Option Addr → TS},True:=fun {_ _}=>trivial
    clear down
    have clauses:∀ {hs2:List ExceptHandler} {l2:List Cl},ClOk X hs2 l2 → wCl X.K Wout D l2 cls d σ' H' → wpAny (model X.prog X.w) X.A (handleBy (.ref a) X.env hs2) (SP X pins D) X.xe { s' with heap:=h3 }:=by
      intro hs2 l2 k2
      induction k2 with
      | nil =>
        intro out
        refine wpAny_handleBy_nil ?_
        obtain ⟨_,_,_,oe',vs',T,_,_,e1,_,e2,e3,_⟩:=id fl3
        have onward:wpAny (model X.prog X.w) X.A (setFlight (.ref a) X.env.frame) (fun _ s4=>wpAny (model X.prog X.w) X.A (throw (.ref a):Sem Flow) (SP X pins D) X.xe s4) X.xe { s' with heap:=h3 }:=by
          rw [hf]
          refine HandSPX.setFlight_upZ fl3 fun h4 held4 up4=>wpAny_throw (tk _ _ ⟨a,B,sI,pins,σ',H',cls,d,rfl,J,nb,(up.trans up3).trans up4,.inr (.inr ?_),na,os,ag,out⟩)
          rw [hs]
          exact held4
        unfold PySem.passOn
        refine wpAny_bind (wpAny_field e1 e2 e3 ?_)
        have nz:¬ ((Value.ref T == Value.none) = true):=by simp
        rw [if_neg nz]
        first
          | exact wpAny_bind (wpAny_pure (wpAny_bind onward))
          | exact wpAny_bind onward
      | @bare x c ts st sts np hp hds2 l3 hc hsu r ih =>
        rintro ⟨b,isb,yes,no⟩
        refine wpAny_handleBy_cons (codeAny_handlers_test ?_) (by intro q; cases q)
        refine clause_name hc S3 ((PySem.W.exm_one (M:=model X.prog X.w) J3.kIn typ isb).here ?_)
        cases b with
        | false=>exact ih (no rfl)
        | true =>
          refine codeAny_handlers_suite (HandSPX.lands_againZ fl3 fun h4 fl4 up4=>?_)
          have J4:L2.Inv X pins σ' H' { s' with heap:=h4 }:=J.landed nb fl4.1 ((up.trans up3).trans up4) os ag
          obtain ⟨oe4,fv4,at4,z4,d4⟩:=fl4.there
          exact wpAny_mono ((hsu a oe4 cls d (X.pn ++ pins) z4 ⟨_,d4⟩).run [] _ _ H' _ (J4.suite at4 d4 na aL aF) (yes rfl a na)) (fun f s6 z=>suite_out ok z) fun _ _ z=>z.elim
      | @two x y c c2 ts st sts np np2 tp hp kk hds2 l3 hc hc2 hsu r ih =>
        rintro ⟨isb,yes⟩
        refine wpAny_handleBy_cons (codeAny_handlers_test ?_) (by intro q; cases q)
        refine wpAny_Tuple ?_
        refine wpAny_items_cons (clause_name hc S3 ?_)
        refine wpAny_items_cons (clause_name hc2 S3 ?_)
        refine wpAny_items_nil ⟨by size_fits,?_⟩
        have kp:∀ q o,h3.get? q = some o → (h3.push { cls:=.type "tuple",data:=.seq [c,c2].toArray }).get? q = some o:=fun _ _ z=>Heap.get?_push_of_some _ z
        refine (PySem.W.exm_tup2 (M:=model X.prog X.w) (J3.kIn.keeps kp) (typ.keeps kp) (Heap.get?_push_size h3 rfl) isb).here ?_
        refine codeAny_handlers_suite (HandSPX.lands_againZ (s:={ s' with heap:=h3.push { cls:=.type "tuple",data:=.seq [c,c2].toArray } }) (fly_kept fl3 kp) fun h4 fl4 up4=>?_)
        have J5:L2.Inv X pins σ' H' { s' with heap:=h3.push { cls:=.type "tuple",data:=.seq [c,c2].toArray } }:=J3.kept kp
        obtain ⟨oe4,fv4,at4,z4,d4⟩:=fl4.there
        have J4:L2.Inv X pins σ' H' { s' with heap:=h4 }:=J.landed nb fl4.1 (((up.trans up3).trans (fun b o e _=>⟨o.slots,kp b o e⟩)).trans up4) os ag
        exact wpAny_mono ((hsu a oe4 cls d (X.pn ++ pins) z4 ⟨_,d4⟩).run [] _ _ H' _ (J4.suite at4 d4 na aL aF) (yes a na)) (fun f s6 z=>suite_out ok z) fun _ _ z=>z.elim
      | @named x n i c ts st sts np hp hds2 l3 hc hi hl hsu r ih =>
        rintro ⟨b,isb,yes,no⟩
        refine wpAny_handleBy_cons (codeAny_handlers_test ?_) (by intro q; cases q)
        refine clause_name hc S3 ((PySem.W.exm_one (M:=model X.prog X.w) J3.kIn typ isb).here ?_)
        cases b with
        | false=>exact ih (no rfl)
        | true =>
          refine codeAny_handlers_suite_as (HandSPX.lands_againZ fl3 fun h4 fl4 up4=>?_)
          have J4:L2.Inv X pins σ' H' { s' with heap:=h4 }:=J.landed nb fl4.1 ((up.trans up3).trans up4) os ag
          obtain ⟨oe4,fv4,at4,z4,d4⟩:=fl4.there
          refine store_ok (X:=X.suite a ((a,oe4) :: (X.pn ++ pins))) (v:=.ref a) (J4.suite at4 d4 na aL aF) hN hi (.inl hl) rfl (fun s5 S5=>?_) (.inr hl)
          refine wpAny_mono ((hsu a oe4 cls d (X.pn ++ pins) z4 ⟨_,d4⟩).run [] s5 _ H' _ S5 (yes rfl a na)) (fun f s6 z=>?_) fun _ _ z=>z.elim
          cases f with
          | next=>obtain ⟨τ,H6,S6,q6⟩:=z; exact gone_ok (S6.unsuite ok) hN hi hl fun s7 J7=>⟨_,_,J7,q6⟩
          | brk=>obtain ⟨τ,H6,S6,q6⟩:=z; exact gone_ok (S6.unsuite ok) hN hi hl fun s7 J7=>⟨_,_,J7,q6⟩
          | cont=>obtain ⟨τ,H6,S6,q6⟩:=z; exact gone_ok (S6.unsuite ok) hN hi hl fun s7 J7=>⟨_,_,J7,q6⟩
          | ret u=>obtain ⟨v6,τ,H6,S6,r6,q6⟩:=z; exact gone_ok (S6.unsuite ok) hN hi hl fun s7 J7=>⟨_,_,_,J7,r6,q6⟩
    exact clauses hh wish
  refine wpAny_mono ((hb (wCl X.K Wout D l) (X.pn ++ pins) (fun e s₁=>wpAny (model X.prog X.w) X.A (noteFrame e X.env) (fun _ s₂=>wpAny (model X.prog X.w) X.A (setFlight e none) (fun _ s₃ =>
    wpAny (model X.prog X.w) X.A (handleBy e X.env (h₀ :: hds)) (SP X pins D) X.xe s₃) X.xe s₂) X.xe s₁) (fun u s' xx=>?_) PassesOwn.looking).run [] s σ H D (I.toTry _) h) (fun f s1 z=>?_) fun e s1 z=>z
  · obtain ⟨a,B,sI,pins',σ',H',cls,d,e,J',r⟩:=xx
    exact catchAll u s' ⟨a,B,sI,pins',σ',H',cls,d,e,⟨⟨J'.ok.mod,J'.ok.kind,J'.ok.glob,J'.ok.blt,J'.ok.above,J'.ok.inj,J'.ok.has,J'.ok.cab,J'.ok.hd,J'.ok.frames,J'.ok.stk,J'.ok.exf,J'.ok.bs,J'.ok.bsz,J'.ok.noex,J'.ok.exfs,J'.ok.funs,J'.ok.frf⟩,
      J'.os,J'.bare,J'.base,J'.loc,J'.cell,J'.free,J'.freeC,J'.pin,J'.hok,J'.len⟩,r⟩
  · have w:=try_out ok z
    cases f with
    | next=>exact wpAny_execs_nil w
    | brk=>exact w
    | cont=>exact w
    | ret u=>exact w
end
end DL
end
section
namespace DL
open PySem PySem.Spec PyProof.Rows L2
variable [Tbs]
structure Hd where
  c:Str
  i:Option Nat
  m:SM
  c2:Option Str
def Sl.isE:Sl → Bool
  | .e _ _=>true
  | _=>false
def noE (G:Gm):Bool:=G.all fun x=>!x.isE
def inG (c:Str) (fs:List (Str × D)):Option Nat → Gm → Gm
  | some i,G=>G.set i (.e c fs)
  | none,G=>G
def unG:Option Nat → Gm → Gm
  | some i,G=>G.set i .un
  | none,G=>G
def outU (i:Option Nat):So → So
  | .nx G t=>if noE (unG i G) then .nx (unG i G) t else .stuck
  | .bk G t=>if noE (unG i G) then .bk (unG i G) t else .stuck
  | .ct G t=>if noE (unG i G) then .ct (unG i G) t else .stuck
  | .rt x t=>.rt x t
  | .rl x t=>.rl x t
  | .ra x t=>.ra x t
  | _=>.stuck
def handleM (tab:Tab) (c:Str) (fs:List (Str × D)) (G:Gm) (t:Option DS):List Hd → So
  | []=>.ex c fs G t
  | h :: r=>match h.c2 with
    | none=>(match tab c h.c with
      | some true=>if noE G then outU h.i (h.m (inG c fs h.i G) t) else .stuck
      | some false=>handleM tab c fs G t r
      | none=>.stuck)
    | some y=>(match tab c h.c,tab c y with
      | some b1,some b2=>if (b1 || b2) && noE G then outU h.i (h.m (inG c fs h.i G) t) else .stuck
      | _,_=>.stuck)
def sTry (tab:Tab) (mb:SM) (hs:List Hd):SM:=fun G t=>match mb G t with
  | .ex c fs G t=>handleM tab c fs G t hs
  | o=>o
/-- tab tells the classes' kinship -/
def TabOk (K:PySem.W.Frag) (mg:Str → Option Value) (tab:Tab):Prop:=∀ c x b C X',tab c x = some b → mg c = some (.ref C) → mg x = some (.ref X') → PySem.W.exmOne K (.ref C) (.ref X') = some b
def Pm.su (P:Pm) (a:Addr) (d:Option Addr) (c:Str):Pm:=⟨P.K,P.mg,⟨some (a,d,c),P.xi.cl,P.xi.mono⟩,fun _ _ _ _=>False⟩
inductive HdOk (X:Cx) (P:Pm):List ExceptHandler → List Hd → Prop
  | nil:HdOk X P [] []
  | bare {x:Str} {C:Addr} {st:Stmt} {sts:List Stmt} {m:SM} {np hp:Pos} {hds:List ExceptHandler} {l:List Hd} (hg:Gl X x) (hdb:(x == ("__debug__" : Str)) = false) (hm:X.mg x = some (.ref C))
      (hsu:∀ (a:Addr) (oe:Obj) (d:Option Addr) (pn:List (Addr × Obj)) (c:Str) (C':Addr),X.mg c = some (.ref C') → Zc (.ref C') d oe → (∃ vs,oe.data = .fields vs) → SSs (X.suite a ((a,oe) :: pn)) (P.su a d c) (st :: sts) m) (r:HdOk X P hds l) :
      HdOk X P (.ExceptHandler (some (.Name x np)) none (st :: sts) hp :: hds) (⟨x,none,m,none⟩ :: l)
  | named {x n:Str} {i:Nat} {C:Addr} {st:Stmt} {sts:List Stmt} {m:SM} {np hp:Pos} {hds:List ExceptHandler} {l:List Hd} (hg:Gl X x) (hdb:(x == ("__debug__" : Str)) = false) (hm:X.mg x = some (.ref C)) (hi:X.N[i]? = some n) (hl:X.env.kindOf n = some .local)
      (hsu:∀ (a:Addr) (oe:Obj) (d:Option Addr) (pn:List (Addr × Obj)) (c:Str) (C':Addr),X.mg c = some (.ref C') → Zc (.ref C') d oe → (∃ vs,oe.data = .fields vs) → SSs (X.suite a ((a,oe) :: pn)) (P.su a d c) (st :: sts) m) (r:HdOk X P hds l) :
      HdOk X P (.ExceptHandler (some (.Name x np)) (some n) (st :: sts) hp :: hds) (⟨x,some i,m,none⟩ :: l)
  | two {x y:Str} {C C2:Addr} {st:Stmt} {sts:List Stmt} {m:SM} {np np2 tp hp:Pos} {kk:Nat} {hds:List ExceptHandler} {l:List Hd} (hg:Gl X x) (hdb:(x == ("__debug__" : Str)) = false) (hm:X.mg x = some (.ref C)) (hg2:Gl X y) (hdb2:(y == ("__debug__" : Str)) = false) (hm2:X.mg y = some (.ref C2))
      (hsu:∀ (a:Addr) (oe:Obj) (d:Option Addr) (pn:List (Addr × Obj)) (c:Str) (C':Addr),X.mg c = some (.ref C') → Zc (.ref C') d oe → (∃ vs,oe.data = .fields vs) → SSs (X.suite a ((a,oe) :: pn)) (P.su a d c) (st :: sts) m) (r:HdOk X P hds l) :
      HdOk X P (.ExceptHandler (some (.Tuple [.Name x np,.Name y np2] kk tp)) none (st :: sts) hp :: hds) (⟨x,none,m,some y⟩ :: l)
theorem noE_at {G:Gm} (h:noE G = true) {i:Nat} {c:Str} {fs:List (Str × D)}:G[i]? ≠ some (.e c fs):=fun e=>by
  have:=List.all_eq_true.mp h _ (List.mem_of_getElem? e)
  cases this
theorem RelS.xi {P P':Pm} {B:Bs} {As:List Addr} {F H:Hp} {G:Gm} {t:Option DS} {σ:Sg} (hK:P'.K = P.K) (hc:P'.xi.cl = P.xi.cl) (ne:noE G = true) (R:RelS P B As F G t σ H):RelS P' B As F G t σ H:=by
  refine ⟨⟨R.rel.sub,R.rel.st,R.rel.len,fun i x e=>?_,R.rel.inj⟩,R.gr,R.own,R.lk⟩
  have q:=R.rel.slot i x e
  rw [hK]
  cases x with
  | e c fs=>exact absurd e (noE_at ne)
  | un=>exact q
  | d y=>exact q
  | l ys=>exact q
  | a _=>exact q
  | s=>exact q
  | c th =>
    obtain ⟨v,e1,e2⟩:=q
    exact ⟨v,e1,by rw [hc]; exact e2⟩
theorem RelS.setE {P:Pm} {B:Bs} {As:List Addr} {F H:Hp} {G:Gm} {t:Option DS} {σ:Sg} {i:Nat} {x:Sl} {v:Option V} (R:RelS P B As F G t σ H) (nl:∀ xs,x ≠ .l xs) (h:SlOk P.K P.xi As F H (some v) x) :
    RelS P B As F (G.set i x) t (σ.set i v) H:=by
  have len:=R.rel.len
  have back:∀ {j:Nat} {y:Sl},(G.set i x)[j]? = some y → (j = i ∧ i < σ.length ∧ y = x) ∨ (j ≠ i ∧ G[j]? = some y):=fun {j y} e=>by
    by_cases hj:j = i
    · subst hj
      rw [List.getElem?_set] at e
      split at e
      · split at e
        · rename_i hlt; exact .inl ⟨rfl,len ▸ hlt,(Option.some.inj e).symm⟩
        · cases e
      · rename_i z; exact absurd rfl z
    · rw [List.getElem?_set_ne (Ne.symm hj)] at e
      exact .inr ⟨hj,e⟩
  have lold:∀ {j:Nat} {xs:List D},(G.set i x)[j]? = some (.l xs) → j ≠ i ∧ G[j]? = some (.l xs):=fun {j xs} e=>by
    rcases back e with ⟨_,_,z⟩ | z
    · exact absurd z.symm (nl xs)
    · exact z
  refine ⟨⟨R.rel.sub,R.rel.st,by simp [len],fun j y e=>?_,fun j k xs ys u n e1 e2 e3 e4=>?_⟩,R.gr,fun j xs p e1 e2=>?_,R.lk⟩
  · rcases back e with ⟨rfl,hlt,rfl⟩ | ⟨hj,e'⟩
    · rw [List.getElem?_set_self hlt]; exact h
    · rw [List.getElem?_set_ne (Ne.symm hj)]; exact R.rel.slot j y e'
  · obtain ⟨n1,z1⟩:=lold e1
    obtain ⟨n2,z2⟩:=lold e2
    rw [List.getElem?_set_ne (Ne.symm n1)] at e3
    rw [List.getElem?_set_ne (Ne.symm n2)] at e4
    exact R.rel.inj j k xs ys u n z1 z2 e3 e4
  · obtain ⟨n1,z1⟩:=lold e1
    rw [List.getElem?_set_ne (Ne.symm n1)] at e2
    exact R.own j xs p z1 e2
theorem RelS.unE {P:Pm} {B:Bs} {As:List Addr} {F H:Hp} {G:Gm} {t:Option DS} {σ:Sg} (R:RelS P B As F G t σ H):∀ i:Option Nat,RelS P B As F (unG i G) t (unn i σ) H
  | none=>R
  | some i=>R.setE (fun xs e=>by cases e) trivial
theorem out_te {P:Pm} {B:Bs} {F:Hp} {D:Ends} {a:Addr} {d:Option Addr} {c:Str} {i:Option Nat} {o:So} (h:PostS P B F D (outU i o)):PostS (P.su a d c) B F (endsU i D) o:=by
  cases o with
  | nx G t =>
    simp only [outU] at h
    split at h
    · rename_i ne
      exact fun As' F' σ' H' R k=>h As' F' _ H' (RelS.xi (P:=P.su a d c) (P':=P) rfl rfl ne (R.unE i)) k
    · exact h.elim
  | bk G t =>
    simp only [outU] at h
    split at h
    · rename_i ne
      exact fun As' F' σ' H' R k=>h As' F' _ H' (RelS.xi (P:=P.su a d c) (P':=P) rfl rfl ne (R.unE i)) k
    · exact h.elim
  | ct G t =>
    simp only [outU] at h
    split at h
    · rename_i ne
      exact fun As' F' σ' H' R k=>h As' F' _ H' (RelS.xi (P:=P.su a d c) (P':=P) rfl rfl ne (R.unE i)) k
    · exact h.elim
  | rt x t=>exact h
  | rl x t=>exact h
  | ra x t=>exact h
  | ex c fs G t=>exact h.elim
  | stuck=>exact h
section
variable {X:Cx} {P:Pm}
theorem clause_suite {m:SM} {sts:List Stmt} (hsu:∀ (a:Addr) (oe:Obj) (d:Option Addr) (pn:List (Addr × Obj)) (c:Str) (C':Addr),X.mg c = some (.ref C') → Zc (.ref C') d oe → (∃ vs,oe.data = .fields vs) → SSs (X.suite a ((a,oe) :: pn)) (P.su a d c) sts m)
    (a:Addr) (oe:Obj) (cls:Value) (d:Option Addr) (pn:List (Addr × Obj)) (hz:Zc cls d oe) (hv:∃ vs,oe.data = .fields vs) :
    PSs (X.suite a ((a,oe) :: pn)) sts (fun D σ H=>∃ c C',X.mg c = some (.ref C') ∧ cls = .ref C' ∧ tsM (P.su a d c) m D σ H):=by
  constructor
  rintro pins s σ H D I ⟨c,C',e1,rfl,h⟩
  exact (hsu a oe d pn c C' e1 hz hv).run pins s σ H D I h
theorem hd_cl {tab:Tab} (hK:P.K = X.K) (hm:P.mg = X.mg) (ht:TabOk X.K X.mg tab) {hds:List ExceptHandler} {l:List Hd} (h:HdOk X P hds l):∃ cl:List Cl,ClOk X hds cl ∧
    ∀ {B:Bs} {As:List Addr} {F H:Hp} {D:Ends} {c:Str} {fs:List (Str × PyData)} {G:Gm} {t:Option DS} {σ:Sg} {C:Addr} {d:Option Addr},X.mg c = some (.ref C) → RelS P B As F G t σ H → ExAt P.K As F H d fs → PostS P B F D (handleM tab c fs G t l) →
      wCl X.K P.W D cl (.ref C) d σ H:=by
  have hit:∀ {i:Option Nat} {m:SM} {B:Bs} {As:List Addr} {F H:Hp} {D:Ends} {c:Str} {fs:List (Str × PyData)} {G:Gm} {t:Option DS} {σ:Sg} {C:Addr} {d:Option Addr},X.mg c = some (.ref C) → RelS P B As F G t σ H → ExAt P.K As F H d fs →
      noE G = true → PostS P B F D (outU i (m (inG c fs i G) t)) → ∀ a,H a = none → ∃ c' C',X.mg c' = some (.ref C') ∧ Value.ref C = .ref C' ∧ tsM (P.su a d c') m (endsU i D) (inn a i σ) H:=by
    intro i m B As F H D c fs G t σ C d e R xa ne q a na
    refine ⟨c,C,e,rfl,B,As,F,inG c fs i G,t,?_,out_te q⟩
    have R2:RelS (P.su a d c) B As F G t σ H:=RelS.xi (P:=P) (P':=P.su a d c) rfl rfl ne R
    cases i with
    | none=>exact R2
    | some i=>exact R2.setE (fun xs z=>by cases z) ⟨a,d,rfl,rfl,xa⟩
  induction h with
  | nil =>
    exact ⟨[],.nil,fun {B As F H D c fs G t σ C d} e R xa q=>q As F σ H C d (by rw [hm]; exact e) R (Same.refl _) xa⟩
  | @bare x C0 st sts m np hp hds l hg hdb hmx hsu r ih =>
    obtain ⟨cl,ok,w⟩:=ih
    refine ⟨_ :: cl,.bare (c:=.ref C0) ⟨hg,hdb,.inl hmx⟩ (clause_suite hsu) ok,fun {B As F H D c fs G t σ C d} e R xa q=>?_⟩
    unfold handleM at q
    dsimp only at q
    split at q
    · rename_i e2
      split at q
      · rename_i ne
        exact ⟨true,ht c x true C C0 e2 e hmx,fun _=>hit (i:=none) e R xa ne q,fun z=>Bool.noConfusion z⟩
      · exact q.elim
    · rename_i e2
      exact ⟨false,ht c x false C C0 e2 e hmx,And.intro (fun z=>Bool.noConfusion z) (fun _=>w e R xa q)⟩
    · exact q.elim
  | @two x y C0 C2 st sts m np np2 tp hp kk hds l hg hdb hmx hg2 hdb2 hmx2 hsu r ih =>
    obtain ⟨cl,ok,w⟩:=ih
    refine ⟨_ :: cl,.two (c:=.ref C0) (c2:=.ref C2) ⟨hg,hdb,.inl hmx⟩ ⟨hg2,hdb2,.inl hmx2⟩ (clause_suite hsu) ok,fun {B As F H D c fs G t σ C d} e R xa q=>?_⟩
    unfold handleM at q
    dsimp only at q
    split at q
    · rename_i b1 b2 e2 e3
      split at q
      · rename_i ne
        rw [Bool.and_eq_true] at ne
        refine ⟨?_,hit (i:=none) e R xa ne.2 q⟩
        have z1:=ht c x b1 C C0 e2 e hmx
        have z2:=ht c y b2 C C2 e3 e hmx2
        simp only [PySem.W.exmAny,z1,z2,Bool.or_false,ne.1]
      · exact q.elim
    · exact q.elim
  | @named x n i C0 st sts m np hp hds l hg hdb hmx hi hl hsu r ih =>
    obtain ⟨cl,ok,w⟩:=ih
    refine ⟨_ :: cl,.named (c:=.ref C0) ⟨hg,hdb,.inl hmx⟩ hi hl (clause_suite hsu) ok,fun {B As F H D c fs G t σ C d} e R xa q=>?_⟩
    unfold handleM at q
    dsimp only at q
    split at q
    · rename_i e2
      split at q
      · rename_i ne
        exact ⟨true,ht c x true C C0 e2 e hmx,fun _=>hit (i:=some i) e R xa ne q,fun z=>Bool.noConfusion z⟩
      · exact q.elim
    · rename_i e2
      exact ⟨false,ht c x false C C0 e2 e hmx,And.intro (fun z=>Bool.noConfusion z) (fun _=>w e R xa q)⟩
    · exact q.elim
def Pm.wi (P:Pm) (W:WX):Pm:=⟨P.K,P.mg,P.xi,W⟩
theorem ss_try {tab:Tab} {body:List Stmt} {h₀:ExceptHandler} {hds:List ExceptHandler} {l:List Hd} {mb:SM} {pos:Pos} (hK:P.K = X.K) (hm:P.mg = X.mg) (ht:TabOk X.K X.mg tab) (hs:X.stack = X.env :: X.outer) (hf:X.env.frame = some X.env.locals) (hN:X.N.Nodup) (tk:Takes X P.W)
    (hb:∀ (W:WX) (pn:List (Addr × Obj)) (xe:Value → Shared → Prop),Takes (X.tr pn xe) W → PassesOwn (model X.prog X.w) X.A X.env xe → SSs (X.tr pn xe) (P.wi W) body mb)
    (hh:HdOk X P (h₀ :: hds) l):SS X P (.Try body (h₀ :: hds) [] [] pos) (sTry tab mb l):=by
  obtain ⟨cl,ok,w⟩:=hd_cl hK hm ht hh
  refine L2.PS.imp (ps_tryC hs hf hN tk (fun W pn xe tk2 ps=>hb W pn xe tk2 ps) ok) fun D σ H ⟨B,As,F,G,t,R,q⟩=>⟨B,As,F,G,t,⟨⟨R.rel.sub,R.rel.st,R.rel.len,R.rel.slot,R.rel.inj⟩,R.gr,R.own,R.lk⟩,?_⟩
  unfold sTry at q
  have same:∀ {As':List Addr} {F' H':Hp} {σ':Sg} {G':Gm} {t':Option DS} {W:WX},RelS (P.wi W) B As' F' G' t' σ' H' → RelS P B As' F' G' t' σ' H':=fun R=>⟨⟨R.rel.sub,R.rel.st,R.rel.len,R.rel.slot,R.rel.inj⟩,R.gr,R.own,R.lk⟩
  cases e:mb G t with
  | nx G' t'=>rw [e] at q; exact fun As' F' σ' H' R k=>q As' F' σ' H' (same R) k
  | bk G' t'=>rw [e] at q; exact fun As' F' σ' H' R k=>q As' F' σ' H' (same R) k
  | ct G' t'=>rw [e] at q; exact fun As' F' σ' H' R k=>q As' F' σ' H' (same R) k
  | rt x t'=>rw [e] at q; exact q
  | rl x t'=>rw [e] at q; exact q
  | ra x t'=>rw [e] at q; exact q
  | stuck=>rw [e] at q; exact q
  | ex c fs G' t' =>
    rw [e] at q
    intro As' F' σ' H' C d mc R2 k xa
    exact w (by rw [← hm]; exact mc) (same R2) xa (PostS.re k q)
def mXf (ft:Str → List Str) (i:Nat) (f:Str):EM:=fun G t=>match G[i]? with
  | some (.e c fs)=>if (ft c).contains f then .of ((fs.lookup f).map Rv.d) t else .stuck
  | _=>.stuck
def FtOk (K:PySem.W.Frag) (mg:Str → Option Value) (ft:Str → List Str):Prop:=∀ c C f,(ft c).contains f = true → mg c = some (.ref C) → XfC K C ∧ PySem.W.findIn K (.ref C) f = some none
theorem xd_look {K:PySem.W.Frag} {F:Hp} {f:Str} {x:D}:∀ {vs:List (Str × V)} {fs:List (Str × D)},XdAll K F vs fs → fs.lookup f = some x → ∃ v,vs.lookup f = some v ∧ Dp K F v x
  | _,_,.nil,e=>by cases e
  | _,_,@Paired.cons _ _ _ p q vs fs h t,e=>by
    obtain ⟨n,v⟩:=p
    obtain ⟨n',y⟩:=q
    obtain ⟨e1,e2⟩:=h
    have e1':n = n':=e1
    subst e1'
    rw [List.lookup] at e ⊢
    cases hq:f == n with
    | true =>
      rw [hq] at e
      cases e
      exact ⟨v,rfl,e2⟩
    | false =>
      rw [hq] at e
      exact xd_look t e
theorem se_xf {X:Cx} {P:Pm} {ft:Str → List Str} {a:Addr} {oe:Obj} {d:Option Addr} {c:Str} {C:Addr} {pn:List (Addr × Obj)} {n f:Str} {i:Nat} {p pos:Pos} (hK:P.K = X.K) (hft:FtOk X.K X.mg ft) (hm:X.mg c = some (.ref C)) (hz:Zc (.ref C) d oe) (hv:∃ vs,oe.data = .fields vs)
    (hN:X.N[i]? = some n) (hvis:Vis X.env.scope n) (hd:(n == ("__debug__" : Str)) = false) (hcd:(n == ("__classdict__" : Str)) = false)
    (hb:attributeBase (.Name n p) f X.env (eval (.Name n p) X.env) = eval (.Name n p) X.env):SE (X.suite a ((a,oe) :: pn)) (P.su a d c) (.Attribute (.Name n p) f pos) (mXf ft i f):=by
  constructor
  rintro pins s σ H Q I ⟨As,F,G,t,R,q⟩
  unfold mXf at q
  split at q
  · rename_i c' fs eG
    split at q
    · rename_i hc
      obtain ⟨a',d',e1,e2,xa⟩:=R.slot i _ eG
      cases e1
      obtain ⟨xf,no⟩:=hft c C f hc hm
      cases el:fs.lookup f with
      | none=>rw [el] at q; exact q.elim
      | some x =>
        rw [el] at q
        rcases xa with ⟨rfl,_⟩ | ⟨dd,vs,rfl,nA,hdd,all⟩
        · cases el
        · obtain ⟨v,e3,hx⟩:=xd_look all el
          exact (pe_xf (X:=X) (cls:=.ref C) xf no hz hv (pe_var (X:=X.suite a ((a,oe) :: pn)) (i:=i) hN hvis hd hcd) hb).run pins s σ H Q I ⟨.ref a,e2,rfl,rfl,dd,vs,v,rfl,hdd,e3,q As F H v (.refl R.sub) R.st hx trivial⟩
    · exact q.elim
  · exact q.elim
end
end DL
end
section
namespace DL
open PySem PySem.Spec PyProof.Rows L2
variable [Tbs]
/-- the code objects that make lambdas, and their tables -/
structure TabsAt (K:PySem.W.Frag) (h:Heap) (cs:List (Addr × Addr)):Prop where
  empty:∀ p ∈ cs,h.get? p.2 = some { cls:=.none,data:=.fields #[] }
  out:∀ p ∈ cs,K.lookup p.2 = none
  hd:∀ p ∈ cs,PySem.W.CodeHd h p.1 p.2
theorem law_end {P:Program} {w:World} {K:PySem.W.Frag} {mg mb:Str → Option Value} {k:Nat} {fa a:Addr} {cs:List (Addr × Addr)} {fd:FuncData} {x:Str} {f:FM} {s₁:Shared} {vs:List Value} {ns:List Int} (hTs:tabA = cs.map (·.2))
    (inK:K.In s₁.heap) (hG:s₁.heap.Ns mainGlobals mg) (hB:s₁.heap.Ns builtinsNs mb) (hBB:∀ x:Str,x ≠ "__name__" → mb x = bootBuiltins x) (lim:s₁.heap.NoLimit) (g0:s₁.gens = #[]) (tabs:TabsAt K s₁.heap cs)
    (hbm:∃ (bm:Addr) (ob:Obj),mg "__builtins__" = some (.ref bm) ∧ bm ≠ builtinsNs ∧ s₁.heap.get? bm = some ob ∧ ob.cls = .type "module" ∧ ob.dict = some builtinsNs ∧ ob.data = .plain)
    (scr:s₁.heap.get? a = some { cls:=.type "list",data:=.seq vs.toArray }) (hin:IntsAre vs ns) (small:ns.length ≤ sizeLine) (room:Room k callerA)
    (F:∀ base:Heap,K.In base → base.Ns mainGlobals mg → (∀ p ∈ cs,LamX.TabB base mg p.1 p.2) → FnG P w K mg base k fa fd [x] (spM K mg 1 f)) (bd:∀ (s:Shared) (u:Value),BindsTo s fd ⟨[u],[]⟩ [(x,u)])
    (law:∃ t',f [.d (.list (ns.map .int))] none = .ok (.d (.bool true)) t') :
    codeAny (model P w) callerA (.call (.ref fa) ⟨[.ref a],[]⟩) (fun r s'=>r = .ok (.ret (.bool true)) ∧ OldK s₁.heap s'.heap ∧ s'.os = s₁.os ∧ AllBare s'.gens) s₁:=by
  obtain ⟨t',law⟩:=law
  have rv:=vals_ints hin
  have atT:∀ b ∈ tabA,s₁.heap.get? b = some { cls:=.none,data:=.fields #[] }:=fun b hb=>by
    rw [hTs] at hb
    obtain ⟨p,hp,rfl⟩:=List.mem_map.mp hb
    exact tabs.empty p hp
  have outT:∀ b ∈ tabA,K.lookup b = none:=fun b hb=>by
    rw [hTs] at hb
    obtain ⟨p,hp,rfl⟩:=List.mem_map.mp hb
    exact tabs.out p hp
  have scrT:a ∉ tabA:=fun z=>by
    have q:=atT a z
    rw [scr] at q
    cases congrArg Obj.data (Option.some.inj q)
  -- H: nothing but the tables and the script, unless the module holds it
  have main:∀ H:Hp,(∀ b ∈ tabA,H b = some (.tbl #[])) → (∀ b,b ≠ a → b ∉ tabA → H b = none) → (∀ u,H a = some u → K.lookup a = none ∧ ∃ o xs,u = .frz o (.lst xs)) → SqL K H a (ns.map V.int) → HOk P w H s₁.heap →
      codeAny (model P w) callerA (.call (.ref fa) ⟨[.ref a],[]⟩) (fun r s'=>r = .ok (.ret (.bool true)) ∧ OldK s₁.heap s'.heap ∧ s'.os = s₁.os ∧ AllBare s'.gens) s₁:=by
    intro H atH only ofA seq hok
    have hidden:∀ {b:Addr} {o:Obj},s₁.heap.get? b = some o → (∀ us n,o.data ≠ .seq us n) → o.data ≠ .fields #[] → H b = none:=fun {b o} e n1 n2=>by
      by_cases hb:b = a
      · subst hb
        rw [scr] at e
        cases e
        exact absurd rfl (n1 vs.toArray _)
      · by_cases ht:b ∈ tabA
        · rw [atT b ht] at e
          cases e
          exact absurd rfl n2
        · exact only b hb ht
    have stays:∀ {b:Addr} {o:Obj},s₁.heap.get? b = some o → (∀ us n,o.data ≠ .seq us n) → o.data ≠ .fields #[] → (hidT s₁.heap H).get? b = some o:=fun {b o} e n1 n2=>hidT_get e (hidden e n1 n2)
    have nsT:∀ {b:Addr} {m:Str → Option Value},s₁.heap.Ns b m → (hidT s₁.heap H).Ns b m:=fun {b m} ⟨o,es,n,e,d,r⟩ =>
      ⟨o,es,n,stays e (fun us n z=>by rw [d] at z; cases z) (fun z=>by rw [d] at z; cases z),d,r⟩
    have inT:K.In (hidT s₁.heap H):=fun b o e=>hidT_get (inK b o e) (by
      by_cases hb:b = a
      · cases z:H b with
        | none=>rfl
        | some u =>
          subst hb
          rw [(ofA u z).1] at e
          cases e
      · by_cases ht:b ∈ tabA
        · rw [outT b ht] at e
          cases e
        · exact only b hb ht)
    have limT:(hidT s₁.heap H).NoLimit:=by
      obtain ⟨mc,h1,h2⟩:=lim
      exact ⟨mc,nsT h1,h2⟩
    have tb:∀ p ∈ cs,LamX.TabB (hidT s₁.heap H) mg p.1 p.2:=fun p hp=>by
      have pe:=tabs.empty p hp
      refine ⟨?_,?_,fun z=>?_⟩
      · obtain ⟨o,us,file,tf,flags,tg,inF,text,tt,e1,r1,r2,r3,r⟩:=tabs.hd p hp
        refine ⟨o,us,file,tf,flags,tg,inF,text,tt,stays e1 (fun us' n z=>?_) (fun z=>?_),r1,r2,r3,r⟩
        · rw [r2] at z; cases z
        · rw [r2] at z
          cases z
          simp at r3
      · obtain ⟨bm,ob,b1,b2,b3,b4,b5,b6⟩:=hbm
        refine ⟨bm,ob,b1,b2,fun q=>?_,fun q=>?_,stays b3 (fun us n z=>by rw [b6] at z; cases z) (fun z=>by rw [b6] at z; cases z),b4,b5,b6⟩
        · obtain ⟨o,es,n,e,d,_⟩:=hG
          rw [q,e] at b3
          cases b3
          rw [d] at b6
          cases b6
        · rw [q,pe] at b3
          cases b3
          cases b6
      · obtain ⟨o,es,n,e,d,_⟩:=hG
        rw [z,pe] at e
        cases e
        cases d
    have e0:Env0 P w K mg (hidT s₁.heap H) callerA [] s₁ H:=
      ⟨rfl,⟨inT,nsT hG,⟨mb,nsT hB,hBB⟩,limT⟩,fun b o e=>of_hidT e,Nat.le_of_eq (hidT_size _ _),trivial,fun b hb=>absurd (show b ∈ ([]:List Addr) from hb) (by simp),hok,.of_eq g0⟩
    have keepA:K.lookup a ≠ none ∨ H a ≠ none:=by
      rcases seq with (z | ⟨o,z⟩) | ⟨o,_,_,z,_⟩
      · exact .inr (by rw [z]; simp)
      · exact .inr (by rw [z]; simp)
      · exact .inl (by rw [z]; simp)
    let F0:Hp:=fun b=>if b ∈ tabA then none else H b
    have kF:Same F0 H:=fun b o e=>by
      by_cases hb:b ∈ tabA
      · rw [show F0 b = none from if_pos hb] at e; cases e
      · rw [show F0 b = H b from if_neg hb] at e; exact e
    have seqF:SqL K F0 a (ns.map V.int):=by
      have ea:F0 a = H a:=if_neg scrT
      rcases seq with (z | ⟨o,z⟩) | z
      · exact .inl (.inl (ea.trans z))
      · exact .inl (.inr ⟨o,ea.trans z⟩)
      · exact .inr z
    have tabsH:LamX.Tabs Tbs.T H:=fun p hp=>.nil (atH p.1 (List.mem_map.mpr ⟨p,hp,rfl⟩))
    have tnF:TN F0:=fun p u e=>by
      by_cases hb:p ∈ tabA
      · rw [show F0 p = none from if_pos hb] at e; cases e
      · rw [show F0 p = H p from if_neg hb] at e
        have pa:p = a:=by
          by_cases h:p = a
          · exact h
          · rw [only p h hb] at e; cases e
        subst pa
        obtain ⟨_,ob,xs,rfl⟩:=ofA u e
        trivial
    have prom:spM K mg 1 f [V.ref a] H (fun v _=>v = .bl true) (fun _ _ _=>False):=by
      refine ⟨rfl,tabA,F0,none,[.d (.list (ns.map .int))],kF,⟨⟨tabsH,rfl⟩,fun p hp=>if_pos hp,tnF⟩,.cons (Dp.lst seqF (dp_ints ns)) .nil,?_⟩
      rw [law]
      intro As' F' H' v _ _ x _
      cases x
      rfl
    refine codeAny_mono ((F _ inT (nsT hG) tb).run (us:=[.ref a]) (vs:=[.ref a]) room rfl e0 (bd s₁ (.ref a)) (.cons rfl .nil) prom) fun r s' z=>?_
    cases r with
    | error e =>
      obtain ⟨_,_,_,_,_,_,_,_,_,_,_,_,no⟩:=z
      exact no.elim
    | ok fl =>
      cases fl with
      | next=>exact z.elim
      | brk=>exact z.elim
      | cont=>exact z.elim
      | ret u =>
        obtain ⟨v,H',os,bare,un,hok',r',q⟩:=z
        have qv:v = .bl true:=q
        subst qv
        obtain rfl:u = Value.bool true:=r'
        have apart:∀ b o,b ∉ tabA → s₁.heap.get? b = some o → s'.heap.get? b = some o:=fun b o nt e=>by
          cases hb:H b with
          | none=>exact un.keep b o e hb (fun m=>absurd (show b ∈ ([]:List Addr) from m) (by simp)) (by simp)
          | some y =>
            have ba:b = a:=by
              by_cases h:b = a
              · exact h
              · rw [only b h nt] at hb; cases hb
            subst ba
            obtain ⟨_,ob,xs,rfl⟩:=ofA y hb
            obtain ⟨e1,_⟩:=hok b _ hb
            obtain ⟨e2,_⟩:=hok' b _ (un.frzs b ob _ hb)
            rw [e] at e1
            cases e1
            exact e2
        have grew:∀ p ∈ cs,∃ more:Array Value,s'.heap.get? p.2 = some { cls:=.none,data:=.fields more }:=fun p hp=>by
          obtain ⟨more,e⟩:=un.tbls p.2 #[] (atH p.2 (by rw [hTs]; exact List.mem_map.mpr ⟨p,hp,rfl⟩))
          exact ⟨_,hok' p.2 _ e⟩
        refine ⟨rfl,⟨fun b o e=>?_,fun b o e=>?_⟩,os,bare⟩
        · by_cases hb:b ∈ tabA
          · rw [hTs] at hb
            obtain ⟨p,hp,rfl⟩:=List.mem_map.mp hb
            obtain ⟨more,hm⟩:=grew p hp
            rw [tabs.empty p hp] at e
            cases e
            exact .inr (.inl ⟨((tabs.hd p hp).tab (tabs.empty p hp)).isCodeTable,rfl,#[],more,rfl,by rw [Array.empty_append]; exact hm⟩)
          · exact .inl (apart b o hb e)
        · by_cases hb:b ∈ tabA
          · rw [hTs] at hb
            obtain ⟨p,hp,rfl⟩:=List.mem_map.mp hb
            obtain ⟨more,hm⟩:=grew p hp
            exact ⟨_,hm⟩
          · exact ⟨o,apart b o hb e⟩
  cases own:K.lookup a with
  | some o =>
    have e:=inK a o own
    rw [scr] at e
    cases e
    refine main (fun b=>if b ∈ tabA then some (.tbl #[]) else none) (fun b hb=>if_pos hb) (fun b _ hb=>if_neg hb) (fun u z=>?_) (.inr ⟨_,vs.toArray,_,own,rfl,rfl,rfl,?_,by simpa using rv⟩) fun b u z=>?_
    · rw [if_neg scrT] at z; cases z
    · rw [List.size_toArray,hin.length]; exact small
    · have z':(if b ∈ tabA then some (HO.tbl #[]) else none) = some u:=z
      by_cases hb:b ∈ tabA
      · rw [if_pos hb] at z'
        cases z'
        exact atT b hb
      · rw [if_neg hb] at z'
        cases z'
  | none =>
    refine main (upd (fun b=>if b ∈ tabA then some (.tbl #[]) else none) a (.frz { cls:=.type "list",data:=.seq vs.toArray } (.lst (ns.map V.int)))) (fun b hb=>?_) (fun b hb ht=>?_) (fun u z=>?_) (.inl (.inr ⟨{ cls:=.type "list",data:=.seq vs.toArray },upd_same⟩)) fun b u z=>?_
    · rw [upd_ne (fun z=>scrT (by rw [← z]; exact hb))]
      exact if_pos hb
    · rw [upd_ne hb]
      exact if_neg ht
    · rw [upd_same] at z
      cases z
      exact ⟨own,_,_,rfl⟩
    · by_cases hb:b = a
      · subst hb
        rw [upd_same] at z
        cases z
        exact ⟨scr,by rw [List.length_map]; exact small,vs,_,rv,scr⟩
      · rw [upd_ne hb] at z
        by_cases ht:b ∈ tabA
        · have z':some (HO.tbl #[]) = some u:=(if_pos ht).symm.trans z
          cases z'
          exact atT b ht
        · have z':(none:Option HO) = some u:=(if_neg ht).symm.trans z
          cases z'
omit [Tbs] in
/-- the goal that a head leaves -/
theorem walkG {l:PySem.W.OpenLaw} {n k:Nat} {q:Program} {loose:List Str} {XP:(Str → Option Value) → Heap → Prop} {YP:World → Heap → Prop} {d:DefRec} {x:Str}
    (hn:l.most = some n) (hn2:n ≤ sizeLine) (hdf:d.params.defaults = []) (hr:Room k callerA)
    (F:∀ (w:World) (mg:Str → Option Value) (fa:Addr) (h:Heap),YP w h → h.Ns mainGlobals mg → mg d.name = some (.ref fa) →
      ∃ (_:Tbs) (K:PySem.W.Frag) (fd:FuncData) (f:FM) (cs:List (Addr × Addr)),K.In h ∧ tabA = cs.map (·.2) ∧ TabsAt K h cs ∧ (∀ (s:Shared) (u:Value),BindsTo s fd ⟨[u],[]⟩ [(x,u)]) ∧
        (∀ ns:List Int,ns.length ≤ n → ∃ t',f [.d (.list (ns.map .int))] none = .ok (.d (.bool true)) t') ∧
        ∀ base:Heap,K.In base → base.Ns mainGlobals mg → (∀ p ∈ cs,LamX.TabB base mg p.1 p.2) → FnG l.prog w K mg base k fa fd [x] (spM K mg 1 f)) :
    PySem.W.WalkO q loose XP YP l.row.toRowW d [] (fun f vs=>PySem.call f vs):=by
  refine Att.attach_callB hn hdf fun w s₀ s₁ mg mb fa o pm cd doc a vs ns G Y ho hd hcd hmg hobj hints hlen _ hg=>?_
  obtain ⟨_,K,fd,f,cs,inK,hTs,tabs,bd,law,hF⟩:=F w mg fa _ Y G.T.g hmg
  exact law_end hTs inK G.T.g G.T.b G.T.builtins G.T.nolimit hg tabs G.T.bmain hobj hints (Nat.le_trans hlen hn2) hr hF bd (law ns hlen)
theorem oexB_ok {K:PySem.W.Frag} {C:Addr} (h:oexB K C = true):OexC K C:=by
  unfold oexB at h
  simp only [Bool.and_eq_true,decide_eq_true_eq] at h
  obtain ⟨h1,h2,h3,h4,h5⟩:=h
  refine ⟨?_,h2,h3,h4,h5⟩
  split at h1
  · rename_i dd cd sl lk
    split at h1
    · rename_i C' bm k0 k1 k2 k3 n k5 hm hs
      simp only [Bool.and_eq_true,beq_iff_eq,Bool.not_eq_true'] at h1
      obtain ⟨⟨⟨⟨rfl,rfl⟩,dl⟩,hd⟩,hv⟩:=h1
      obtain ⟨nm,bs,mro,N,q,hasD,sn,sub,ab,col,del⟩:=cd
      dsimp only at hm dl hd
      subst hm dl hd
      obtain ⟨l⟩:=sl
      dsimp only at hs
      subst hs
      exact ⟨nm,q,N,bs,bm,sn,sub,ab,col,dd,k0,k1,k2,k3,k5,lk,hv⟩
    · cases h1
  · cases h1
theorem bseB_ok {K:PySem.W.Frag} {mg:Str → Option Value} (h:bseB K = true) (g:mg "UnitError" = some (.ref (He.ga K "UnitError"))):BaseE K mg (He.ga K "UnitError"):=by
  unfold bseB at h
  simp only [Bool.and_eq_true,decide_eq_true_eq] at h
  obtain ⟨h1,h2,h3⟩:=h
  refine ⟨g,h1,?_,h3⟩
  split at h2
  · rename_i n e
    rw [e,beq_iff_eq.mp h2]
  · cases h2
def NdK (K:PySem.W.Frag):Prop:=∀ p o,K.lookup p = some o → o.cls = .type "tuple" → o.dict = none
theorem ndB_ok {K:PySem.W.Frag} (h:ndB K = true):NdK K:=by
  intro p o e hc
  have z:=List.all_eq_true.mp h _ (He.lookup_mem e)
  simp only [hc,notT1,decide_true,Bool.not_true,Bool.or_false,Option.isNone_iff_eq_none] at z
  exact z
end DL
end
section
namespace DL
open PySem PySem.Spec PyProof.Rows L2
variable [Tbs]
theorem st_write {As:List Addr} {F H:Hp} {p:Addr} {o:HO} {t t':Option DS} (s:StF As t F H) (k:Same F H) (hp:p ∈ As) (nf:∀ x u,H p ≠ some (.frz x u)) (ok:StOk F As t' (upd H p o)):Grow As F H As F (upd H p o) ∧ StF As t' F (upd H p o):=by
  have kF:Same F (upd H p o):=fun b u e=>by
    rw [upd_ne (fun z=>by rw [z,s.sf p hp] at e; cases e)]
    exact k b u e
  refine ⟨⟨Same.refl _,kF,fun b u n e=>?_,fun b e _=>e,fun b z=>?_,.inl rfl,fun b x u e=>(by rw [upd_ne (fun z=>by rw [z] at e; exact nf x u e)]; exact e)⟩,ok,s.sf,s.tn⟩
  · rw [upd_ne (fun z=>n (by rw [z]; exact hp))]; exact e
  · by_cases hb:b = p
    · rw [hb,upd_same]; simp
    · rw [upd_ne hb]; exact z
/-- slot i holds the state -/
theorem slot_s {K:PySem.W.Frag} {xi:XI} {As:List Addr} {F H:Hp} {G:Gm} {t:Option DS} {σ:Sg} {i:Nat} (R:Rel K xi As F G t σ H) (e:G[i]? = some .s):∃ st d c l as,t = some st ∧ As = tabA ++ d :: c :: l :: as ∧ d ≠ c ∧ d ≠ l ∧ c ≠ l ∧ σ[i]? = some (some (.ref d)) ∧
    H d = some (.dK [(.inr "cells",.ref c),(.inr "lefts",.ref l),(.inr "at",.int st.pos)]) ∧ H c = some (.lst (st.cells.map .int)) ∧ H l = some (.lst (st.lefts.map .int)) ∧ AcOk F c l as st.acc H:=by
  obtain ⟨d,e1,hd⟩:=R.slot i _ e
  obtain ⟨_,ok⟩:=R.st.ok
  cases t with
  | none =>
    have z:As = tabA:=ok
    subst z
    rw [sd_tab] at hd
    cases hd
  | some st =>
    obtain ⟨d',c,l,as,rfl,n1,n2,n3,h1,h2,h3,h4⟩:=ok
    have e2:sd (tabA ++ d' :: c :: l :: as) = some d':=by simp [sd]
    rw [e2] at hd
    cases hd
    exact ⟨st,_,c,l,as,rfl,rfl,n1,n2,n3,e1,h1,h2,h3,h4⟩
/-- the same state's addresses further on -/
theorem slot_s2 {K:PySem.W.Frag} {xi:XI} {As As1:List Addr} {F F1 H H1:Hp} {G:Gm} {t1:Option DS} {σ:Sg} {i:Nat} {d c l:Addr} {as:List Addr} (g:Grow As F H As1 F1 H1) (hA:As = tabA ++ d :: c :: l :: as) (R:Rel K xi As1 F1 G t1 σ H1) (e:G[i]? = some .s):∃ st as1,t1 = some st ∧ As1 = tabA ++ d :: c :: l :: as1 ∧ d ≠ c ∧ d ≠ l ∧ c ≠ l ∧ σ[i]? = some (some (.ref d)) ∧
    H1 d = some (.dK [(.inr "cells",.ref c),(.inr "lefts",.ref l),(.inr "at",.int st.pos)]) ∧ H1 c = some (.lst (st.cells.map .int)) ∧ H1 l = some (.lst (st.lefts.map .int)) ∧ AcOk F1 c l as1 st.acc H1:=by
  obtain ⟨st,d',c',l',as',e1,e2,r⟩:=slot_s R e
  obtain ⟨l0,z⟩:=g.more
  have e3:=e2
  rw [z,hA,List.append_assoc] at e3
  have e4:=List.append_cancel_left e3
  simp only [List.cons_append,List.cons.injEq] at e4
  obtain ⟨rfl,rfl,rfl,_⟩:=e4
  exact ⟨st,as',e1,e2,r⟩
def stKey (k:Nat):Str:=if k = 0 then "cells" else "lefts"
def DS.lst (st:DS) (k:Nat):List Int:=if k = 0 then st.cells else st.lefts
def mStAt (i:Nat):EM:=fun G t=>match G[i]?,t with
  | some .s,some st=>.ok (.d (.int st.pos)) t
  | _,_=>.stuck
def mStLen (k i:Nat):EM:=fun G t=>match G[i]?,t with
  | some .s,some st=>.ok (.d (.int (st.lst k).length)) t
  | _,_=>.stuck
def mStIx (k i:Nat) (m:EM):EM:=fun G t=>match G[i]? with
  | some .s=>(m G t).fz.bind fun r t=>match r,t with
    | .d (.int j),some st=>.of ((atI (st.lst k) j).map fun z=>.d (.int z)) t
    | _,_=>.stuck
  | _=>.stuck
def sStAt (i:Nat) (m:EM):SM:=fun G t=>match G[i]? with
  | some .s=>(m G t).fz.bindS G fun r t=>match r,t with
    | .d (.int j),some st=>.nx G (some { st with pos:=j })
    | _,_=>.stuck
  | _=>.stuck
def sStPut (i:Nat) (mi m:EM):SM:=fun G t=>match G[i]? with
  | some .s=>(m G t).fz.bindS G fun r t=>(mi G t).fz.bindS G fun r2 t=>match r,r2,t with
    | .d (.int z),.d (.int j),some st=>(match ixN st.lefts.length j with
      | some n=>.nx G (some { st with lefts:=st.lefts.set n z })
      | none=>.stuck)
    | _,_,_=>.stuck
  | _=>.stuck
theorem dget_st {H:Hp} {d c l:Addr} {z:Int} (e:H d = some (.dK [(.inr "cells",.ref c),(.inr "lefts",.ref l),(.inr "at",.int z)])) (k:Nat):DGet H d (.str (stKey k)) (some (.ref (if k = 0 then c else l))):=by
  unfold stKey
  by_cases hk:k = 0
  · rw [if_pos hk,if_pos hk]; exact .inl ⟨_,.inr "cells",.inl e,rfl,rfl⟩
  · rw [if_neg hk,if_neg hk]
    exact .inl ⟨_,.inr "lefts",.inl e,rfl,rfl⟩
theorem map_atI {xs:List Int} {i z:Int} (e:atI xs i = some z):atI (xs.map V.int) i = some (.int z):=by
  unfold atI at e ⊢
  rw [List.length_map]
  cases h:ixN xs.length i with
  | none=>rw [h] at e; cases e
  | some j =>
    rw [h] at e
    have e:xs[j]? = some z:=e
    show (xs.map V.int)[j]? = _
    rw [List.getElem?_map,e]; rfl
section
variable {X:Cx} {P:Pm} {i k:Nat} {x:Str} {e e1 e2:Expr} {m m1 m2:EM} {p p2 p3 p4 p5 pos:Pos} {j:Nat}
theorem se_stAt (hu:X.A.units + 1 < cLine) (hN:X.N[i]? = some x) (hv:Vis X.env.scope x) (hd:(x == ("__debug__" : Str)) = false) (hcd:(x == ("__classdict__" : Str)) = false) (hs:NoSl (.Constant (.str "at") j p2)) :
    SE X P (.Subscript (.Name x p) (.Constant (.str "at") j p2) pos) (mStAt i):=by
  refine L2.PE.imp (pe_dget hu (pe_var hN hv hd hcd) pe_str hs) fun σ H Q ⟨As,F,G,t,R,q⟩=>?_
  unfold mStAt at q
  split at q
  · rename_i st eG
    obtain ⟨st',d,c,l,as,e1,e2,n1,n2,n3,ev,h1,h2,h3,h4⟩:=slot_s R eG
    cases e1
    exact ⟨.ref d,ev,d,.int st.pos,rfl,.inl ⟨_,.inr "at",.inl h1,rfl,rfl⟩,q As F H _ (.refl R.sub) R.st (.int _) trivial⟩
  · exact q.elim
theorem se_stLen (hu:X.A.units + 1 < cLine) (hN:X.N[i]? = some x) (hv:Vis X.env.scope x) (hd:(x == ("__debug__" : Str)) = false) (hcd:(x == ("__classdict__" : Str)) = false) (hs:NoSl (.Constant (.str (stKey k)) j p2)) (hg:Gl X "len") (hm:X.mg "len" = none)
    (he:starEach [.Subscript (.Name x p) (.Constant (.str (stKey k)) j p2) p3] X.env = (false,eval (.Subscript (.Name x p) (.Constant (.str (stKey k)) j p2) p3) X.env) :: starEach [] X.env) (hpl:(backTo pos (starEach [] X.env)).any (·.1) = false) :
    SE X P (.Call (.Name "len" p4) [.Subscript (.Name x p) (.Constant (.str (stKey k)) j p2) p3] [] pos) (mStLen k i):=by
  refine L2.PE.imp (pe_callB call_len hg hm boot_len (pa_cons (pe_dget hu (pe_var hN hv hd hcd) pe_str hs) pa_nil he) (by decide) (by decide) he hpl) fun σ H Q ⟨As,F,G,t,R,q⟩=>?_
  unfold mStLen at q
  split at q
  · rename_i st eG
    obtain ⟨st',d,c,l,as,e1,e2,n1,n2,n3,ev,h1,h2,h3,h4⟩:=slot_s R eG
    cases e1
    refine ⟨.ref d,ev,d,_,rfl,dget_st h1 k,_,(st.lst k).length,rfl,?_,q As F H _ (.refl R.sub) R.st (.int _) trivial⟩
    unfold DS.lst
    by_cases hk:k = 0
    · rw [if_pos hk,if_pos hk]; exact .inl ⟨_,SqL.of h2,by simp⟩
    · rw [if_neg hk,if_neg hk]; exact .inl ⟨_,SqL.of h3,by simp⟩
  · exact q.elim
theorem se_stIx (hu:X.A.units + 1 < cLine) (hN:X.N[i]? = some x) (hv:Vis X.env.scope x) (hd:(x == ("__debug__" : Str)) = false) (hcd:(x == ("__classdict__" : Str)) = false) (hs:NoSl (.Constant (.str (stKey k)) j p2)) (he:SE X P e m) (hp:PlainIx e) :
    SE X P (.Subscript (.Subscript (.Name x p) (.Constant (.str (stKey k)) j p2) p3) e pos) (mStIx k i m):=by
  refine L2.PE.imp (pe_ix ix_list (pe_dget hu (pe_var hN hv hd hcd) pe_str hs) he.fz hp) fun σ H Q ⟨As,F,G,t,R,q⟩=>?_
  unfold mStIx at q
  split at q
  · rename_i eG
    obtain ⟨st,d,c,l,as,e1,e2,n1,n2,n3,ev,h1,h2,h3,h4⟩:=slot_s R eG
    refine ⟨.ref d,ev,d,_,rfl,dget_st h1 k,As,F,G,t,R,bindEE R q fun As1 F1 H1 v1 r1 t1 er g1 R1 x1 p1=>?_⟩
    clear er
    split at p1
    · rename_i z st1
      obtain ⟨st2,as2,e3,e4,_,_,_,ev2,k1,k2,k3,k4⟩:=slot_s2 g1 e2 R1 eG
      cases e3
      cases x1
      cases ea:atI (st1.lst k) z with
      | none=>rw [ea] at p1; exact p1.elim
      | some y =>
        rw [ea] at p1
        have fin:=p1 As1 F1 H1 (.int y) (.refl R1.sub) R1.st (.int y) trivial
        unfold DS.lst at ea
        by_cases hk:k = 0
        · rw [if_pos hk] at ea ⊢
          exact ⟨c,_,z,.int y,rfl,rfl,SqL.of k2,map_atI ea,fin⟩
        · rw [if_neg hk] at ea ⊢
          exact ⟨l,_,z,.int y,rfl,rfl,SqL.of k3,map_atI ea,fin⟩
    · exact p1.elim
  · exact q.elim
theorem ss_stAt (hu:X.A.units + 1 < cLine) (hN:X.N[i]? = some x) (hv:Vis X.env.scope x) (hd:(x == ("__debug__" : Str)) = false) (hcd:(x == ("__classdict__" : Str)) = false) (he:SE X P e m)
    (hs:swapsWith e (some (.Subscript (.Name x p) (.Constant (.str "at") j p2) p3)) pos.line X.env = pure false):SS X P (.Assign [.Subscript (.Name x p) (.Constant (.str "at") j p2) p3] e pos) (sStAt i m):=by
  refine L2.PS.imp (ps_dput hu (pe_var hN hv hd hcd) pe_str he.fz hs) fun D σ H ⟨B,As,F,G,t,R,q⟩=>?_
  unfold sStAt at q
  split at q
  · rename_i eG
    refine ⟨As,F,G,t,R.rel,bindSE R q fun As1 F1 H1 v1 r1 t1 er g1 R1 x1 fr p1=>?_⟩
    clear er fr
    split at p1
    · rename_i z st1
      obtain ⟨st2,d,c,l,as,e3,e4,n1,n2,n3,ev2,k1,k2,k3,k4⟩:=slot_s R1.rel eG
      cases e3
      cases x1
      refine ⟨.ref d,ev2,d,_,rfl,DPut.k (k:=.inr "at") k1 (by rw [sizeLine_eq]; exact Nat.lt_of_lt_of_le (Nat.lt_succ_self 3) (by decide)),?_⟩
      obtain ⟨g,s'⟩:=st_write (t':=some { st1 with pos:=z }) (p:=d) (o:=.dK (putK [(.inr "cells",.ref c),(.inr "lefts",.ref l),(.inr "at",.int st1.pos)] (.inr "at") (.int z))) R1.rel.st R1.rel.sub (by rw [e4]; simp) (fun x u z=>by rw [k1] at z; cases z)
        ⟨tab_upd R1.rel.st.ok.1 (not_tab R1.rel.st.ok.1 (fun ps z=>by rw [k1] at z; cases z)) (dK_code k1),d,c,l,as,e4,n1,n2,n3,upd_same,by rw [upd_ne (Ne.symm n1)]; exact k2,by rw [upd_ne (Ne.symm n2)]; exact k3,k4.same fun q hq=>upd_ne fun z=>by
          obtain ⟨ds,eq⟩:=k4.cell q hq
          rw [z] at eq
          exact eq.noref k1⟩
      exact p1 As1 F1 σ _ (R1.mono g s') (Same.refl _)
    · exact p1.elim
  · exact q.elim
theorem ss_stPut (hu:X.A.units + 1 < cLine) (hN:X.N[i]? = some x) (hv:Vis X.env.scope x) (hd:(x == ("__debug__" : Str)) = false) (hcd:(x == ("__classdict__" : Str)) = false) (hn:NoSl (.Constant (.str (stKey 1)) j p2)) (h1:SE X P e1 m1) (h2:SE X P e2 m2)
    (ha:∀ v,assign (.Subscript (.Subscript (.Name x p) (.Constant (.str (stKey 1)) j p2) p3) e1 p4) X.env v = (do
      let ov ← holding [v] (eval (.Subscript (.Name x p) (.Constant (.str (stKey 1)) j p2) p3) X.env)
      let iv ← holding [v,ov] (eval e1 X.env)
      standAt p4
      holding [v,ov,iv] (setItem ov iv v)
      release [v,ov,iv] []))
    (hs:swapsWithSole [.Subscript (.Subscript (.Name x p) (.Constant (.str (stKey 1)) j p2) p3) e1 p4] e2 pos.line X.env = pure false) (hw:swappedStores [.Subscript (.Subscript (.Name x p) (.Constant (.str (stKey 1)) j p2) p3) e1 p4] e2 X.env = pure none)
    (ht:(assignEach [.Subscript (.Subscript (.Name x p) (.Constant (.str (stKey 1)) j p2) p3) e1 p4] X.env).map (·.2) = [assign (.Subscript (.Subscript (.Name x p) (.Constant (.str (stKey 1)) j p2) p3) e1 p4) X.env]) :
    SS X P (.Assign [.Subscript (.Subscript (.Name x p) (.Constant (.str (stKey 1)) j p2) p3) e1 p4] e2 pos) (sStPut i m1 m2):=by
  refine L2.PS.imp (ps_asg h2.fz (pg_sub (pe_dget hu (pe_var hN hv hd hcd) pe_str hn) h1.fz set_list ha) hs hw ht) fun D σ H ⟨B,As,F,G,t,R,q⟩=>?_
  unfold sStPut at q
  split at q
  · rename_i eG
    refine ⟨As,F,G,t,R.rel,bindSE R q fun As1 F1 H1 v1 r1 t1 er g1 R1 x1 fr p1=>?_⟩
    obtain ⟨st1,d,c,l,as,e3,e4,n1,n2,n3,ev2,k1,k2,k3,k4⟩:=slot_s R1.rel eG
    refine ⟨.ref d,ev2,d,_,rfl,dget_st k1 1,As1,F1,G,t1,R1.rel,bindSE R1 p1 fun As2 F2 H2 v2 r2 t2 er2 g2 R2 x2 fr2 p2=>?_⟩
    clear er fr er2 fr2
    replace x1:=x1.mono g2
    split at p2
    · rename_i z y st2
      obtain ⟨st3,as3,e5,e6,_,_,_,_,w1,w2,w3,w4⟩:=slot_s2 g2 e4 R2.rel eG
      cases e5
      cases x1
      cases x2
      cases en:ixN st2.lefts.length y with
      | none=>rw [en] at p2; exact p2.elim
      | some n =>
        rw [en] at p2
        refine ⟨l,_,y,n,rfl,rfl,w3,by rw [List.length_map]; exact en,?_⟩
        have em:(st2.lefts.map V.int).set n (V.int z) = (st2.lefts.set n z).map V.int:=by rw [List.map_set]
        rw [em]
        obtain ⟨g,s'⟩:=st_write (t':=some { st2 with lefts:=st2.lefts.set n z }) (p:=l) (o:=.lst ((st2.lefts.set n z).map V.int)) R2.rel.st R2.rel.sub (by rw [e6]; simp) (fun x u z=>by rw [w3] at z; cases z)
          ⟨tab_upd R2.rel.st.ok.1 (not_tab R2.rel.st.ok.1 (fun ps z=>by rw [w3] at z; cases z)) (lst_code w3),d,c,l,as3,e6,n1,n2,n3,by rw [upd_ne n2]; exact w1,by rw [upd_ne n3]; exact w2,upd_same,w4.same fun q hq=>upd_ne (w4.ne q hq).2⟩
        exact p2 As2 F2 σ _ (R2.mono g s') (Same.refl _)
    · exact p2.elim
  · exact q.elim
end
end DL
end
section
namespace DL
open PySem PySem.Spec PyProof.Rows L2
variable [Tbs]
/-- the reading of return {'cells': (slot i), 'lefts': m, 'at': 0} -/
def tMkSt (P:Pm) (i:Nat) (m:EM):TS:=fun D σ H=>∃ B F G cs ls,RelS P B tabA F G none σ H ∧ B.As = tabA ∧ G[i]? = some (.l (cs.map .int)) ∧ m (G.set i (.d (.list (cs.map .int)))) none = .ok (.l (ls.map .int)) none ∧
  ∀ As' F' H' v,Grow tabA B.F B.H As' F' H' → StF As' (some ⟨cs,ls,0,[]⟩) F' H' → (∃ d,v = .ref d ∧ sd As' = some d) → D.rt v H'
theorem key3 {p c l:Addr}:mergeK [] [((.inr "cells" : Key),V.ref c),(.inr "lefts",.ref l),(.inr "at",.int 0)] = [(.inr "cells",.ref c),(.inr "lefts",.ref l),(.inr "at",.int 0)]:=by
  with_unfolding_all rfl
theorem ps_mkSt {X:Cx} {P:Pm} {i:Nat} {x:Str} {e:Expr} {m:EM} {j1 j2 j3 j4:Nat} {p0 p1 p2 p3 p4 p5 pos:Pos} (hN:X.N[i]? = some x) (hv:Vis X.env.scope x) (hd:(x == ("__debug__" : Str)) = false) (hcd:(x == ("__classdict__" : Str)) = false) (he:SE X P e m) :
    PS X (.Return (some (.Dict [some (.Constant (.str "cells") j1 p1),some (.Constant (.str "lefts") j2 p2),some (.Constant (.str "at") j3 p3)] [.Name x p0,e,.Constant (.int 0) j4 p4] p5)) pos) (tMkSt P i m):=by
  refine L2.PS.imp (ps_ret (pe_disp (pps_cons pe_str (pe_var hN hv hd hcd) (pps_cons pe_str he (pps_cons pe_str pe_int pps_nil))) rfl rfl (by simp) (Nat.le_of_ble_eq_true rfl))) fun D σ H ⟨B,F,G,cs,ls,R,BA,eG,em,fin⟩=>?_
  intro p n
  obtain ⟨⟨g0,s0⟩,_⟩:=alloc (o:=.dK []) R.rel.st R.rel.sub n
  have R0:=R.mono g0 s0
  obtain ⟨c,vs,ec,hc,fc,hva,kF,R1⟩:=R0.frz eG
  have evs:=ints_dp hva
  subst evs
  have pc:p ≠ c:=fun z=>by rw [← z,upd_same] at hc; cases hc
  have cB:B.H c = none:=R.own i _ c eG ec
  refine ⟨_,ec,tabA,upd F c (.lst (cs.map V.int)),_,none,R1.rel,?_⟩
  rw [em]
  intro As2 F2 H2 v2 g2 s2 ov fr
  obtain ⟨l,ws,e2,lA,fl,hl,hda⟩:=ov
  obtain ⟨l',e2',nl⟩:=fr
  subst e2
  cases e2'
  have ews:=ints_dp hda
  subst ews
  have A2:As2 = tabA:=s2.ok.2
  subst A2
  have nT:∀ b ∈ tabA,∃ ps,H2 b = some (.tbl ps):=tab_there s2.ok.1
  have nt0:∀ b ∈ tabA,H b ≠ none:=fun b hb=>R.rel.st.ok.there b hb
  have nt1:∀ b,H b = none → b ∉ tabA:=fun b n hb=>nt0 b hb n
  have pl:p ≠ l:=fun z=>by rw [← z,upd_same] at nl; cases nl
  have cl:c ≠ l:=fun z=>by rw [← z] at nl; rw [nl] at hc; cases hc
  have hp2:H2 p = some (.dK []):=g2.hh p _ (nt1 p n) upd_same
  have cT:c ∉ tabA:=fun z=>by
    obtain ⟨ps,e⟩:=tab_there (R0.rel.st.ok.1) c z
    rw [hc] at e; cases e
  have hc2:H2 c = some (.lst (cs.map V.int)):=g2.hh c _ cT hc
  refine ⟨hp2,[((.inr "cells" : Key),V.ref c),(.inr "lefts",.ref l),(.inr "at",.int 0)],rfl,Nat.le_of_ble_eq_true rfl,?_⟩
  have hpB:B.H p = none:=by
    cases z:B.H p with
    | none=>rfl
    | some o=>exact absurd n (R.gr.dd p (by rw [z]; simp))
  have hlB:B.H l = none:=by
    cases z:B.H l with
    | none=>rfl
    | some o=>exact absurd nl (g0.dd l (R.gr.dd l (by rw [z]; simp)))
  have fp:F p = none:=R.rel.sub.free n
  have fl0:F l = none:=R.rel.sub.free (g0.nw nl)
  have kFH:Same F (upd H2 p (.dK (mergeK [] [((.inr "cells" : Key),V.ref c),(.inr "lefts",.ref l),(.inr "at",.int 0)]))):=fun b o z=>by
    rw [upd_ne (ne_of_none z fp)]
    exact g2.fh b o (g2.ff b o (kF b o z))
  have gB:=R.gr
  rw [BA] at gB
  have tabs2:LamX.Tabs Tbs.T (upd H2 p (.dK (mergeK [] [((.inr "cells" : Key),V.ref c),(.inr "lefts",.ref l),(.inr "at",.int 0)]))):=tab_upd s2.ok.1 (nt1 p n) (dK_code hp2)
  refine fin (tabA ++ [p,c,l]) F _ (.ref p) ⟨gB.ff,kFH,fun b o nb z=>?_,gB.nn,fun b z=>?_,.inr ⟨[p,c,l],rfl,fun q hq=>?_⟩,fun b x u z=>(by have hb:=gB.ll b x u z; rw [upd_ne (ne_of_none hb n)]; exact g2.ll b x u (g0.ll b x u hb))⟩ ⟨⟨tabs2,p,c,l,[],rfl,pc,pl,cl,?_,?_,?_,⟨fun _ h=>(nomatch h),.nil,.nil⟩⟩,fun q hq=>?_,R.rel.st.tn⟩ ⟨p,rfl,by simp [sd]⟩
  · have hb:=gB.hh b o nb z
    rw [upd_ne (ne_of_none hb n)]
    exact g2.hh b o nb (g0.hh b o nb hb)
  · by_cases hb:b = p
    · rw [hb,upd_same]; simp
    · rw [upd_ne hb]; exact g2.dd b (g0.dd b (gB.dd b z))
  · simp at hq
    rcases hq with rfl | rfl | rfl
    · exact hpB
    · exact cB
    · exact hlB
  · rw [upd_same,key3 (p:=p)]
  · rw [upd_ne (Ne.symm pc)]; exact hc2
  · rw [upd_ne (Ne.symm pl)]; exact hl
  · rcases List.mem_append.mp hq with hq | hq
    · exact R.rel.st.sf q hq
    · simp at hq
      rcases hq with rfl | rfl | rfl
      · exact fp
      · exact fc
      · exact fl0
def great (c:Int):Int:=if (10:Int) ^ 18 ≤ c then c else 0
def begSt (ns:List Int):DS:=⟨if ns = [] then [0] else ns,(if ns = [] then [0] else ns).map great,0,[]⟩
def fBegin:FM:=fun rs t=>match rs,t with
  | [.d (.list ds)],none=>(match dInts ds with
    | some ns=>if ns.length ≤ 1000 then .ok .s (some (begSt ns)) else .stuck
    | none=>.stuck)
  | _,_=>.stuck
def mBeg1:EM:=mIf (mCmpB fNe (mVar 0) (mLst mNil)) (mCallB fList (mCons (mVar 0) mNil)) (mLst (mCons (mC (.int 0)) mNil))
def mBeg2 (i:Nat):EM:=mLc (mSeq (mVar 1)) (.nm i) none (mIf (mCmpB (fRead fun a b=>(gCmp (fun i j=>decide (j ≤ i)) a b).map .bool) (mVar i) (mBin fPow (mC (.int 10)) (mC (.int 18)))) (mVar i) (mC (.int 0))) [i]
theorem lay_ints:∀ ns:List Int,PyData.canLayAll0 (ns.map .int) = true ∧ PyData.depthAll (ns.map .int) = 0
  | []=>⟨rfl,rfl⟩
  | n :: ns=>by
    obtain ⟨a,b⟩:=lay_ints ns
    exact ⟨by simp [PyData.canLayAll0,PyData.canLay0,a],by simp [PyData.depthAll,PyData.depth,b]⟩
theorem shaped_ints (ns:List Int):SeqAt.shaped (.list (ns.map .int)) = true:=by
  obtain ⟨a,b⟩:=lay_ints ns
  simp [SeqAt.shaped,PyData.canLay0,PyData.depth,a,b]
theorem ne_empty (ns:List Int):gEq (.list (ns.map .int)) (.list []) = some (decide (ns = [])):=by
  have h:gEq (.list (ns.map .int)) (.list []) = (if SeqAt.shaped (.list (ns.map .int)) && SeqAt.shaped (.list []) then some (PyData.eqv (.list (ns.map .int)) (.list [])) else none):=rfl
  rw [h,shaped_ints,show SeqAt.shaped (.list []) = true from by decide +kernel]
  cases ns with
  | nil=>rfl
  | cons n ns=>rfl
theorem beg1 (ns:List Int) (G:Gm) (t:Option DS) (e:G[0]? = some (.d (.list (ns.map .int)))):mBeg1 G t = .ok (.l ((if ns = [] then [0] else ns).map .int)) t:=by
  have v:mVar 0 G t = .ok (.d (.list (ns.map .int))) t:=by unfold mVar; rw [e]
  have c:mCmpB fNe (mVar 0) (mLst mNil) G t = .ok (!decide (ns = [])) t:=by
    unfold mCmpB mBin mLst mNil
    rw [v]
    simp only [Rs.fz,Rs.bind,Rv.fz,List.length_nil,Nat.zero_le,if_true,dats,Option.map,Rs.of,fNe,fRead,Rv.toD,Option.bind,ne_empty,Rv.bl]
  unfold mBeg1 mIf
  rw [c]
  by_cases h:ns = []
  · subst h; rfl
  · simp only [h,decide_false,Bool.not_false,Rs.bind,if_true,if_false,mCallB,mCons,mNil,v,Rs.fz,Rv.fz,fList,Rv.items,Option.map,Option.or,Rs.of]
/-- a comprehension whose elements change nothing -/
theorem lc_map {pt:Pt} {elt:EM} {G0:Gm} {t:Option DS} (g:D → D):∀ (xs acc:List D),acc.length + xs.length ≤ 16777216 → (∀ x ∈ xs,∃ G1,asg pt x G0 = some G1 ∧ (elt G1 t).fz = .ok (.d (g x)) t) →
    lcLoop pt none elt G0 xs acc t = .ok (.l (acc ++ xs.map g)) t
  | [],acc,_,_=>by simp [lcLoop]
  | x :: xs,acc,h,e=>by
    obtain ⟨G1,e1,e2⟩:=e x List.mem_cons_self
    have h1:acc.length < 16777216:=by simp at h; omega
    have go:=lc_map g xs (acc ++ [g x]) (by simp at h ⊢; omega) fun y hy=>e y (List.mem_cons_of_mem _ hy)
    unfold lcLoop
    rw [e1]
    show ((elt G1 t).fz.nox.bind fun y t=>_) = _
    rw [e2]
    show (if acc.length < 16777216 then lcLoop pt none elt G0 xs (acc ++ [g x]) t else .stuck) = _
    rw [if_pos h1,go]
    simp
abbrev fGe:Rv → Rv → Option Rv:=fRead fun a b=>(gCmp (fun i j=>decide (j ≤ i)) a b).map .bool
theorem elt2 (n:Int) (G:Gm) (t:Option DS) (e:G[2]? = some (.d (.int n))):((mIf (mCmpB fGe (mVar 2) (mBin fPow (mC (.int 10)) (mC (.int 18)))) (mVar 2) (mC (.int 0))) G t).fz = .ok (.d (.int (great n))) t:=by
  have v:mVar 2 G t = .ok (.d (.int n)) t:=by unfold mVar; rw [e]
  have p:mBin fPow (mC (.int 10)) (mC (.int 18)) G t = .ok (.d (.int (10 ^ 18))) t:=rfl
  have c:mCmpB fGe (mVar 2) (mBin fPow (mC (.int 10)) (mC (.int 18))) G t = .ok (decide ((10:Int) ^ 18 ≤ n)) t:=by
    unfold mCmpB
    rw [show mBin fGe (mVar 2) (mBin fPow (mC (.int 10)) (mC (.int 18))) G t = .ok (.d (.bool (decide ((10:Int) ^ 18 ≤ n)))) t from by
      unfold mBin
      rw [v]
      rfl]
    rfl
  unfold mIf
  rw [c]
  unfold great
  by_cases h:(10:Int) ^ 18 ≤ n
  · rw [decide_eq_true h,if_pos h]
    show (mVar 2 G t).fz = _
    rw [v]; rfl
  · rw [decide_eq_false h,if_neg h]
    rfl
theorem loop2 (ns:List Int) (G:Gm) (t:Option DS) (h:ns.length ≤ 16777216) (l:G.length = 3) :
    lcLoop (.nm 2) none (mIf (mCmpB fGe (mVar 2) (mBin fPow (mC (.int 10)) (mC (.int 18)))) (mVar 2) (mC (.int 0))) G (ns.map .int) [] t = .ok (.l ((ns.map great).map .int)) t:=by
  rw [lc_map (fun d=>match d with | .int n=>.int (great n) | _=>.none) (ns.map .int) [] (by simpa using h) fun x hx=>?_]
  · simp
  · obtain ⟨n,_,rfl⟩:=List.mem_map.mp hx
    refine ⟨G.set 2 (.d (.int n)),by simp [asg,setAll,l],elt2 n _ t ?_⟩
    rw [List.getElem?_set_self (by omega)]
theorem fnG_begin {P:Program} {w:World} {K:PySem.W.Frag} {mg:Str → Option Value} {base:Heap} {k:Nat} {f:Addr} {fd:FuncData} {x qual:Str} {params:Arguments} {body:List Stmt} {scope:Scope} {N:List Str} {z:Str}
    (F:FunD K x qual params body scope [] [] f fd) (S:FnScope N [z] scope) (hN:N.length = 3)
    (hb:∀ {cdv:Value} {A:Around} {outer:List Env} {s:Shared} {H:Hp} {E:XK},Room k (A.deeper (envOfC qual scope s.heap.objs.size f cdv)) → A.guards = some [] → CodeAt K f cdv →
      PSs (cxG P w K mg base N qual scope f cdv A outer s H E) body (tSeq (tsM (xP K mg E) (sSet 1 mBeg1)) (tMkSt (xP K mg E) 1 (mBeg2 2)))):FnG P w K mg base (k + 1) f fd [z] (spM K mg 1 fBegin):=by
  refine fnG_of F S (spM_len (ps:=[z])) fun {cdv A outer s H vs Q E} hr hg ca h=>⟨_,hb hr hg ca,?_⟩
  obtain ⟨hl,As,F0,t,rs,k0,s0,hv,q⟩:=h
  unfold fBegin at q
  split at q
  · rename_i ds
    cases ed:dInts ds with
    | none=>rw [ed] at q; exact q.elim
    | some ns =>
      rw [ed] at q
      have eds:=dInts_some ed
      subst eds
      have q:PostE (xP K mg E) As F0 H [] Q (if ns.length ≤ 1000 then .ok .s (some (begSt ns)) else .stuck):=q
      by_cases hz:ns.length ≤ 1000
      · rw [if_pos hz] at q
        have A0:As = tabA:=s0.ok.2
        subst A0
        have R:=rel_start (mg:=mg) (N:=N) (W:=fun c d _ H=>E c d H) (G:=[.d (.list (ns.map .int))]) (by rw [hl,hN]; decide) k0 s0 hv rfl
        have eG:([.d (.list (ns.map .int))] ++ List.replicate (N.length - 1) Sl.un) = [.d (.list (ns.map .int)),.un,.un]:=by rw [hN]; rfl
        have eG':([.d (.list (ns.map .int))] ++ List.replicate (N.length - [Sl.d (.list (ns.map .int))].length) Sl.un) = [.d (.list (ns.map .int)),.un,.un]:=eG
        rw [eG'] at R
        refine ⟨⟨tabA,F0,H,[]⟩,tabA,F0,_,none,R,?_⟩
        unfold sSet
        rw [beg1 ns _ _ rfl]
        intro As1 F1 σ1 H1 R1 _
        have A1:As1 = tabA:=R1.rel.st.ok.2
        subst A1
        refine ⟨⟨tabA,F0,H,[]⟩,F1,_,if ns = [] then [0] else ns,(if ns = [] then [0] else ns).map great,R1,rfl,rfl,?_,fun As' F' H' v g st hd=>?_⟩
        · have small:(if ns = [] then [0] else ns).length ≤ 16777216:=by
            by_cases h:ns = []
            · rw [if_pos h]; decide
            · rw [if_neg h]; omega
          have go:=loop2 (if ns = [] then [0] else ns) [.d (.list (ns.map .int)),.d (.list ((if ns = [] then [0] else ns).map .int)),.un] none small rfl
          unfold mBeg2 mLc
          exact go
        · obtain ⟨d,e1,e2⟩:=hd
          exact q As' F' H' v g st ⟨d,e1,e2⟩ trivial
      · rw [if_neg hz] at q; exact q.elim
  · exact q.elim
end DL
end
section
namespace DL
open PySem PySem.Spec PyProof.Rows L2
variable [Tbs]
theorem sum_tup_raw {prog:Program} {w:World} {A:Around} {E:Value → Shared → Prop} {s:Shared} {l:Addr} {its:List Value} {ns:List Int} {Q:Value → Shared → Prop} (hh:A.handled = none) (hl:s.heap.IsTuple l its.toArray) (hi:IntsAre its ns)
    (h:∀ h' tk t',(∀ b o,s.heap.get? b = some o → h'.get? b = some o) → Q (.int ns.sum t') { s with heap:=h',toks:=tk }):wpAny (model prog w) A (call (.builtin "sum") [.ref l]) Q E s:=by
  obtain ⟨xs,e⟩:=hi.allInts.items
  have hn:numsOf (intItems xs).toList = ns:=by rw [← e]; exact hi.numsOf
  rw [nums_intItems] at hn
  rw [e] at hl
  refine PySem.W.ktm_sumG hh hl fun h' tk t' hk=>?_
  rw [preSum_eq,List.take_of_length_le (by simp),hn]
  exact h h' tk t' hk
theorem cr_sumA {X:Cx} (hc:X.calm = true):CallR X (.builtin "sum") (rSumA X.K):=by
  intro pins s σ H vs us Q I r h
  obtain ⟨a,ns,rfl,hs,q⟩:=h
  rw [Vals.ref1 r]
  rcases hs with hs | hs
  · obtain ⟨its,rv,hl,_⟩:=I.list hs
    exact sum_raw (I.ok.hd hc) hl.isList rv.ints fun h' tk t' hk=>⟨.int _,H,I.kept hk,⟨_,rfl⟩,q⟩
  · obtain ⟨its,rv,hl,_⟩:=I.tuple hs
    exact sum_tup_raw (I.ok.hd hc) hl rv.ints fun h' tk t' hk=>⟨.int _,H,I.kept hk,⟨_,rfl⟩,q⟩
structure Ct (X:Cx) (P:Pm) (k:Nat):Prop where
  hK:P.K = X.K
  hm:P.mg = X.mg
  r:Room k X.A
  g:X.A.guards = some []
  tk:Takes X P.W
  cm:X.calm = true
  ps:PassesOwn (model X.prog X.w) X.A X.env X.xe
  nd:X.N.Nodup
theorem takesNo {X:Cx}:Takes X (fun _ _ _ _=>False):=fun _ _ x=>by
  obtain ⟨_,_,_,_,_,_,_,_,_,_,_,_,_,_,_,_,no⟩:=x
  exact no.elim
theorem Ct.blk {X:Cx} {P:Pm} {k:Nat} (c:Ct X P k) (s:Shared) (H:Hp) (scope:Scope) (cenv:Env) (fp:List Addr):Ct (X.blk s H scope cenv fp) P.calm k:=
  ⟨c.hK,c.hm,c.r,c.g,takesNo,c.cm,PassesOwn.never,c.nd⟩
theorem Ct.tr {X:Cx} {P:Pm} {k:Nat} (c:Ct X P k) {W:WX} {pn:List (Addr × Obj)} {xe:Value → Shared → Prop} (tk:Takes (X.tr pn xe) W) (ps:PassesOwn (model X.prog X.w) X.A X.env xe):Ct (X.tr pn xe) (P.wi W) k:=
  ⟨c.hK,c.hm,c.r,c.g,tk,c.cm,ps,c.nd⟩
theorem ct_body {P:Program} {w:World} {K:PySem.W.Frag} {mg:Str → Option Value} {base:Heap} {k:Nat} {N ps:List Str} {qual:Str} {scope:Scope} {f:Addr} {cdv:Value} {A:Around} {outer:List Env} {s:Shared} {H:Hp} {E:XK} (S:FnScope N ps scope)
    (hr:Room k (A.deeper (envOfC qual scope s.heap.objs.size f cdv))) (hg:A.guards = some []):Ct (cxG P w K mg base N qual scope f cdv A outer s H E) (xP K mg E) k:=
  ⟨rfl,rfl,hr,hg,L2.takes_of rfl rfl rfl rfl,rfl,passes_of rfl,S.nd⟩
theorem Ct.u1 {X:Cx} {P:Pm} {k:Nat} (c:Ct X P k):X.A.units + 1 < cLine:=by have:=c.r.un; omega
theorem Ct.u64 {X:Cx} {P:Pm} {k:Nat} (c:Ct X P k):X.A.units + 64 < cLine:=by have:=c.r.un; omega
theorem Ct.u65 {X:Cx} {P:Pm} {k:Nat} (c:Ct X P k):X.A.units + 65 < cLine:=by have:=c.r.un; omega
theorem Ct.u70 {X:Cx} {P:Pm} {k:Nat} (c:Ct X P k):X.A.units + 70 < cLine:=by have:=c.r.un; omega
section
variable {X:Cx} {P:Pm} {k:Nat} {a b d:Expr} {ma mb md:EM} {ta tb:BM} {pos p p2:Pos} (c:Ct X P k)
include c
theorem x_v (i:Nat) {x:Str} (hv:Vis X.env.scope x) (hN:X.N[i]? = some x:=by rfl) (hd:(x == ("__debug__" : Str)) = false:=by decide) (hcd:(x == ("__classdict__" : Str)) = false:=by decide):SE X P (.Name x pos) (mVar i):=se_var hN hv hd hcd
theorem x_gi {x:Str} {i:Int} (hm:∃ t,X.mg x = some (.int i t)) (hg:Gl X x:=by rfl) (hd:(x == ("__debug__" : Str)) = false:=by decide):SE X P (.Name x pos) (mC (.int i)):=by
  obtain ⟨t,h⟩:=hm
  exact se_glob hg h (v:=.int i) ⟨t,rfl⟩ (fun F=>.int i) hd
theorem x_add (ha:SE X P a ma) (hb:SE X P b mb):SE X P (.BinOp a .Add b pos) (mBin fAdd ma mb):=se_bin op_addAll (by rw [c.hK]; exact opd_addAll) ha hb
theorem x_sub (ha:SE X P a ma) (hb:SE X P b mb):SE X P (.BinOp a .Sub b pos) (mBin fSub ma mb):=se_bin op_sub opd_sub ha hb
theorem x_mul (ha:SE X P a ma) (hb:SE X P b mb):SE X P (.BinOp a .Mult b pos) (mBin fMul ma mb):=se_bin op_mulW opd_mul ha hb
theorem x_div (ha:SE X P a ma) (hb:SE X P b mb):SE X P (.BinOp a .FloorDiv b pos) (mBin fDiv ma mb):=se_bin op_fdivN opd_div ha hb
theorem x_mod (ha:SE X P a ma) (hb:SE X P b mb):SE X P (.BinOp a .Mod b pos) (mBin fMod ma mb):=se_bin op_modN opd_mod ha hb
theorem x_pow (ha:SE X P a ma) (hb:SE X P b mb):SE X P (.BinOp a .Pow b pos) (mBin fPow ma mb):=se_bin op_pow opd_pow ha hb
end
abbrev fCm (p:Int → Int → Bool):Rv → Rv → Option Rv:=fRead fun a b=>(gCmp p a b).map .bool
abbrev iLt:Int → Int → Bool:=fun i j=>decide (i < j)
abbrev iLe:Int → Int → Bool:=fun i j=>decide (i ≤ j)
abbrev iGt:Int → Int → Bool:=fun i j=>decide (j < i)
abbrev iGe:Int → Int → Bool:=fun i j=>decide (j ≤ i)
section
variable {X:Cx} {P:Pm} {k:Nat} {a b d:Expr} {ma mb md:EM} {ta tb:BM} {pos p p2:Pos} (c:Ct X P k)
include c
theorem x_eq (ha:SE X P a ma) (hb:SE X P b mb):SE X P (.Compare a [.Eq] [b] pos) (mBin fEq ma mb):=se_cmp (op_eqAll c.u64) (by rw [c.hK]; exact opd_eq) ha hb (nomark b)
theorem x_ne (ha:SE X P a ma) (hb:SE X P b mb):SE X P (.Compare a [.NotEq] [b] pos) (mBin fNe ma mb):=se_cmp (op_neAll c.u64) (by rw [c.hK]; exact opd_ne) ha hb (nomark b)
theorem x_in (ha:SE X P a ma) (hb:SE X P b mb) (hm:behindInMarks .In b = false:=by with_unfolding_all rfl):SE X P (.Compare a [.In] [b] pos) (mBin fIn ma mb):=se_cmp (op_inAll c.u65) (by rw [c.hK]; exact opd_in) ha hb hm
theorem b_eq (ha:SE X P a ma) (hb:SE X P b mb):SB X P (.Compare a [.Eq] [b] pos) (mCmpB fEq ma mb):=sb_cmp (op_eqAll c.u64) (by rw [c.hK]; exact opd_eq) ha hb (nomark b)
theorem b_ne (ha:SE X P a ma) (hb:SE X P b mb):SB X P (.Compare a [.NotEq] [b] pos) (mCmpB fNe ma mb):=sb_cmp (op_neAll c.u64) (by rw [c.hK]; exact opd_ne) ha hb (nomark b)
theorem b_lt (ha:SE X P a ma) (hb:SE X P b mb):SB X P (.Compare a [.Lt] [b] pos) (mCmpB (fCm iLt) ma mb):=sb_cmp op_lt (opd_cmpI _) ha hb (nomark b)
theorem b_le (ha:SE X P a ma) (hb:SE X P b mb):SB X P (.Compare a [.LtE] [b] pos) (mCmpB (fCm iLe) ma mb):=sb_cmp op_le (opd_cmpI _) ha hb (nomark b)
theorem b_gt (ha:SE X P a ma) (hb:SE X P b mb):SB X P (.Compare a [.Gt] [b] pos) (mCmpB (fCm iGt) ma mb):=sb_cmp op_gt (opd_cmpI _) ha hb (nomark b)
theorem b_ge (ha:SE X P a ma) (hb:SE X P b mb):SB X P (.Compare a [.GtE] [b] pos) (mCmpB (fCm iGe) ma mb):=sb_cmp op_ge (opd_cmpI _) ha hb (nomark b)
theorem b_nin (ha:SE X P a ma) (hb:SE X P b mb) (hm:behindInMarks .NotIn b = false:=by with_unfolding_all rfl):SB X P (.Compare a [.NotIn] [b] pos) (mCmpB fNotIn ma mb):=sb_cmp (op_notInAll c.u65) (by rw [c.hK]; exact opd_notIn) ha hb hm
/-- a ≤ b ≤ d -/
theorem x_lele (ha:SE X P a ma) (hb:SE X P b mb) (hd:SE X P d md) (hm:lastMarks [.LtE,.LtE] [b,d] = false:=by with_unfolding_all rfl):SE X P (.Compare a [.LtE,.LtE] [b,d] pos) (mChain (fCm iLe) (fCm iLe) ma mb md):=
  se_chain op_le op_le (opd_cmpI _) (opd_cmpI _) ha hb hd (pe_chain op_le op_le ha.fz hb.fz hd.fz hm)
theorem b_tr (ha:SE X P a ma) (he:∀ whole,isTrue a X.env whole = (do let v ← whole; standAt a.pos; holding [v] (truthy v)):=by intro _; rfl):SB X P a (mTru ma):=sb_truth c.hK ha he
theorem x_not (ha:SE X P a ma):SE X P (.UnaryOp .Not a pos) (mNot ma):=se_not c.hK ha
theorem x_and {rest:List Expr} (h:SE X P a ma) (h2:SE X P (.BoolOp .And (b :: rest) pos) mb):SE X P (.BoolOp .And (a :: b :: rest) pos) (mAnd ma mb):=se_and c.hK h h2
theorem x_ix (ha:SE X P a ma) (hb:SE X P b mb) (hs:PlainIx b:=by intro _ _; rfl):SE X P (.Subscript a b pos) (mBin fIx ma mb):=se_ix c.hK ha hb hs
theorem x_sl {lo hi:Option Expr} {ml mh:Option EM} (ha:SE X P a ma) (hl:SO X P lo ml) (hh:SO X P hi mh):SE X P (.Subscript a (.Slice lo hi none p2) pos) (mSl ma ml mh):=se_sl c.hK ha hl hh
theorem a_cons {es:List Expr} {m:AM} (ha:SE X P a ma) (hr:SA X P es m) (hs:starEach (a :: es) X.env = (false,eval a X.env) :: starEach es X.env:=by rfl):SA X P (a :: es) (mCons ma m):=sa_cons ha hr hs
end
section
variable {X:Cx} {P:Pm} {k:Nat} {a b d:Expr} {ma mb md:EM} {m:AM} {es:List Expr} {ta tb:BM} {pos p p2 p3:Pos} (c:Ct X P k)
include c
theorem x_len (hm:X.mg "len" = none) (ha:SA X P (a :: es) m) (hg:Gl X "len" := by rfl) (he:starEach (a :: es) X.env = (false,eval a X.env) :: starEach es X.env:=by rfl) (hpl:(backTo pos (starEach es X.env)).any (·.1) = false:=by rfl) :
    SE X P (.Call (.Name "len" p) (a :: es) [] pos) (mCallB (f1 gLen) m):=se_callB (r:=rLenA X.K) call_len (by rw [c.hK]; exact calld_len) hg hm boot_len ha (by decide) (by decide) he hpl
theorem x_sum (hm:X.mg "sum" = none) (ha:SA X P (a :: es) m) (hg:Gl X "sum" := by rfl) (he:starEach (a :: es) X.env = (false,eval a X.env) :: starEach es X.env:=by rfl) (hpl:(backTo pos (starEach es X.env)).any (·.1) = false:=by rfl) :
    SE X P (.Call (.Name "sum" p) (a :: es) [] pos) (mCallB (f1 gSum) m):=se_callB (r:=rSumA X.K) (cr_sumA c.cm) (by rw [c.hK]; exact calld_sum) hg hm rfl ha (by decide) (by decide) he hpl
theorem x_abs (hm:X.mg "abs" = none) (ha:SA X P (a :: es) m) (hg:Gl X "abs" := by rfl) (he:starEach (a :: es) X.env = (false,eval a X.env) :: starEach es X.env:=by rfl) (hpl:(backTo pos (starEach es X.env)).any (·.1) = false:=by rfl) :
    SE X P (.Call (.Name "abs" p) (a :: es) [] pos) (mCallB (f1 gAbs) m):=se_callB (r:=rAbs1) call_abs calld_abs hg hm rfl ha (by decide) (by decide) he hpl
theorem x_repr (hm:X.mg "repr" = none) (ha:SA X P (a :: es) m) (hg:Gl X "repr" := by rfl) (he:starEach (a :: es) X.env = (false,eval a X.env) :: starEach es X.env:=by rfl) (hpl:(backTo pos (starEach es X.env)).any (·.1) = false:=by rfl) :
    SE X P (.Call (.Name "repr" p) (a :: es) [] pos) (mCallB (f1 gRepr) m):=se_callB (r:=rRepr X.K) (call_reprD c.g c.u70) (by rw [c.hK]; exact calld_repr) hg hm rfl ha (by decide) (by decide) he hpl
theorem x_min (hm:X.mg "min" = none) (ha:SA X P (a :: es) m) (hg:Gl X "min" := by rfl) (he:starEach (a :: es) X.env = (false,eval a X.env) :: starEach es X.env:=by rfl) (hpl:(backTo pos (starEach es X.env)).any (·.1) = false:=by rfl) :
    SE X P (.Call (.Name "min" p) (a :: es) [] pos) (mCallB (f2 gMin) m):=se_callB (r:=rMin2) (call_min2 c.cm) calld_min2 hg hm rfl ha (by decide) (by decide) he hpl
theorem x_int (hm:X.mg "int" = none) (ha:SA X P (a :: es) m) (hg:Gl X "int" := by rfl) (he:starEach (a :: es) X.env = (false,eval a X.env) :: starEach es X.env:=by rfl) (hpl:(backTo pos (starEach es X.env)).any (·.1) = false:=by rfl) :
    SE X P (.Call (.Name "int" p) (a :: es) [] pos) (mCallB (f1 gInt) m):=se_callTy (r:=rInt1) call_int1 calld_int hg hm rfl ha (by decide) (by decide) he hpl
theorem x_tuple (hm:X.mg "tuple" = none) (ha:SA X P (a :: es) m) (hg:Gl X "tuple" := by rfl) (he:starEach (a :: es) X.env = (false,eval a X.env) :: starEach es X.env:=by rfl) (hpl:(backTo pos (starEach es X.env)).any (·.1) = false:=by rfl) :
    SE X P (.Call (.Name "tuple" p) (a :: es) [] pos) (mCallB fTuple m):=se_callTy (r:=rTupleOf X.K) call_tupleN (by rw [c.hK]; exact calld_tuple) hg hm rfl ha (by decide) (by decide) he hpl
theorem x_list (hm:X.mg "list" = none) (ha:SA X P (a :: es) m) (hg:Gl X "list" := by rfl) (he:starEach (a :: es) X.env = (false,eval a X.env) :: starEach es X.env:=by rfl) (hpl:(backTo pos (starEach es X.env)).any (·.1) = false:=by rfl) :
    SE X P (.Call (.Name "list" p) (a :: es) [] pos) (mCallB fList m):=se_callTy (r:=rListOf X.K) call_list_of (by rw [c.hK]; exact calld_list) hg hm rfl ha (by decide) (by decide) he hpl
theorem x_call {j n:Nat} {x:Str} {f:FM} {dvs:List D} (cl:CalM X.prog X.w X.K X.mg X.base j n x f dvs) (hk:j ≤ k) (ha:SA X P (a :: es) m) (hg:Gl X x:=by rfl) (he:starEach (a :: es) X.env = (false,eval a X.env) :: starEach es X.env:=by rfl)
    (hpl:(backTo pos (starEach es X.env)).any (·.1) = false:=by rfl) (hdb:(x == ("__debug__" : Str)) = false:=by decide):SE X P (.Call (.Name x p) (a :: es) [] pos) (mCall n f dvs m):=se_call cl c.hK c.hm c.r hk c.g c.tk hg ha he hpl hdb
theorem x_call0 {j n:Nat} {x:Str} {f:FM} {dvs:List D} (cl:CalM X.prog X.w X.K X.mg X.base j n x f dvs) (hk:j ≤ k) (hg:Gl X x:=by rfl) (hdb:(x == ("__debug__" : Str)) = false:=by decide):SE X P (.Call (.Name x p) [] [] pos) (mCall n f dvs mNil):=
  se_call0 cl c.hK c.hm c.r hk c.g c.tk hg hdb
/-- isinstance(a, T) -/
theorem x_isi {x:Str} {T:String} (hm:X.mg "isinstance" = none) (hmT:X.mg x = none) (hvT:bootBuiltins x = some (.type T)) (ha:SE X P a ma) (hg:Gl X "isinstance" := by rfl) (hgT:Gl X x:=by rfl) (hn:x ≠ "__name__" := by decide) (hd:(x == ("__debug__" : Str)) = false:=by decide)
    (he:starEach [a,.Name x p2] X.env = (false,eval a X.env) :: starEach [.Name x p2] X.env:=by rfl) (hpl:(backTo pos (starEach [.Name x p2] X.env)).any (·.1) = false:=by rfl) :
    SE X P (.Call (.Name "isinstance" p) [a,.Name x p2] [] pos) (mIsi T ma):=
  se_isi c.hK ha hg hm hgT hmT hvT hn hd (fun h=>pe_callB call_isiD hg hm rfl h (by decide) (by decide) he hpl) (fun h=>pa_cons ha.fz (pa_cons h pa_nil) he)
theorem i_seq {tg e:Expr} {m:EM} (h:SE X P e m):SI X P tg e (mSeq m):=si_seq c.hK h
theorem i_r1 {tg:Expr} (hm:X.mg "range" = none) (ha:SE X P a ma) (hg:Gl X "range" := by rfl) (hs:starEach [a] X.env = [(false,eval a X.env)]:=by rfl):SI X P tg (.Call (.Name "range" p) [a] [] pos) (mRange1 ma):=si_range1 hg hm ha hs
theorem i_zip {elts:List Expr} {kk:Nat} {tpos:Pos} (hm:X.mg "zip" = none) (ha:SE X P a ma) (hb:SE X P b mb) (hg:Gl X "zip" := by rfl) (hs:starEach [a,b] X.env = [(false,eval a X.env),(false,eval b X.env)]:=by rfl) (hs2:starEach [b] X.env = [(false,eval b X.env)]:=by rfl)
    (hpl:(backTo pos (starEach [b] X.env)).any (·.1) = false:=by rfl):SI X P (.Tuple elts kk tpos) (.Call (.Name "zip" p) [a,b] [] pos) (mZip ma mb):=si_zip c.hK hg hm ha hb hs hs2 hpl
theorem g_nm (i:Nat) {x:Str} (hx:Loc X.env.scope x) (hf:X.fn x = true ∨ X.env.scope.names.lookup x = some .local) (hi:X.N[i]? = some x:=by rfl):SG X P (.Name x pos) (.nm i):=sg_name c.nd hi hx hf
theorem g_tup {is:List Nat} {kk:Nat} (h:Nms X es is):SG X P (.Tuple es kk pos) (.tup is):=sg_tup c.hK c.cm c.nd h
/-- a comprehension -/
theorem x_lc {elt tg iter:Expr} {ifs:List Expr} {scope:Scope} {im:IM} {pt:Pt} {cs:Option BM} {me:EM} (own:List (Str × Nat)) (hi:SI X P tg iter im) (ok:BlkOk X.N X.env.scope scope own)
    (hb:∀ (s:Shared) (H:Hp) (C:Addr) (cl:List (Str × Addr)) (fp:List Addr),Ct (X.blk s H scope (compEnvC scope cl C X.env) fp) P.calm k →
      SG (X.blk s H scope (compEnvC scope cl C X.env) fp) P.calm tg pt ∧ PTs (X.blk s H scope (compEnvC scope cl C X.env) fp) ifs (ttsM P.calm cs) ∧ SE (X.blk s H scope (compEnvC scope cl C X.env) fp) P.calm elt me)
    (hs:∀ x,foldedSetIterable iter X.env x = pure x:=by intro _; rfl):SE X P (.ListComp elt [⟨tg,iter,ifs,0⟩] scope pos) (mLc im pt cs me (own.map (·.2))):=
  se_lc c.cm c.nd hi ok (fun s H C cl fp=>(hb s H C cl fp (c.blk s H scope _ fp)).1) (fun s H C cl fp=>(hb s H C cl fp (c.blk s H scope _ fp)).2.1) (fun s H C cl fp=>(hb s H C cl fp (c.blk s H scope _ fp)).2.2) hs
theorem s_setLc (i:Nat) {y:Str} {py spos:Pos} {elt tg iter:Expr} {ifs:List Expr} {scope:Scope} {im:IM} {pt:Pt} {cs:Option BM} {me:EM} (own:List (Str × Nat)) (hyl:X.env.scope.names.lookup y = some .local) (hi:SI X P tg iter im) (ok:BlkOk X.N X.env.scope scope own)
    (hb:∀ (s:Shared) (H:Hp) (C:Addr) (cl:List (Str × Addr)) (fp:List Addr),Ct (X.blk s H scope (compEnvC scope cl C X.env) fp) P.calm k →
      SG (X.blk s H scope (compEnvC scope cl C X.env) fp) P.calm tg pt ∧ PTs (X.blk s H scope (compEnvC scope cl C X.env) fp) ifs (ttsM P.calm cs) ∧ SE (X.blk s H scope (compEnvC scope cl C X.env) fp) P.calm elt me)
    (hy:X.N[i]? = some y:=by rfl) (hs:∀ x,foldedSetIterable iter X.env x = pure x:=by intro _; rfl) (hsw:swapsWith (.ListComp elt [⟨tg,iter,ifs,0⟩] scope pos) (some (.Name y py)) spos.line X.env = pure true:=by rfl) :
    SS X P (.Assign [.Name y py] (.ListComp elt [⟨tg,iter,ifs,0⟩] scope pos) spos) (sSet i (mLc im pt cs me (own.map (·.2)))):=
  ss_setLc c.cm c.nd hy hyl hsw hi ok (fun s H C cl fp=>(hb s H C cl fp (c.blk s H scope _ fp)).1) (fun s H C cl fp=>(hb s H C cl fp (c.blk s H scope _ fp)).2.1) (fun s H C cl fp=>(hb s H C cl fp (c.blk s H scope _ fp)).2.2) hs
theorem s_set (i:Nat) {x:Str} {p':Pos} (hx:Loc X.env.scope x) (he:SE X P a ma) (hi:X.N[i]? = some x:=by rfl) (hf:X.fn x = true ∨ X.env.scope.names.lookup x = some .local:=by first | exact .inl rfl | exact .inr rfl)
    (hs:swapsWith a (some (.Name x p')) pos.line X.env = pure false:=by rfl):SS X P (.Assign [.Name x p'] a pos) (sSet i ma):=ss_set c.nd hi hx he hs hf
theorem s_tgt {tg:Expr} {pt:Pt} (hg:SG X P tg pt) (he:SE X P a ma) (hs:swapsWithSole [tg] a pos.line X.env = pure false:=by rfl) (hw:swappedStores [tg] a X.env = pure none:=by rfl) (h1:(assignEach [tg] X.env).map (·.2) = [assign tg X.env]:=by rfl) :
    SS X P (.Assign [tg] a pos) (sTgt pt ma):=ss_tgt he hg hs hw h1
theorem s_par (i j:Nat) {x y:Str} {px py pt:Pos} {kt k2 pt2} (hx:X.env.scope.names.lookup x = some .local) (hy:X.env.scope.names.lookup y = some .local) (ha:SE X P a ma) (hb:SE X P b mb) (hi:X.N[i]? = some x:=by rfl) (hj:X.N[j]? = some y:=by rfl) (hij:i ≠ j:=by decide)
    (hs1:starEach [a,b] X.env = [(false,eval a X.env),(false,eval b X.env)]:=by rfl) (hs2:starEach [b] X.env = [(false,eval b X.env)]:=by rfl)
    (hw:swappedStores [.Tuple [.Name x px,.Name y py] kt pt] (.Tuple [a,b] k2 pt2) X.env = pure (some [x,y]):=by rfl) (hs:swapsWithSole [.Tuple [.Name x px,.Name y py] kt pt] (.Tuple [a,b] k2 pt2) pos.line X.env = pure false:=by rfl) :
    SS X P (.Assign [.Tuple [.Name x px,.Name y py] kt pt] (.Tuple [a,b] k2 pt2) pos) (sPar i j ma mb):=ss_par c.cm c.nd hi hj hij hx hy ha hb hs1 hs2 hw hs
theorem s_for {tg iter:Expr} {body:List Stmt} {im:IM} {pt:Pt} {mm:SM} (hi:SI X P tg iter im) (hg:SG X P tg pt) (hb:SSs X P body mm) (hs:∀ x,foldedSetIterable iter X.env x = pure x:=by intro _; rfl):SS X P (.For tg iter body [] pos) (sFor im pt mm):=ss_for c.ps c.cm hi hg hb hs
theorem s_while {body:List Stmt} {mc:BM} {mm:SM} (n:Nat) (hc:SB X P a mc) (hb:SSs X P body mm):SS X P (.While a body [] pos) (whileL mc mm n):=ss_while n c.ps hc hb
theorem s_expr (he:SE X P a ma) (hs:swapsWith a none pos.line X.env = pure false:=by rfl):SS X P (.Expr a pos) (sExpr ma):=ss_expr he hs
theorem s_app (i:Nat) {x:Str} {npos apos cpos:Pos} (hv:Vis X.env.scope x) (ha:SE X P a ma) (hN:X.N[i]? = some x:=by rfl) (hd:(x == ("__debug__" : Str)) = false:=by decide) (hcd:(x == ("__classdict__" : Str)) = false:=by decide)
    (h:PE X (.Name x npos) (tVar i) → PA X [a] (tCons (teM P fun G t=>(ma G t).fz) tNil) → PE X (.Call (.Attribute (.Name x npos) "append" apos) [a] [] cpos) (tBM X.K "list" rAppend (tVar i) (tCons (teM P fun G t=>(ma G t).fz) tNil)):=by
      exact fun h1 h2=>pe_bm PySem.F.plainAttrs_list PySem.F.slot_list_append PySem.F.type_list_append mt_append h1 h2)
    (hs:starEach [a] X.env = [(false,eval a X.env)]:=by rfl) (hsw:swapsWith (.Call (.Attribute (.Name x npos) "append" apos) [a] [] cpos) none pos.line X.env = pure false:=by rfl) :
    SS X P (.Expr (.Call (.Attribute (.Name x npos) "append" apos) [a] [] cpos) pos) (sApp i ma):=ss_app hN hv hd hcd ha h hs hsw
theorem s_put (i:Nat) {x:Str} {npos p':Pos} (hv:Vis X.env.scope x) (hi:SE X P b mb) (ha:SE X P a ma) (hN:X.N[i]? = some x:=by rfl) (hd:(x == ("__debug__" : Str)) = false:=by decide) (hcd:(x == ("__classdict__" : Str)) = false:=by decide)
    (h:PE X (.Name x npos) (tVar i) → PE X b (teM P fun G t=>(mb G t).fz) → PE X a (teM P fun G t=>(ma G t).fz) → PS X (.Assign [.Subscript (.Name x npos) b p'] a pos) (tAsg (teM P fun G t=>(ma G t).fz) (gSub (tVar i) (teM P fun G t=>(mb G t).fz) rSetL)):=by
      exact fun h1 h2 h3=>ps_asg h3 (pg_sub h1 h2 set_list)) :
    SS X P (.Assign [.Subscript (.Name x npos) b p'] a pos) (sPut i mb ma):=ss_put hN hv hd hcd hi ha h
theorem s_raise {j:Nat} {x:Str} {fl:List Str} {C:Addr} (R:ExcR X.prog X.w X.K X.mg X.base j x fl C) (hk:j + 1 ≤ k) (ha:SA X P (a :: es) m) (hg:Gl X x:=by rfl) (he:starEach (a :: es) X.env = (false,eval a X.env) :: starEach es X.env:=by rfl) (hpl:(backTo pos (starEach es X.env)).any (·.1) = false:=by rfl)
    (hdb:(x == ("__debug__" : Str)) = false:=by decide):SS X P (.Raise (some (.Call (.Name x p) (a :: es) [] pos)) none p2) (sRaise x fl m):=ss_raise R c.hK c.hm c.cm c.r hk c.tk hg ha he hpl hdb
theorem s_try {tab:Tab} {body:List Stmt} {h₀:ExceptHandler} {hds:List ExceptHandler} {l:List Hd} {mm:SM} (ht:TabOk X.K X.mg tab) (hb:∀ (W:WX) (pn:List (Addr × Obj)) (xe:Value → Shared → Prop),Ct (X.tr pn xe) (P.wi W) k → SSs (X.tr pn xe) (P.wi W) body mm)
    (hh:HdOk X P (h₀ :: hds) l) (hs:X.stack = X.env :: X.outer:=by rfl) (hf:X.env.frame = some X.env.locals:=by rfl):SS X P (.Try body (h₀ :: hds) [] [] pos) (sTry tab mm l):=ss_try c.hK c.hm ht hs hf c.nd c.tk (fun W pn xe tk ps=>hb W pn xe (c.tr tk ps)) hh
end
def blkB (N:List Str) (sc scope:Scope) (own:List (Str × Nat)):Bool:=decide (scope.kind = .function) && ((scope.names.all fun y=>decide (scope.names.lookup y.1 = some y.2)) && ((own.all fun p=>decide (N[p.2]? = some p.1)) &&
  ((scope.names.all fun y=>!decide (y.2 = .free) || (decide (sc.names.lookup y.1 = some .cell) || decide (sc.names.lookup y.1 = some .free))) && (scope.names.all fun y=>!(decide (y.2 = .local) || decide (y.2 = .cell)) || (decide (y.1 ∈ own.map (·.1)) || !decide (y.1 ∈ N))))))
theorem blk_of {N:List Str} {sc scope:Scope} {own:List (Str × Nat)} (h:blkB N sc scope own = true):BlkOk N sc scope own:=by
  unfold blkB at h
  simp only [Bool.and_eq_true,List.all_eq_true,decide_eq_true_eq,Bool.or_eq_true,Bool.not_eq_true',decide_eq_false_iff_not] at h
  obtain ⟨h1,h2,h3,h4,h5⟩:=h
  refine ⟨h1,h2,h3,fun y hy e=>?_,fun y hy e=>?_⟩
  · rcases h4 y hy with z | z
    · exact absurd e z
    · exact z
  · rcases h5 y hy with z | z
    · rw [Bool.or_eq_false_iff,decide_eq_false_iff_not,decide_eq_false_iff_not] at z
      exact absurd e (fun w=>w.elim z.1 z.2)
    · exact z
end DL
end
section
namespace DL
open PySem PySem.Spec PyProof.Rows L2
variable [Tbs]
abbrev mBl (m:EM):BM:=fun G t=>(m G t).bind fun x t=>.of x.bl t
abbrev sBreak:SM:=fun G t=>.bk G t
abbrev sCont:SM:=fun G t=>.ct G t
abbrev sRetN:SM:=fun G t=>.rt .none t
theorem lookup_ix {c:Str} {fl:List Str}:∀ {es:List (Str × List Str)},es.lookup c = some fl → ∃ i:Nat,es[i]? = some (c,fl)
  | (d,gl) :: es,h=>by
    rw [List.lookup] at h
    cases e:c == d with
    | true =>
      rw [e] at h
      cases h
      rw [beq_iff_eq] at e
      exact ⟨0,by rw [e]; rfl⟩
    | false =>
      rw [e] at h
      obtain ⟨i,hi⟩:=lookup_ix h
      exact ⟨i + 1,hi⟩
theorem lookup_mem1 {c:Str} {fl:List Str} {es:List (Str × List Str)} (h:es.lookup c = some fl):c ∈ es.map (·.1):=by
  obtain ⟨i,hi⟩:=lookup_ix h
  exact List.mem_map.mpr ⟨_,List.mem_of_getElem? hi,rfl⟩
structure TxG (fa:List He.Fa) (fn:List He.DefD) (es:List (Str × List Str)) (tab:Tab) (cs xs:List Str) (tf:List (He.Defn × Str)) (K:PySem.W.Frag) (mg:Str → Option Value) (base:Heap):Prop where
  at_:∃ h:Heap,K.In h ∧ h.Ns mainGlobals mg
  c:He.SaysD fa fn K
  e:exB es tab cs xs K = true
  kk:K = Tbs.K
  tt:Tbs.T = tf.map fun p=>((He.cT K p.1).2,p.2)
  tn:(tf.map fun p=>(He.cT K p.1).2).Nodup
  tb:∀ p ∈ tf,LamX.TabB base mg (He.cT K p.1).1 (He.cT K p.1).2
section
variable {fa:List He.Fa} {fn:List He.DefD} {es:List (Str × List Str)} {tab:Tab} {cs xs:List Str} {tf:List (He.Defn × Str)} {K:PySem.W.Frag} {mg:Str → Option Value} {bse:Heap} (T:TxG fa fn es tab cs xs tf K mg bse)
include T
/-- the table of a def that makes lambdas -/
theorem TxG.lam (i:Nat) {p:He.Defn} {q:Str} {cdv:Value} (ca:CodeAt K (He.fAd K p) cdv) (h:tf[i]? = some (p,q):=by rfl):∃ c P,cdv = .ref c ∧ LamX.TabB bse mg c P ∧ (P,q) ∈ Tbs.T ∧ ∀ z ∈ Tbs.T,z.1 = P → z.2 = q:=by
  have m:=List.mem_of_getElem? h
  have tb:=T.tb _ m
  refine ⟨(He.cT K p).1,(He.cT K p).2,?_,tb,?_,fun z hz e=>?_⟩
  · obtain ⟨oc,od,fd,osl,lk,e,q',hc⟩:=ca
    obtain ⟨c,ec⟩:=He.codeIn_ref hc
    rw [ec]
    show Value.ref c = .ref (He.codeOf K p)
    rw [He.codeOf_eq lk (e.trans ec)]
  · rw [T.tt]
    exact List.mem_map.mpr ⟨_,m,rfl⟩
  · rw [T.tt] at hz
    obtain ⟨w,hw,rfl⟩:=List.mem_map.mp hz
    have nd:=T.tn
    have key:∀ {l:List (He.Defn × Str)},(l.map fun p=>(He.cT K p.1).2).Nodup → ∀ a ∈ l,∀ b ∈ l,(He.cT K a.1).2 = (He.cT K b.1).2 → a = b:=by
      intro l
      induction l with
      | nil=>intro _ a ha; cases ha
      | cons x l ih =>
        intro nd a ha b hb e
        rw [List.map_cons,List.nodup_cons] at nd
        rcases List.mem_cons.mp ha with ea | ha2 <;> rcases List.mem_cons.mp hb with eb | hb2
        · rw [ea,eb]
        · subst ea
          exact absurd (show (He.cT K a.1).2 ∈ l.map (fun p=>(He.cT K p.1).2) from List.mem_map.mpr ⟨b,hb2,e.symm⟩) nd.1
        · subst eb
          exact absurd (show (He.cT K b.1).2 ∈ l.map (fun p=>(He.cT K p.1).2) from List.mem_map.mpr ⟨a,ha2,e⟩) nd.1
        · exact ih nd.2 a ha2 b hb2 e
    have:=key nd w hw _ m e
    rw [this]
theorem TxG.glo (i:Nat) {x:Str} (h:fa[i]? = some (.glo x):=by rfl):mg x = some (.ref (He.ga K x)):=by
  obtain ⟨_,X,G⟩:=T.at_
  exact He.glo_ok X G (T.c.fact i h)
theorem TxG.free (i:Nat) {x:Str} (h:fa[i]? = some (.free x):=by rfl):mg x = none:=by
  obtain ⟨_,X,G⟩:=T.at_
  exact He.free_ok X G (T.c.fact i h)
theorem TxG.int (i:Nat) {x:Str} {z:Int} (h:fa[i]? = some (.int x z):=by rfl):∃ t,mg x = some (.int z t):=by
  obtain ⟨_,X,G⟩:=T.at_
  exact He.int_ok X G (T.c.fact i h)
theorem TxG.str (i:Nat) {x z:Str} (h:fa[i]? = some (.str x z):=by rfl):∃ t,mg x = some (.str z t):=by
  obtain ⟨_,X,G⟩:=T.at_
  exact He.str_ok X G (T.c.fact i h)
theorem TxG.base (g:mg "UnitError" = some (.ref (He.ga K "UnitError"))):BaseE K mg (He.ga K "UnitError"):=by
  have h:=T.e
  unfold exB at h
  exact bseB_ok (Bool.and_eq_true_iff.mp h).1 g
theorem TxG.err (i:Nat) {c:Str} {fl:List Str} (h:es[i]? = some (c,fl):=by rfl):errB K (c,fl) = true:=by
  have q:=T.e
  unfold exB at q
  have q2:=(Bool.and_eq_true_iff.mp (Bool.and_eq_true_iff.mp q).2).1
  exact List.all_eq_true.mp q2 _ (List.mem_of_getElem? h)
theorem TxG.nd:NdK K:=by
  have q:=T.e
  unfold exB at q
  exact ndB_ok (Bool.and_eq_true_iff.mp (Bool.and_eq_true_iff.mp (Bool.and_eq_true_iff.mp q).2).2).2
theorem TxG.tabOk (hc:∀ c x b,tab c x = some b → c ∈ cs ∧ x ∈ xs) (hg:∀ c,c ∈ cs ∨ c ∈ xs → mg c = some (.ref (He.ga K c))):TabOk K mg tab:=by
  intro c x b C X' e1 e2 e3
  obtain ⟨m1,m2⟩:=hc c x b e1
  have q:=T.e
  unfold exB at q
  have q2:=(Bool.and_eq_true_iff.mp (Bool.and_eq_true_iff.mp (Bool.and_eq_true_iff.mp q).2).2).1
  unfold exmB at q2
  have q3:=List.all_eq_true.mp (List.all_eq_true.mp q2 c m1) x m2
  rw [e1] at q3
  have g1:=(hg c (.inl m1)).symm.trans e2
  have g2:=(hg x (.inr m2)).symm.trans e3
  cases g1
  cases g2
  exact of_decide_eq_true q3
end
/-- an own error's facts, apart -/
theorem err_parts {K:PySem.W.Frag} {c:Str} {fl:List Str} (h:errB K (c,fl) = true):OexC K (He.ga K c) ∧ XfC K (He.ga K c) ∧ (∀ f ∈ fl,PySem.W.findIn K (.ref (He.ga K c)) f = some none) ∧
    PySem.W.findIn K (.ref (He.ga K c)) "__init__" = some (some (.ref (He.fAd K (c,some "__init__")))) ∧ PySem.W.typeIn K (.ref (He.fAd K (c,some "__init__"))) = some (.type "function"):=by
  unfold errB at h
  replace h:=(Bool.and_eq_true_iff.mp h).1
  unfold errB0 at h
  simp only [Bool.and_eq_true,decide_eq_true_eq,List.all_eq_true] at h
  obtain ⟨h1,h2,h3,h4,h5⟩:=h
  exact ⟨oexB_ok h1,xfB_ok h2,h3,h4,h5⟩
/-- an own error of one field -/
theorem excR1 {P:Program} {w:World} {K:PySem.W.Frag} {mg:Str → Option Value} {base:Heap} {c qual f m:Str} {args:Arguments} {body:List Stmt} {scope:Scope} {fd:FuncData} {N:List Str} {p q:Str} (gC:mg c = some (.ref (He.ga K c))) (h:errB K (c,[f]) = true)
    (F:FunD K "__init__" qual args body scope [] [] (He.fAd K (c,some "__init__")) fd) (S:FnScope N [p,q] scope) (hN:N.length = 2)
    (hb:∀ {cdv:Value} {A:Around} {outer:List Env} {s:Shared} {H:Hp} {E:XK},PSs (cxOf C8.CX0 P w K mg base N qual scope (He.fAd K (c,some "__init__")) cdv A outer s H E) body (tI1 K f m))
    (bd:∀ (kV doc pm:Value) (an:Option Addr) (cdv ct:Value) (us:List Value),us.length = [p,q].length → bindArgs (PySem.W.fnOf "__init__" qual args body scope .none kV doc pm an cdv ct) ⟨us,[]⟩ = pure ([p,q].zip us)) :
    ExcR P w K mg base 1 c [f] (He.ga K c):=by
  obtain ⟨h1,h2,h3,h4,h5⟩:=err_parts h
  exact ⟨gC,h1,h2,h3,_,_,[p,q],spX1 K (He.ga K c) f,h4,h5,F.ok S (fun vs H Q E z=>spX1_len z) (fun cdv A outer s H vs Q E _ z=>⟨_,hb,tI1_ok hN z⟩),F.bindsN bd,.inl ⟨f,rfl,rfl⟩⟩
/-- a def by its body, to be called by its name -/
theorem calM {P:Program} {w:World} {K:PySem.W.Frag} {mg:Str → Option Value} {base:Heap} {k:Nat} {x qual:Str} {args:Arguments} {body:List Stmt} {scope:Scope} {N ps:List Str} {m:SM} (hd:∃ fd,FunD K x qual args body scope [] [] (He.ga K x) fd) (hm:mg x = some (.ref (He.ga K x))) (S:FnScope N ps scope)
    (hps:ps.length ≤ N.length) (bd:∀ (kV doc pm:Value) (an:Option Addr) (cdv ct:Value) (us:List Value),us.length = ps.length → bindArgs (PySem.W.fnOf x qual args body scope .none kV doc pm an cdv ct) ⟨us,[]⟩ = pure (ps.zip us))
    (hb:∀ {cdv:Value} {A:Around} {outer:List Env} {s:Shared} {H:Hp} {E:XK},Ct (cxG P w K mg base N qual scope (He.ga K x) cdv A outer s H E) (xP K mg E) k → CodeAt K (He.ga K x) cdv → SSs (cxG P w K mg base N qual scope (He.ga K x) cdv A outer s H E) (xP K mg E) body m) :
    CalM P w K mg base (k + 1) ps.length x (runM m N.length) []:=by
  obtain ⟨fd,F⟩:=hd
  exact ⟨_,fd,ps,[],[],fnM F S hps fun hr hg ca=>hb (ct_body S hr hg) ca,hm,F.kp,F.bindsN bd,.nil,by simp,rfl,fun F=>.nil⟩
/-- _law_begin -/
theorem calBegin {P:Program} {w:World} {K:PySem.W.Frag} {mg:Str → Option Value} {base:Heap} {k:Nat} {x qual:Str} {args:Arguments} {body:List Stmt} {scope:Scope} {N:List Str} {z:Str} (hd:∃ fd,FunD K x qual args body scope [] [] (He.ga K x) fd) (hm:mg x = some (.ref (He.ga K x))) (S:FnScope N [z] scope)
    (hN:N.length = 3) (bd:∀ (kV doc pm:Value) (an:Option Addr) (cdv ct:Value) (us:List Value),us.length = [z].length → bindArgs (PySem.W.fnOf x qual args body scope .none kV doc pm an cdv ct) ⟨us,[]⟩ = pure ([z].zip us))
    (hb:∀ {cdv:Value} {A:Around} {outer:List Env} {s:Shared} {H:Hp} {E:XK},Ct (cxG P w K mg base N qual scope (He.ga K x) cdv A outer s H E) (xP K mg E) k → CodeAt K (He.ga K x) cdv → PSs (cxG P w K mg base N qual scope (He.ga K x) cdv A outer s H E) body (tSeq (tsM (xP K mg E) (sSet 1 mBeg1)) (tMkSt (xP K mg E) 1 (mBeg2 2)))) :
    CalM P w K mg base (k + 1) 1 x fBegin []:=by
  obtain ⟨fd,F⟩:=hd
  exact ⟨_,fd,[z],[],[],fnG_begin F S hN fun hr hg ca=>hb (ct_body S hr hg) ca,hm,F.kp,F.bindsN bd,.nil,rfl,rfl,fun F=>.nil⟩
end DL
end
section
namespace DL
open PySem PySem.Spec PyProof.Rows L2
variable [Tbs]
def mCallK (n j:Nat) (f:FM) (a z:AM):EM:=fun G t=>(a G t).bind fun rs t=>(z G t).bind fun ws t=>if rs.length = n ∧ ws.length = j then f (rs ++ ws) t else .stuck
end DL
end
section
namespace DL
open PySem PySem.Spec PyProof.Rows L2
variable [Tbs]
abbrev Ents:=List (List Key × Addr × Value)
/-- the keys are tuples that stand -/
def KeysAt (K:PySem.W.Frag) (H:Hp) (xs:Ents):Prop:=∀ x ∈ xs,SqT K H x.2.1 (x.1.map kV)
theorem KeysAt.mono {K:PySem.W.Frag} {H H':Hp} {xs:Ents} (k:Same H H') (h:KeysAt K H xs):KeysAt K H' xs:=fun x hx=>Same.seqT k (h x hx)
def tupI (ns:List Int):D:=.tuple (ns.map .int)
def kk (ns:List Int):List Key:=ns.map Sum.inl
end DL
end
section
namespace DL
open PySem PySem.Spec PyProof.Rows L2
variable [Tbs]
section
variable {X:Cx} {pins:List (Addr × Obj)} {σ:Sg} {H:Hp} {s:Shared}
/-- a lambda is made; the heap changes at the table alone -/
theorem lam_make {c P:Addr} {params:Arguments} {body:Expr} {scope:Scope} {pos:Pos} {E Q:Value → Shared → Prop} (I:L2.Inv X pins σ H s) (TB:LamX.TabB X.base X.mg c P) (hcode:X.env.code = .ref c)
    (hm:(P,X.env.qual ++ "<lambda>") ∈ Tbs.T) (hu:∀ p ∈ Tbs.T,p.1 = P → p.2 = X.env.qual ++ "<lambda>") (hT:LamX.Tabs Tbs.T H) (hdef:defaultsOf params X.env = ([],[])) (hfree:∀ y ∈ scope.names,y.2 = .free → ∃ c,X.env.cells.lookup y.1 = some c)
    (h:∀ (f c':Addr) (pm ctv:Value) (H1:Hp) (s':Shared),L2.Inv X pins σ H1 s' → (∀ b,b ≠ P → H b ≠ none → H1 b = H b) → H1 P ≠ none → LamX.Tabs Tbs.T H1 →
      s'.heap.get? f = some (PySem.W.kla_obj "<lambda>" (X.env.qual ++ "<lambda>") params body scope (cloFrom X.env.cells scope.names []) pm c' ctv) → s'.heap.CodeRec (.ref c') (X.env.qual ++ "<lambda>") → Q (.ref f) s') :
    wpAny (model X.prog X.w) X.A (eval (.Lambda params body scope pos) X.env) Q E s:=by
  obtain ⟨ps,eP,trip,known⟩:=hT _ hm
  have bmain:s.heap.BuiltinsAt X.mg P:=TB.bm.keeps I.bk
  have objP:s.heap.get? P = some { cls:=.none,data:=.fields ps }:=I.hok P _ eP
  refine PySem.W.kla_eval hdef ?_
  cases look:codeAmong pos ps.toList with
  | some cv =>
    obtain ⟨c',rfl,co⟩:=known pos cv look
    obtain ⟨⟨oc,vs,t,o1,o2,o3⟩,_,_⟩:=I.hok c' _ co
    refine PySem.W.kla_makeFunctionHit (mg:=X.mg) (c:=c) (P:=P) (ps:=ps) (closure_ok hfree) I.ok.glob (I.mod.glob.keeps I.bk) hcode (TB.code.keeps I.bk) objP trip look bmain fun ctv h' tk up sz=>?_
    refine h h'.objs.size c' ((X.mg "__name__").getD .none) ctv H _ (I.kept (t':=tk) fun b o e=>Heap.get?_push_of_some _ (up b o e)) (fun _ _ _=>rfl) (by rw [eP]; simp) hT (Heap.get?_push_size _ rfl) ?_
    exact ⟨c',oc,vs,t,rfl,Heap.get?_push_of_some _ (up _ _ o1),o2,o3⟩
  | none =>
    refine PySem.W.kla_makeFunction (mg:=X.mg) (c:=c) (P:=P) (ps:=ps) (closure_ok hfree) I.ok.glob (I.mod.glob.keeps I.bk) hcode (TB.code.keeps I.bk) objP trip look TB.gP bmain fun c' ctv h' tk ext ge lt rec at_=>?_
    obtain ⟨c2,oc,vs,t,e2,o1,o2,o3⟩:=rec
    cases e2
    have freeC:H c' = none:=I.hok.fresh ge
    have J:=LamX.inv_table (t':=tk) (more:=#[rawInt pos.line,rawInt pos.col,.ref c']) (h':=h'.push (PySem.W.kla_obj "<lambda>" (X.env.qual ++ "<lambda>") params body scope (cloFrom X.env.cells scope.names []) ((X.mg "__name__").getD .none) c' ctv)) I eP
      (fun b o hb e=>Heap.get?_push_of_some _ (ext b o hb e)) (Heap.get?_push_of_some _ at_) ge ⟨oc,vs,t,Heap.get?_push_of_some _ o1,o2,o3⟩
    have same:∀ b,b ≠ P → H b ≠ none → upd (upd H P (.tbl (ps ++ #[rawInt pos.line,rawInt pos.col,.ref c']))) c' (LamX.CodeO c' (X.env.qual ++ "<lambda>")) b = H b:=fun b hb nn=>by
      rw [upd_ne (fun z=>nn (by rw [z]; exact freeC)),upd_ne hb]
    have codes:∀ (b:Addr) (q:Str),H b = some (LamX.CodeO b q) → upd (upd H P (.tbl (ps ++ #[rawInt pos.line,rawInt pos.col,.ref c']))) c' (LamX.CodeO c' (X.env.qual ++ "<lambda>")) b = some (LamX.CodeO b q):=fun b q e=>by
      rw [same b (fun z=>by rw [z,eP] at e; exact LamX.codeO_ne ps (Option.some.inj e).symm) (by rw [e]; simp)]
      exact e
    have listed:(ps ++ #[rawInt pos.line,rawInt pos.col,.ref c']).toList = ps.toList ++ [rawInt pos.line,rawInt pos.col,.ref c']:=by simp
    have atP:upd (upd H P (.tbl (ps ++ #[rawInt pos.line,rawInt pos.col,.ref c']))) c' (LamX.CodeO c' (X.env.qual ++ "<lambda>")) P = some (.tbl (ps ++ #[rawInt pos.line,rawInt pos.col,.ref c'])):=by
      rw [upd_ne (ne_of_none eP freeC),upd_same]
    refine h h'.objs.size c' ((X.mg "__name__").getD .none) ctv _ _ J same (by rw [atP]; simp) (fun p hp=>?_) (Heap.get?_push_size _ rfl) ⟨c',oc,vs,t,rfl,Heap.get?_push_of_some _ o1,o2,o3⟩
    by_cases hb:p.1 = P
    · rw [hu p hp hb,hb]
      refine ⟨_,atP,by rw [listed]; exact PySem.TriplesOk_snoc _ _ _ _ trip,fun p' cv hcv=>?_⟩
      rw [listed] at hcv
      rcases LamX.among_app _ trip hcv with z | z
      · obtain ⟨c0,z1,z2⟩:=known p' cv z
        exact ⟨c0,z1,codes _ _ z2⟩
      · exact ⟨c',z,upd_same⟩
    · obtain ⟨ps',z1,z2,z3⟩:=hT p hp
      refine ⟨ps',(same p.1 hb (by rw [z1]; simp)).trans z1,z2,fun p' cv hcv=>?_⟩
      obtain ⟨c0,w1,w2⟩:=z3 p' cv hcv
      exact ⟨c0,w1,codes _ _ w2⟩
/-- .. as growth -/
theorem lam_grow {As:List Addr} {F H1:Hp} {t:Option DS} {P:Addr} {q:Str} (st:StF As t F H) (k:Same F H) (hm:(P,q) ∈ Tbs.T) (same:∀ b,b ≠ P → H b ≠ none → H1 b = H b) (nP:H1 P ≠ none) (hT:LamX.Tabs Tbs.T H1):Grow As F H As F H1 ∧ StF As t F H1:=by
  have pT:P ∈ tabA:=List.mem_map.mpr ⟨_,hm,rfl⟩
  have pA:P ∈ As:=by
    obtain ⟨_,o⟩:=st.ok
    cases t with
    | none=>rw [show As = tabA from o]; exact pT
    | some q=>obtain ⟨d,c,l,as,e,_⟩:=o; rw [e]; exact List.mem_append_left _ pT
  have tb:∃ ps,H P = some (.tbl ps):=tab_there st.ok.1 P pT
  have up:∀ b o,b ≠ P → H b = some o → H1 b = some o:=fun b o nb e=>(same b nb (by rw [e]; simp)).trans e
  have fP:F P = none:=st.sf P pA
  refine ⟨⟨Same.refl _,fun b o e=>up b o (ne_of_none e fP) (k b o e),fun b o nb e=>up b o (fun z=>nb (by rw [z]; exact pA)) e,fun b e _=>e,fun b z=>?_,.inl rfl,fun b x u e=>up b _ (fun z=>by obtain ⟨ps,q⟩:=tb; rw [z,q] at e; cases e) e⟩,⟨hT,?_⟩,st.sf,st.tn⟩
  · by_cases hb:b = P
    · rw [hb]; exact nP
    · rw [same b hb z]; exact z
  · obtain ⟨_,o⟩:=st.ok
    cases t with
    | none=>exact o
    | some q =>
      obtain ⟨d,c,l,as,e,n1,n2,n3,h1,h2,h3,h4⟩:=o
      obtain ⟨ps,eP⟩:=tb
      have ne:∀ {b:Addr} {o:HO},H b = some o → (∀ ps,o ≠ .tbl ps) → b ≠ P:=fun {b o} e n z=>by
        rw [z,eP] at e
        exact n ps (Option.some.inj e).symm
      refine ⟨d,c,l,as,e,n1,n2,n3,up d _ (ne h1 fun _ z=>by cases z) h1,up c _ (ne h2 fun _ z=>by cases z) h2,up l _ (ne h3 fun _ z=>by cases z) h3,h4.same fun q hq=>?_⟩
      obtain ⟨ds,cq⟩:=h4.cell q hq
      rcases cq.there with ⟨vs,eq⟩ | ⟨vs,eq⟩ | ⟨vs,eq⟩ | ⟨x0,vs,eq⟩
      · rw [up q _ (ne eq fun _ z=>by cases z) eq,eq]
      · rw [up q _ (ne eq fun _ z=>by cases z) eq,eq]
      · rw [up q _ (ne eq fun _ z=>by cases z) eq,eq]
      · rw [up q _ (ne eq fun _ z=>by cases z) eq,eq]
end
end DL
end
section
namespace DL
open PySem PySem.Spec PyProof.Rows L2
variable [Tbs]
section
variable {X:Cx} {P:Pm} {a:Expr} {ma:EM} {pos:Pos}
theorem z_cons {es:List Expr} {m:AM} (ha:SE X P a ma) (hr:SA X P es m) (hs:starEach (a :: es) X.env = (false,eval a X.env) :: starEach es X.env:=by rfl):SA X P (a :: es) (mCons ma m):=sa_cons ha hr hs
end
end DL
end
section
namespace DL
open PySem PySem.Spec PyProof.Rows L2
theorem obT_eq {n:Nat} {fa:List He.Fa} {fn:List He.DefD} {tf:List He.Defn} {ex:PySem.W.Frag → Bool} (s:PySem.W.SharedT):obT n fa fn tf ex s = (hookC n fa fn tf ex).obs s.abs:=by
  have e:HandSHeadRun.getT s = s.abs.heap.get?:=funext (HandSHeadRun.getT_eq s)
  unfold obT
  rw [e]
  rfl
/-- the goal that a head leaves, of a law's walk -/
theorem walkC {l:PySem.W.OpenLaw} {n m k:Nat} {q:Program} {loose:List Str} {XP:(Str → Option Value) → Heap → Prop} {d:DefRec} {z:Str} {fa:List He.Fa} {fn:List He.DefD} {es:List (Str × List Str)} {tab:Tab} {cs xs:List Str} {tf:List (He.Defn × Str)} {f:FM}
    {qual:Str} {args:Arguments} {body:List Stmt} {scope:Scope} {i:Nat}
    (hn:l.most = some n) (hn2:n ≤ sizeLine) (hdf:d.params.defaults = []) (hr:Room k callerA) (hx:d.name = ("law" : Str)) (hi:fn[i]? = some ⟨("law",none), "law",qual,args,body,scope,[],[]⟩) (hg:He.Fa.glo "law" ∈ fa)
    (bd:∀ (kV doc pm:Value) (an:Option Addr) (cdv ct:Value) (us:List Value),us.length = [z].length → bindArgs (PySem.W.fnOf "law" qual args body scope .none kV doc pm an cdv ct) ⟨us,[]⟩ = pure ([z].zip us))
    (law:∀ (_:Tbs) (ns:List Int),ns.length ≤ n → ∃ t',f [.d (.list (ns.map .int))] none = .ok (.d (.bool true)) t')
    (F:∀ (_:Tbs) (w:World) (K:PySem.W.Frag) (mg:Str → Option Value) (base:Heap) (fd:FuncData),TxG fa fn es tab cs xs tf K mg base → FunD K "law" qual args body scope [] [] (He.ga K "law") fd → FnG l.prog w K mg base k (He.ga K "law") fd [z] (spM K mg 1 f)) :
    PySem.W.WalkO q loose XP (hookC m fa fn (tf.map (·.1)) (exB es tab cs xs)).says l.row.toRowW d [] (fun f vs=>PySem.call f vs):=by
  refine walkG (x:=z) hn hn2 hdf hr fun w mg fA h Y G hmg=>?_
  obtain ⟨K,KX,c⟩:=Y
  rw [hx] at hmg
  have e:=hmg.symm.trans (He.glo_ok KX G (c.d.facts hg))
  obtain rfl:fA = He.ga K "law" := by cases e; rfl
  obtain ⟨fd,FD⟩:=c.d.def_ i hi
  let I:Tbs:=⟨tf.map fun p=>((He.cT K p.1).2,p.2),K⟩
  have b:=FunD.bindsA (ps:=[z]) FD bd
  refine ⟨I,K,fd,f,(tf.map (·.1)).map (He.cT K),KX,?_,⟨fun p hp=>?_,fun p hp=>?_,fun p hp=>?_⟩,fun s u=>b s [u] rfl,fun ns h=>law I ns h,fun base hb hm ht=>F I w K mg base fd ⟨⟨base,hb,hm⟩,c.d,c.more,rfl,rfl,?_,fun p hp=>?_⟩ FD⟩
  · show (tf.map fun p=>((He.cT K p.1).2,p.2)).map (·.1) = ((tf.map (·.1)).map (He.cT K)).map (·.2)
    simp only [List.map_map,Function.comp_def]
  · obtain ⟨r,hr,rfl⟩:=List.mem_map.mp hp
    exact (c.tabs r hr).2.2
  · obtain ⟨r,hr,rfl⟩:=List.mem_map.mp hp
    exact (c.tabs r hr).2.1
  · obtain ⟨r,hr,rfl⟩:=List.mem_map.mp hp
    exact PySem.W.codeHd_of_K KX (c.tabs r hr).1
  · have:=c.apart
    rw [List.map_map] at this
    exact this
  · exact ht _ (List.mem_map.mpr ⟨p.1,List.mem_map.mpr ⟨p,hp,rfl⟩,rfl⟩)
end DL
end
section
namespace DL
open PySem PySem.Spec PyProof.Rows L2
variable [Tbs]
theorem flat_dp {K:PySem.W.Frag} {F:Hp}:∀ {x:D},flatD x = true → Dp K F (flatV x) x
  | .none,_=>.non
  | .bool b,_=>.bl b
  | .int i,_=>.int i
  | .str x,_=>.str x
  | .list _,h=>nomatch h
  | .tuple _,h=>nomatch h
  | .dict _,h=>nomatch h
theorem flat_eq {K:PySem.W.Frag} {F:Hp} {v:V}:∀ {x:D},flatD x = true → Dp K F v x → v = flatV x
  | .none,_,h=>by cases h; rfl
  | .bool b,_,h=>by cases h; rfl
  | .int i,_,h=>by cases h; rfl
  | .str x,_,h=>by cases h; rfl
  | .list _,h,_=>nomatch h
  | .tuple _,h,_=>nomatch h
  | .dict _,h,_=>nomatch h
theorem flats_dp {K:PySem.W.Frag} {F:Hp}:∀ {ds:List D},ds.all flatD = true → DpAll K F (ds.map flatV) ds
  | [],_=>.nil
  | x :: xs,h=>by
    rw [List.all_cons,Bool.and_eq_true] at h
    exact .cons (flat_dp h.1) (flats_dp h.2)
theorem flats_eq {K:PySem.W.Frag} {F:Hp}:∀ {ds:List D} {vs:List V},ds.all flatD = true → DpAll K F vs ds → vs = ds.map flatV
  | [],_,_,h=>by cases h; rfl
  | x :: xs,_,f,h=>by
    rw [List.all_cons,Bool.and_eq_true] at f
    cases h with
    | cons h1 h2=>rw [flat_eq f.1 h1,flats_eq f.2 h2]; rfl
end DL
end
section
namespace DL
open PySem PySem.Spec PyProof.Rows L2
variable [Tbs]
theorem among_pre {pos:Pos} {cv:Value} (l more:List Value) (h:TriplesOk l) (hc:codeAmong pos l = some cv):codeAmong pos (l ++ more) = some cv:=by
  fun_induction TriplesOk l with
  | case1=>simp [codeAmong] at hc
  | case2 a t b u x rest ih =>
    simp only [List.cons_append,codeAmong] at hc ⊢
    split at hc
    · rename_i q
      rw [if_pos q]; exact hc
    · rename_i q
      rw [if_neg q]; exact ih h hc
  | case3 l h1 h2=>exact h.elim
theorem among_new {pos:Pos} {c:Value} (l:List Value) (h:TriplesOk l) (hc:codeAmong pos l = none):codeAmong pos (l ++ [rawInt pos.line,rawInt pos.col,c]) = some c:=by
  fun_induction TriplesOk l with
  | case1=>simp [codeAmong,rawInt]
  | case2 a t b u x rest ih =>
    simp only [List.cons_append,codeAmong] at hc ⊢
    split at hc
    · cases hc
    · rename_i q
      rw [if_neg q]; exact ih h hc
  | case3 l h1 h2=>exact h.elim
section
variable {X:Cx} {pins:List (Addr × Obj)} {σ:Sg} {H:Hp} {s:Shared}
theorem lam_tail {c P:Addr} {params:Arguments} {body:Expr} {scope:Scope} {pos:Pos} {dV:Value} {E Q:Value → Shared → Prop} (I:L2.Inv X pins σ H s) (TB:LamX.TabB X.base X.mg c P) (hcode:X.env.code = .ref c)
    (hm:(P,X.env.qual ++ "<lambda>") ∈ Tbs.T) (hu:∀ p ∈ Tbs.T,p.1 = P → p.2 = X.env.qual ++ "<lambda>") (hT:LamX.Tabs Tbs.T H) (hfree:∀ y ∈ scope.names,y.2 = .free → ∃ c,X.env.cells.lookup y.1 = some c)
    (h:∀ (f c':Addr) (doc pm ctv:Value) (H1:Hp) (s':Shared) (ps:Array Value),L2.Inv X pins σ H1 s' → (∀ b,b ≠ P → H b ≠ none → H1 b = H b) → H1 P = some (.tbl ps) → TriplesOk ps.toList → codeAmong pos ps.toList = some (.ref c') → LamX.Tabs Tbs.T H1 →
      (∀ b o,b ≠ P → s.heap.get? b = some o → s'.heap.get? b = some o) → (∀ b,s.heap.get? b ≠ none → H b = none → H1 b = none) →
      s'.heap.get? f = some (PySem.W.kdv_obj "<lambda>" (X.env.qual ++ "<lambda>") params (.expr body) scope (cloFrom X.env.cells scope.names []) dV doc pm c' ctv) → H1 f = none → f ∉ frs X.stack → Q (.ref f) s') :
    wpAny (model X.prog X.w) X.A (PySem.makeTail "<lambda>" (X.env.qual ++ "<lambda>") params (.expr body) scope X.env dV .none none pos pos.line) Q E s:=by
  obtain ⟨ps,eP,trip,known⟩:=hT _ hm
  have bmain:s.heap.BuiltinsAt X.mg P:=TB.bm.keeps I.bk
  have objP:s.heap.get? P = some { cls:=.none,data:=.fields ps }:=I.hok P _ eP
  have nofr:∀ f,s.heap.objs.size ≤ f → f ∉ frs X.stack:=fun f hf z=>by
    rcases List.mem_cons.mp (I.stkSub _ z) with e | e
    · have h1:=I.lt
      rw [← e] at h1
      exact Nat.lt_irrefl _ (Nat.lt_of_lt_of_le h1 hf)
    · exact I.nofs hf e
  cases look:codeAmong pos ps.toList with
  | some cv =>
    obtain ⟨c',rfl,co⟩:=known pos cv look
    refine PySem.W.kdv_makeTailHit (mg:=X.mg) (c:=c) (P:=P) (ps:=ps) (closure_ok hfree) I.ok.glob (I.mod.glob.keeps I.bk) hcode (TB.code.keeps I.bk) objP trip look bmain fun ctv doc h' tk up sz=>?_
    exact h h'.objs.size c' doc ((X.mg "__name__").getD .none) ctv H _ ps (I.kept (t':=tk) fun b o e=>Heap.get?_push_of_some _ (up b o e)) (fun _ _ _=>rfl) eP trip look hT (fun b o _ e=>Heap.get?_push_of_some _ (up b o e)) (fun _ _ e=>e) (Heap.get?_push_size _ rfl) (I.hok.fresh sz) (nofr _ sz)
  | none =>
    refine PySem.W.kdv_makeTail (mg:=X.mg) (c:=c) (P:=P) (ps:=ps) (closure_ok hfree) I.ok.glob (I.mod.glob.keeps I.bk) hcode (TB.code.keeps I.bk) objP trip look TB.gP bmain fun c' ctv doc h' tk ext ge lt rec at_=>?_
    obtain ⟨c2,oc,vs,t,e2,o1,o2,o3⟩:=rec
    cases e2
    have hsz:s.heap.objs.size ≤ h'.objs.size:=Nat.le_trans ge (Nat.le_of_lt lt)
    have freeC:H c' = none:=I.hok.fresh ge
    have J:=LamX.inv_table (t':=tk) (more:=#[rawInt pos.line,rawInt pos.col,.ref c']) (h':=h'.push (PySem.W.kdv_obj "<lambda>" (X.env.qual ++ "<lambda>") params (.expr body) scope (cloFrom X.env.cells scope.names []) dV doc ((X.mg "__name__").getD .none) c' ctv)) I eP
      (fun b o hb e=>Heap.get?_push_of_some _ (ext b o hb e)) (Heap.get?_push_of_some _ at_) ge ⟨oc,vs,t,Heap.get?_push_of_some _ o1,o2,o3⟩
    have same:∀ b,b ≠ P → H b ≠ none → upd (upd H P (.tbl (ps ++ #[rawInt pos.line,rawInt pos.col,.ref c']))) c' (LamX.CodeO c' (X.env.qual ++ "<lambda>")) b = H b:=fun b hb nn=>by
      rw [upd_ne (fun z=>nn (by rw [z]; exact freeC)),upd_ne hb]
    have codes:∀ (b:Addr) (q:Str),H b = some (LamX.CodeO b q) → upd (upd H P (.tbl (ps ++ #[rawInt pos.line,rawInt pos.col,.ref c']))) c' (LamX.CodeO c' (X.env.qual ++ "<lambda>")) b = some (LamX.CodeO b q):=fun b q e=>by
      rw [same b (fun z=>by rw [z,eP] at e; exact LamX.codeO_ne ps (Option.some.inj e).symm) (by rw [e]; simp)]
      exact e
    have listed:(ps ++ #[rawInt pos.line,rawInt pos.col,.ref c']).toList = ps.toList ++ [rawInt pos.line,rawInt pos.col,.ref c']:=by simp
    have atP:upd (upd H P (.tbl (ps ++ #[rawInt pos.line,rawInt pos.col,.ref c']))) c' (LamX.CodeO c' (X.env.qual ++ "<lambda>")) P = some (.tbl (ps ++ #[rawInt pos.line,rawInt pos.col,.ref c'])):=by
      rw [upd_ne (ne_of_none eP freeC),upd_same]
    have trip2:TriplesOk (ps ++ #[rawInt pos.line,rawInt pos.col,.ref c']).toList:=by rw [listed]; exact PySem.TriplesOk_snoc _ _ _ _ trip
    have low:∀ b o,s.heap.get? b = some o → b ≠ c':=fun b o e z=>by
      rw [z] at e
      exact Nat.lt_irrefl _ (Nat.lt_of_lt_of_le (Heap.lt_size e) ge)
    refine h h'.objs.size c' doc ((X.mg "__name__").getD .none) ctv _ _ _ J same atP trip2 (by rw [listed]; exact among_new _ trip look) (fun p hp=>?_) (fun b o hb e=>Heap.get?_push_of_some _ (ext b o hb e)) (fun b z n=>?_) (Heap.get?_push_size _ rfl) ?_ (nofr _ hsz)
    · by_cases hb:p.1 = P
      · rw [hu p hp hb,hb]
        refine ⟨_,atP,trip2,fun p' cv hcv=>?_⟩
        rw [listed] at hcv
        rcases LamX.among_app _ trip hcv with z | z
        · obtain ⟨c0,z1,z2⟩:=known p' cv z
          exact ⟨c0,z1,codes _ _ z2⟩
        · exact ⟨c',z,upd_same⟩
      · obtain ⟨ps',z1,z2,z3⟩:=hT p hp
        refine ⟨ps',(same p.1 hb (by rw [z1]; simp)).trans z1,z2,fun p' cv hcv=>?_⟩
        obtain ⟨c0,w1,w2⟩:=z3 p' cv hcv
        exact ⟨c0,w1,codes _ _ w2⟩
    · cases eb:s.heap.get? b with
      | none=>exact absurd eb z
      | some o=>rw [upd_ne (low b o eb),upd_ne (fun w=>by rw [w,eP] at n; cases n)]; exact n
    · have n1:h'.objs.size ≠ c':=Nat.ne_of_gt lt
      have n2:h'.objs.size ≠ P:=Nat.ne_of_gt (Nat.lt_of_lt_of_le (Heap.lt_size objP) hsz)
      rw [upd_ne n1,upd_ne n2]
      exact I.hok.fresh hsz
/-- the function's object, its defaults -/
structure FnAt (h:Heap) (f c':Addr) (qual:Str) (params:Arguments) (body:Expr) (scope:Scope) (clos:List (Str × Addr)) (dv:List Value) (T:Option Addr):Prop where
  ex:∃ dV doc pm ctv,h.get? f = some (PySem.W.kdv_obj "<lambda>" qual params (.expr body) scope clos dV doc pm c' ctv) ∧ ((T = none ∧ dV = .none ∧ dv = []) ∨ ∃ a,T = some a ∧ dV = .ref a ∧ dv ≠ [] ∧ h.get? a = some (PySem.W.kdv_tup dv))
/-- a lambda's default values: none, or the number 0 -/
def Dflt0 (params:Arguments) (env:Env) (n:Nat):Prop:=(n = 0 ∧ defaultsOf params env = ([],[])) ∨ (n = 1 ∧ params.defaults.isEmpty = false ∧ params.kw_defaults = [] ∧ ∃ j p,params.defaults = [.Constant (.int 0) j p])
theorem lam_make3 {c P:Addr} {params:Arguments} {body:Expr} {scope:Scope} {pos:Pos} {n:Nat} {E Q:Value → Shared → Prop} (I:L2.Inv X pins σ H s) (TB:LamX.TabB X.base X.mg c P) (hcode:X.env.code = .ref c)
    (hm:(P,X.env.qual ++ "<lambda>") ∈ Tbs.T) (hu:∀ p ∈ Tbs.T,p.1 = P → p.2 = X.env.qual ++ "<lambda>") (hT:LamX.Tabs Tbs.T H) (hdef:Dflt0 params X.env n) (hfree:∀ y ∈ scope.names,y.2 = .free → ∃ c,X.env.cells.lookup y.1 = some c)
    (h:∀ (f c':Addr) (dv:List Value) (T:Option Addr) (H1:Hp) (s':Shared) (ps:Array Value),L2.Inv X pins σ H1 s' → (∀ b,b ≠ P → H b ≠ none → H1 b = H b) → H1 P = some (.tbl ps) → TriplesOk ps.toList → codeAmong pos ps.toList = some (.ref c') → LamX.Tabs Tbs.T H1 → dv.length = n →
      FnAt s'.heap f c' (X.env.qual ++ "<lambda>") params body scope (cloFrom X.env.cells scope.names []) dv T → H1 f = none → f ∉ frs X.stack → (∀ a,T = some a → H1 a = none ∧ a ∉ frs X.stack) → Q (.ref f) s') :
    wpAny (model X.prog X.w) X.A (eval (.Lambda params body scope pos) X.env) Q E s:=by
  rcases hdef with ⟨rfl,hd⟩ | ⟨rfl,hd,hk,j,p,hp⟩
  · refine PySem.W.kla_eval hd ?_
    rw [PySem.makeFunction_eq]
    simp only [List.zip_nil_right,List.filterMap_nil,List.isEmpty_nil,if_true,pure_bind]
    exact lam_tail I TB hcode hm hu hT hfree fun f c' doc pm ctv H1 s' ps J same eP tr am T1 _ _ hf hn hfr=>h f c' [] none H1 s' ps J same eP tr am T1 rfl ⟨⟨_,_,_,_,hf,.inl ⟨rfl,rfl,rfl⟩⟩⟩ hn hfr (fun a z=>by cases z)
  · refine PySem.W.kdv_lam hd hk ?_
    rw [hp]
    refine PySem.W.kdv_all1 (thn ((pe_int (X:=X) (i:=0) (j:=j) (pos:=p)).run pins s σ H (fun v H1=>v = .int 0 ∧ H1 = H) I ⟨rfl,rfl⟩) fun u s1 z=>PySem.W.kdv_all0 ?_)
    obtain ⟨v,H1,I1,r1,rfl,rfl⟩:=z
    rw [PySem.makeFunction_eq]
    simp only [List.zip_nil_right,List.filterMap_nil,List.isEmpty_nil,List.isEmpty_cons,if_true,pure_bind,Bool.false_eq_true,if_false]
    refine wpAny_bind (wpAny_newTextTuple ?_)
    have I2:L2.Inv X pins σ H1 { s1 with heap:=s1.heap.push (PySem.W.kdv_tup [u]) }:=I1.kept (t':=s1.toks) fun b o e=>Heap.get?_push_of_some _ e
    have hn0:H1 s1.heap.objs.size = none:=I1.hok.fresh (Nat.le_refl _)
    have hf0:s1.heap.objs.size ∉ frs X.stack:=fun z=>by
      rcases List.mem_cons.mp (I1.stkSub _ z) with e | e
      · have h1:=I1.lt
        rw [← e] at h1
        exact Nat.lt_irrefl _ h1
      · exact I1.nofs (Nat.le_refl _) e
    have atT:(s1.heap.push (PySem.W.kdv_tup [u])).get? s1.heap.objs.size = some (PySem.W.kdv_tup [u]):=Heap.get?_push_size _ rfl
    have nP:s1.heap.objs.size ≠ P:=fun z=>by
      obtain ⟨ps,eP,_⟩:=hT _ hm
      rw [z] at hn0
      rw [show H1 P = some (.tbl ps) from eP] at hn0; cases hn0
    refine lam_tail I2 TB hcode hm hu hT hfree fun f c' doc pm ctv H2 s' ps J same eP tr am T1 up dn hf hn hfr=>?_
    exact h f c' [u] (some s1.heap.objs.size) H2 s' ps J same eP tr am T1 rfl ⟨⟨_,_,_,_,hf,.inr ⟨_,rfl,rfl,by simp,up _ _ nP atT⟩⟩⟩ hn hfr (fun a z=>by cases z; exact ⟨dn _ (by show (s1.heap.push (PySem.W.kdv_tup [u])).get? _ ≠ none; rw [atT]; simp) hn0,hf0⟩)
end
end DL
end
section
namespace DL
open PySem PySem.Spec PyProof.Rows L2
open LamX (lamCx lamEnv)
variable [Tbs]
/-- captured names, and own ones that the maker does not have -/
structure LamN (N:List Str) (sc scope:Scope) (ow:List Str):Prop where
  kind:scope.kind = .function
  co:scope.isCoroutine = false
  gen:scope.isGenerator = false
  own:∀ y ∈ scope.names,y.2 ≠ .cell ∧ (y.2 = .local → y.1 ∉ N)
  free:∀ y ∈ scope.names,y.2 = .free → sc.names.lookup y.1 = some .cell ∨ sc.names.lookup y.1 = some .free
  ow:∀ x ∈ ow,scope.names.lookup x = some .local
def lamNB (N:List Str) (sc scope:Scope) (ow:List Str):Bool:=
  decide (scope.kind = .function) && !scope.isCoroutine && !scope.isGenerator && (scope.names.all fun y=>!decide (y.2 = .cell) && (!decide (y.2 = .local) || !decide (y.1 ∈ N)) && (!decide (y.2 = .free) || decide (sc.names.lookup y.1 = some .cell) || decide (sc.names.lookup y.1 = some .free))) &&
    ow.all fun x=>decide (scope.names.lookup x = some .local)
theorem lamN_by {N:List Str} {sc scope:Scope} {ow:List Str} (h:lamNB N sc scope ow = true):LamN N sc scope ow:=by
  unfold lamNB at h
  simp only [Bool.and_eq_true,Bool.or_eq_true,Bool.not_eq_true',decide_eq_true_eq,decide_eq_false_iff_not,List.all_eq_true] at h
  obtain ⟨⟨⟨⟨h1,h2⟩,h3⟩,h4⟩,h5⟩:=h
  refine ⟨h1,h2,h3,fun y hy=>⟨(h4 y hy).1.1,fun e=>?_⟩,fun y hy e=>?_,h5⟩
  · rcases (h4 y hy).1.2 with z | z
    · exact absurd e z
    · exact z
  · rcases (h4 y hy).2 with (z | z) | z
    · exact absurd e z
    · exact .inl z
    · exact .inr z
theorem LamN.has {X:Cx} {N:List Str} {scope:Scope} {ow:List Str} (L:LamN N X.env.scope scope ow) (ok:X.Ok):∀ y ∈ scope.names,y.2 = .free → ∃ c,X.env.cells.lookup y.1 = some c:=fun y hy e=>by
  rcases L.free y hy e with k | k
  · exact ok.has _ (.inl k)
  · exact ok.has _ (.inr k)
section
variable {X:Cx} {pins:List (Addr × Obj)} {σ:Sg} {H HZ:Hp} {s s1:Shared}
theorem lam_start3 {A:Around} {outer:List Env} {E:XK} {scope:Scope} {ow:List Str} {binds:List (Str × Value)} {f c':Addr} {h₁:Heap} {tk:Nat} (I:L2.Inv X pins σ H s) (L:LamN X.N X.env.scope scope ow) (e0:Env0 X.prog X.w X.K X.mg X.base A outer s1 HZ) (hd:A.handled = none)
    (un:Un (frs X.stack) [] H HZ s.heap s1.heap) (hns:h₁.Ns s1.heap.objs.size fun y=>binds.reverse.lookup y) (kp:∀ b o,s1.heap.get? b = some o → h₁.get? b = some o) :
    L2.Inv (lamCx X A outer s1 HZ E scope f c') [] σ HZ { s1 with heap:=h₁,toks:=tk }:=by
  have hfree:=L.has I.ok
  have cm:∀ {y c},(cloFrom X.env.cells scope.names []).lookup y = some c → X.env.cells.lookup y = some c:=fun {y c} e=>by
    rcases cloFrom_mem (PySem.mem_of_lookup e) with hm | ⟨h1,h2⟩
    · cases hm
    · obtain ⟨c1,hc⟩:=hfree _ h1 rfl
      have hc:X.env.cells.lookup y = some c1:=hc
      have e2:c = c1:=by
        rw [h2,hc] <;> rfl
      rw [e2]
      exact hc
  have look:∀ {y},scope.names.lookup y = some .free → ∃ c,(cloFrom X.env.cells scope.names []).lookup y = some c:=fun {y} hl=>by
    have hy:(y,NameKind.free) ∈ scope.names:=PySem.mem_of_lookup hl
    exact mem_lookup (cloFrom_has (cells:=X.env.cells) (acc:=[]) hy)
  have cellK:∀ {c:Addr} {v:Option Value},H c = none → s.heap.IsCell c v → h₁.IsCell c v:=fun {c v} n ⟨o,ho,hd⟩=>by
    obtain ⟨sl,q⟩:=un.any ho n (by simp)
    exact ⟨_,kp _ _ q,hd⟩
  have noA:∀ b:Addr,b ∉ (lamCx X A outer s1 HZ E scope f c').ex:=fun b z=>absurd (show b ∈ ([]:List Addr) from z) (by simp)
  refine ⟨⟨e0.mod,L.kind,rfl,rfl,Nat.le_refl _,fun y z c e1 e2=>I.ok.inj y z c (cm e1) (cm e2),fun y hy=>?_,fun y c z _=>?_,fun _=>hd,Around.frames_deeper e0.frames,.inr ⟨rfl,rfl⟩,fun b z=>absurd z (noA b),e0.bs,e0.bsz,fun b _ _=>noA b,
      fun b z=>absurd z (noA b),e0.funs,e0.frf⟩,
    rfl,e0.bare,Un.kept kp,⟨_,hns,fun i y v e1 e2 e3=>?_⟩,fun y c e=>?_,e0.hok.fresh (Nat.le_refl _),fun y c e=>?_,fun q hq=>absurd (show q ∈ ([]:List (Addr × Obj)) ++ [] from hq) (by simp),e0.hok.kept kp,I.len⟩
  · have hy:scope.names.lookup y = some .cell ∨ scope.names.lookup y = some .free:=hy
    rcases hy with hy | hy
    · exact absurd rfl (L.own _ (PySem.mem_of_lookup hy)).1
    · exact look hy
  · have z:false = true:=z
    cases z
  · have e3:Vis scope y:=e3
    rcases e3 with k | k | k
    · exact absurd (List.mem_of_getElem? (show X.N[i]? = some y from e1)) ((L.own _ (PySem.mem_of_lookup k)).2 rfl)
    · exact absurd rfl (L.own _ (PySem.mem_of_lookup k)).1
    · obtain ⟨m,hn,hl⟩:=I.loc
      have hvis:Vis X.env.scope y:=(L.free _ (PySem.mem_of_lookup k) rfl).elim (fun k=>.inr (.inl k)) (fun k=>.inr (.inr k))
      obtain ⟨w',r,q⟩:=hl i y v e1 e2 hvis
      obtain ⟨c2,h2⟩:=look k
      refine ⟨w',r,.inr ⟨.inr k,c2,h2,?_⟩⟩
      have c1:=cm h2
      rcases q with ⟨k',_⟩ | ⟨_,c3,e',z⟩
      · have k':X.env.scope.names.lookup y = some .local:=k'
        rcases L.free _ (PySem.mem_of_lookup k) rfl with k2 | k2 <;> rw [show X.env.scope.names.lookup y = _ from k2] at k' <;> cases k'
      · rw [c1] at e'
        cases e'
        exact cellK (I.freeC y _ c1) z
  · obtain ⟨w',z⟩:=I.cell y c (cm e)
    exact ⟨w',cellK (I.freeC y c (cm e)) z⟩
  · obtain ⟨v,o,ho,hd⟩:=I.cell y c (cm e)
    exact un.free c o ho (I.freeC y c (cm e)) (by simp)
end
/-- the slots that a lambda may look at -/
def capS:Sl → Sl
  | .d x=>.d x
  | .s=>.s
  | .a k=>.a k
  | _=>.un
def capG (G:Gm):Gm:=G.map capS
theorem Rel.cap {K:PySem.W.Frag} {xi:XI} {As As':List Addr} {F F' H H':Hp} {G:Gm} {t t':Option DS} {σ:Sg} (R:Rel K xi As F G t σ H) (k:Same F F') (ha:∃ l,As' = As ++ l) (kH:Same F' H') (s:StF As' t' F' H'):Rel K XI.no As' F' (capG G) t' σ H':=by
  obtain ⟨l,rfl⟩:=ha
  refine ⟨kH,s,by rw [capG,List.length_map]; exact R.len,fun i x e=>?_,fun i j xs ys v _ e=>?_⟩
  · rw [capG,List.getElem?_map] at e
    cases h:G[i]? with
    | none=>rw [h] at e; cases e
    | some y =>
      rw [h] at e
      have q:=R.slot i y h
      have e:capS y = x:=Option.some.inj e
      subst e
      cases y with
      | un=>trivial
      | d z=>obtain ⟨v,e1,e2⟩:=q; exact ⟨v,e1,Dp.mono k _ _ e2⟩
      | l _=>trivial
      | s=>obtain ⟨d,e1,e2⟩:=q; exact ⟨d,e1,drop_more e2⟩
      | e _ _=>trivial
      | a k=>obtain ⟨d,e1,e2⟩:=q; exact ⟨d,e1,drop_more e2⟩
      | c _=>trivial
  · rw [capG,List.getElem?_map] at e
    cases h:G[i]? with
    | none=>rw [h] at e; cases e
    | some y=>rw [h] at e; cases y <;> cases e
/-- x(), x a slot that holds a function -/
def mAct (i:Nat):EM:=fun G t=>match G[i]? with
  | some (.c th)=>th t
  | _=>.stuck
/-- what is known of the function f that stands for th -/
def xiC (f:Addr) (th:Th) (As0:List Addr) (F0:Hp):XI:=
  ⟨none,fun v th' As F=>v = .ref f ∧ th' = th ∧ Same F0 F ∧ ∃ l,As = As0 ++ l,fun {v th' As F As' F'} k hl h=>by
    obtain ⟨a,b,c,l,d⟩:=h
    obtain ⟨l',e⟩:=hl
    exact ⟨a,b,c.trans k,l ++ l',by rw [e,d,List.append_assoc]⟩⟩
section
variable {X:Cx} {P:Pm} {pins:List (Addr × Obj)} {σ:Sg} {H:Hp} {s:Shared}
theorem act_se {CXg:CXT} {Eg:XK} {Ng:List Str} {qg:Str} {sg:Scope} {g f c' Pt:Addr} {cdg:Value} {params:Arguments} {body:Expr} {scope:Scope} {ow:List Str} {dv:List Value} {T:Option Addr} {k i:Nat} {a:Str} {pn:List (Addr × Obj)} {xe:Value → Shared → Prop} {W:WX} {me:EM} {p1 p2 lpos:Pos}
    {As0:List Addr} {F0:Hp} {G:Gm} {t0:Option DS} {ps:Array Value} (hgu:X.A.guards = some [])
    (I:L2.Inv X pins σ H s) (L:LamN X.N X.env.scope scope ow) (hf:FnAt s.heap f c' (X.env.qual ++ "<lambda>") params body scope (cloFrom X.env.cells scope.names []) dv T) (hfn:H f = none) (hfr:f ∉ frs X.stack) (hT:∀ a,T = some a → H a = none ∧ a ∉ frs X.stack)
    (hP:H Pt = some (.tbl ps)) (htr:TriplesOk ps.toList) (ham:codeAmong lpos ps.toList = some (.ref c')) (hPT:(Pt,X.env.qual ++ "<lambda>") ∈ Tbs.T) (hdv:dv.length = ow.length)
    (hbind:∀ (s:Shared) (q:Str) (cl:List (Str × Addr)) (dV doc pm cv ctv:Value) (dv:List Value),dv.length = ow.length → ((dV = .none ∧ dv = []) ∨ ∃ a,dV = .ref a ∧ dv ≠ [] ∧ s.heap.get? a = some (PySem.W.kdv_tup dv)) → BindsTo s (PySem.W.kdv_fn "<lambda>" q params (.expr body) scope cl dV doc pm cv ctv) ⟨[],[]⟩ (ow.zip dv))
    (R0:Rel P.K P.xi As0 F0 G t0 σ H) (hK:P.K = X.K)
    (tk:Takes ((cxOf CXg X.prog X.w X.K X.mg X.base Ng qg sg g cdg X.A X.stack s H Eg).tr pn xe) W) (hr:Room (k + 1) (X.A.deeper (envOfC qg sg s.heap.objs.size g cdg)))
    (hbody:∀ (A:Around) (outer:List Env) (s:Shared) (H:Hp) (E:XK),Ct (lamCx X A outer s H E scope f c') (xP X.K X.mg E) k → SE (lamCx X A outer s H E scope f c') (xP X.K X.mg E) body me)
    (hN:Ng[i]? = some a) (hv:Vis sg a) (hnd:X.N.Nodup) (hd:(a == ("__debug__" : Str)) = false) (hcd:(a == ("__classdict__" : Str)) = false) :
    SE ((cxOf CXg X.prog X.w X.K X.mg X.base Ng qg sg g cdg X.A X.stack s H Eg).tr pn xe) ⟨X.K,X.mg,xiC f (fun t=>me (capG G) t) As0 F0,W⟩ (.Call (.Name a p1) [] [] p2) (mAct i):=by
  constructor
  rintro pinsZ sZ σZ HZ Q IZ ⟨As,F,GZ,tZ,RZ,q⟩
  unfold mAct at q
  split at q
  · rename_i th eG
    obtain ⟨v,ev,e1,e2,kF,hAs⟩:=RZ.slot i _ eG
    subst e1 e2
    refine wpAny_Call_Name_kw (thn ((pe_var (pos:=p1) (i:=i) hN hv hd hcd).run pinsZ sZ σZ HZ (fun v H1=>v = .ref f ∧ H1 = HZ) IZ ⟨.ref f,ev,rfl,rfl⟩) fun u s1 ⟨v,H1,I1,r1,q1⟩=>?_)
    obtain ⟨ev',eH⟩:=q1
    subst ev'
    rw [eH] at I1
    obtain rfl:u = Value.ref f:=r1
    obtain ⟨dV,doc,pm,ctv,of0,dflt⟩:=hf.ex
    have of1:s1.heap.get? f = some (PySem.W.kdv_obj "<lambda>" (X.env.qual ++ "<lambda>") params (.expr body) scope (cloFrom X.env.cells scope.names []) dV doc pm c' ctv):=I1.base.keep f _ of0 hfn hfr (fun z=>nomatch (show f ∈ ([]:List Addr) from z))
    have dflt1:(dV = .none ∧ dv = []) ∨ ∃ a,dV = .ref a ∧ dv ≠ [] ∧ s1.heap.get? a = some (PySem.W.kdv_tup dv):=by
      rcases dflt with ⟨_,z1,z2⟩ | ⟨a,z1,z2,z4,z3⟩
      · exact .inl ⟨z1,z2⟩
      · obtain ⟨w1,w2⟩:=hT a z1
        exact .inr ⟨a,z2,z4,I1.base.keep a _ z3 w1 w2 (fun z=>nomatch (show a ∈ ([]:List Addr) from z))⟩
    refine PySem.W.callWith_F0 ⟨_,_,_,_,of1⟩ ?_
    have un:Un (frs X.stack) [] H HZ s.heap s1.heap:=I1.base
    obtain ⟨more,eP⟩:=un.tbls Pt ps hP
    obtain ⟨ps',eP',tr',known⟩:=RZ.st.ok.1 _ hPT
    have hc:HZ c' = some (LamX.CodeO c' (X.env.qual ++ "<lambda>")):=by
      have eP':HZ Pt = some (.tbl ps'):=eP'
      rw [eP] at eP'
      cases eP'
      obtain ⟨c2,z1,z2⟩:=known lpos (.ref c') (by rw [Array.toList_append]; exact among_pre _ _ htr ham)
      cases z1
      exact z2
    obtain ⟨⟨oc,vs,t,hoc,hdc,hvc⟩,_,_⟩:=I1.hok c' _ hc
    have rc:codeAny (model X.prog X.w) (X.A.deeper (envOfC qg sg s.heap.objs.size g cdg)) (.call (.ref f) ⟨[],[]⟩) (CR (L2.CX X.prog X.w) (envOfC qg sg s.heap.objs.size g cdg :: X.stack) X.prog X.w HZ s1 Q (WE W σZ)) s1:=by
      refine PySem.W.kla_callFunE hr.depth of1 rfl L.co L.gen rfl ⟨c',oc,vs,t,rfl,hoc,hdc,hvc⟩ (hbind s1 _ _ _ _ _ _ _ dv hdv dflt1 _ _ _ _ ?_)
      refine wpAny_newFunctionEnv (fun y hy=>(L.own y hy).1) (fun y hy=>L.ow _ (List.of_mem_zip (show (y.1,y.2) ∈ ow.zip dv from hy)).1) (fun h₁ hns hsb=>⟨I1.nolimit.fresh _ hsb,?_⟩) L.kind
      show codeAny _ _ (.expr body (lamEnv X scope s1.heap.objs.size f c')) _ _
      have kp:∀ b o,s1.heap.get? b = some o → h₁.get? b = some o:=fun b o e=>hsb.extBut b o (Nat.ne_of_lt (Heap.lt_size e)) (Heap.get?_push_of_some _ e)
      have J:L2.Inv (lamCx X (X.A.deeper (envOfC qg sg s.heap.objs.size g cdg)) (envOfC qg sg s.heap.objs.size g cdg :: X.stack) s1 HZ (WE W σZ) scope f c') [] σ HZ { s1 with heap:=h₁,toks:=s1.toks + (ow.zip dv).length }:=
        lam_start3 I L I1.env0 hr.hd un hns kp
      have ctl:Ct (lamCx X (X.A.deeper (envOfC qg sg s.heap.objs.size g cdg)) (envOfC qg sg s.heap.objs.size g cdg :: X.stack) s1 HZ (WE W σZ) scope f c') (xP X.K X.mg (WE W σZ)) k:=
        ⟨rfl,rfl,hr.deeper _,hgu,L2.takes_of rfl rfl rfl rfl,rfl,passes_of rfl,hnd⟩
      refine PySem.W.kla_codeExpr (wpAny_mono ((hbody _ _ s1 HZ _ ctl).run [] _ σ HZ Q J ⟨As,F,capG G,tZ,?_,?_⟩) (fun v s' hq=>?_) fun e s' hq=>hq)
      · have R1:=Rel.cap R0 kF hAs RZ.sub RZ.st
        rw [hK] at R1
        exact R1
      · have q2:PostE ⟨X.K,X.mg,xiC f (fun t=>me (capG G) t) As0 F0,W⟩ As F HZ σZ Q (me (capG G) tZ):=q
        revert q2
        clear q
        cases me (capG G) tZ with
        | ok r t'=>exact fun q=>q
        | ex cc fs t'=>exact fun q As' F' H' C d e g' s' x=>q As' F' H' C d e g' s' x
        | stuck=>exact fun q=>q
      · obtain ⟨w',H',J',rv,q'⟩:=hq
        exact ⟨w',H',J'.os,J'.bare,J'.base,J'.hok,rv,q'⟩
    refine wpAny_call (codeAny_mono rc fun r s' hq=>?_)
    cases r with
    | error e=>exact passAt tk σZ pinsZ HZ s1 e s' I1 hq
    | ok fl =>
      cases fl with
      | ret u=>exact I1.after hq
      | next=>exact False.elim hq
      | brk=>exact False.elim hq
      | cont=>exact False.elim hq
  · exact q.elim
end
end DL
end
section
namespace DL
open PySem PySem.Spec PyProof.Rows L2
open LamX (lamCx lamEnv)
variable [Tbs]
def heardF (m:SM) (n:Nat):Th → Option DS → Rs Rv:=fun th t=>match m (.c th :: List.replicate (n - 1) .un) t with
  | .nx _ t=>.ok (.d .none) t
  | .rt x t=>.ok (.d x) t
  | .rl x t=>.ok (.l x) t
  | .ex c fs _ t=>.ex c fs t
  | _=>.stuck
/-- x(lambda: ..) -/
def mHeard (h:Th → Option DS → Rs Rv) (me:EM):EM:=fun G t=>h (fun t'=>me (capG G) t') t
/-- the def x, whose only argument a it calls -/
structure HeardM (P:Program) (w:World) (K:PySem.W.Frag) (mg:Str → Option Value) (base:Heap) (k:Nat) (x a:Str) (m:SM) (n:Nat):Prop where
  ex:∃ (params:Arguments) (body:List Stmt) (scope:Scope) (fd:FuncData) (N:List Str),FunD K x x params body scope [] [] (He.ga K x) fd ∧ mg x = some (.ref (He.ga K x)) ∧ FnScope N [a] scope ∧ N[0]? = some a ∧ N.length = n ∧ Vis scope a ∧
    (∀ (kV doc pm:Value) (an:Option Addr) (cdv ct:Value) (us:List Value),us.length = [a].length → bindArgs (PySem.W.fnOf x x params body scope .none kV doc pm an cdv ct) ⟨us,[]⟩ = pure ([a].zip us)) ∧
    ∀ {cdv:Value} {A:Around} {outer:List Env} {s:Shared} {H:Hp} {E:XK} {xi:XI},xi.ex = none → Ct (cxG P w K mg base N x scope (He.ga K x) cdv A outer s H E) ⟨K,mg,xi,fun c d _ H=>E c d H⟩ k → CodeAt K (He.ga K x) cdv →
      (∀ (W:WX) (pn:List (Addr × Obj)) (xe:Value → Shared → Prop) (p1 p2:Pos),Takes ((cxG P w K mg base N x scope (He.ga K x) cdv A outer s H E).tr pn xe) W → SE ((cxG P w K mg base N x scope (He.ga K x) cdv A outer s H E).tr pn xe) ⟨K,mg,xi,W⟩ (.Call (.Name a p1) [] [] p2) (mAct 0)) →
      SSs (cxG P w K mg base N x scope (He.ga K x) cdv A outer s H E) ⟨K,mg,xi,fun c d _ H=>E c d H⟩ body m
theorem rel_startC {K:PySem.W.Frag} {mg:Str → Option Value} {As:List Addr} {F H:Hp} {N:List Str} {t:Option DS} {f:Addr} {th:Th} {W:WX} (hl:1 ≤ N.length) (k:Same F H) (s:StF As t F H) :
    RelS ⟨K,mg,xiC f th As F,W⟩ ⟨As,F,H,[]⟩ As F (.c th :: List.replicate (N.length - 1) .un) t (L2.start N [.ref f]) H:=by
  refine ⟨⟨k,s,?_,fun i x hx=>?_,fun i j xs ys v _ hx=>?_⟩,.refl k,fun i xs p hx=>?_,fun q hq=>nomatch hq⟩
  · unfold L2.start
    simp
  · cases i with
    | zero =>
      cases hx
      exact ⟨.ref f,by simp [L2.start],rfl,rfl,Same.refl _,[],(List.append_nil _).symm⟩
    | succ i =>
      rw [List.getElem?_cons_succ,List.getElem?_replicate] at hx
      split at hx
      · cases hx; trivial
      · cases hx
  · cases i with
    | zero=>cases hx
    | succ i =>
      rw [List.getElem?_cons_succ,List.getElem?_replicate] at hx
      split at hx <;> cases hx
  · cases i with
    | zero=>cases hx
    | succ i =>
      rw [List.getElem?_cons_succ,List.getElem?_replicate] at hx
      split at hx <;> cases hx
section
variable {X:Cx} {P:Pm}
theorem x_heard {k kb kl n:Nat} {x a:Str} {m:SM} {me:EM} {c P0:Addr} {params:Arguments} {body:Expr} {scope:Scope} {ow:List Str} {p lpos pos:Pos} (ct:Ct X P k) (hm:HeardM X.prog X.w X.K X.mg X.base kb x a m n) (hk:kb + 1 ≤ k) (hkl:kl + 1 ≤ kb)
    (TB:LamX.TabB X.base X.mg c P0) (hcode:X.env.code = .ref c) (hmT:(P0,X.env.qual ++ "<lambda>") ∈ Tbs.T) (hu:∀ p ∈ Tbs.T,p.1 = P0 → p.2 = X.env.qual ++ "<lambda>") (L:LamN X.N X.env.scope scope ow) (hdef:Dflt0 params X.env ow.length)
    (hbind:∀ (s:Shared) (q:Str) (cl:List (Str × Addr)) (dV doc pm cv ctv:Value) (dv:List Value),dv.length = ow.length → ((dV = .none ∧ dv = []) ∨ ∃ a,dV = .ref a ∧ dv ≠ [] ∧ s.heap.get? a = some (PySem.W.kdv_tup dv)) → BindsTo s (PySem.W.kdv_fn "<lambda>" q params (.expr body) scope cl dV doc pm cv ctv) ⟨[],[]⟩ (ow.zip dv))
    (hbody:∀ (A:Around) (outer:List Env) (s:Shared) (H:Hp) (E:XK) (f c':Addr),Ct (lamCx X A outer s H E scope f c') (xP X.K X.mg E) kl → SE (lamCx X A outer s H E scope f c') (xP X.K X.mg E) body me)
    (hgl:Gl X x:=by rfl) (hdb:(x == ("__debug__" : Str)) = false:=by decide) (hd:(a == ("__debug__" : Str)) = false:=by decide) (hcd:(a == ("__classdict__" : Str)) = false:=by decide) :
    SE X P (.Call (.Name x p) [.Lambda params body scope lpos] [] pos) (mHeard (heardF m n) me):=by
  obtain ⟨pg,bg,sg,fd,N,FD,m1,S,hN0,hNl,hva,bd,hb⟩:=hm.ex
  constructor
  rintro pins s σ H Q I ⟨As,F,G,t,R,q⟩
  refine wpAny_Call_Name_kw (ld_glob I hgl m1 ?_ hdb)
  refine PySem.W.callWith_K (h₀:=X.base) I.ok.mod.kin FD.kp ?_ (by rfl) (by rfl)
  show wpAny _ _ (spliced ((false,eval (.Lambda params body scope lpos) X.env) :: backTo pos (starEach [] X.env))) _ _ s
  refine Calls.spliced_cons (lam_make3 I TB hcode hmT hu R.st.ok.1 hdef (L.has I.ok) fun f c' dv T H1 s' ps I1 same eP tr am T1 hdv hf hn hfr hT=>?_)
  refine Calls.spliced_nil ⟨I1.kIn,?_⟩
  obtain ⟨g,st⟩:=lam_grow R.st R.sub hmT same (by rw [eP]; simp) T1
  have R1:=R.mono g st
  have q1:PostE P As F H1 σ Q (heardF m n (fun t'=>me (capG G) t') t):=PostE.re g q
  obtain ⟨oc,od,dV,kV,doc,pm,an,cdv,ctv,osl,rfl,lk,hcd',df,kd⟩:=id FD.ex
  have rc:codeAny (model X.prog X.w) X.A (.call (.ref (He.ga X.K x)) ⟨[.ref f],[]⟩) (CR (L2.CX X.prog X.w) X.stack X.prog X.w H1 s' Q (WE P.W σ)) s':=by
    have bb:=FD.bindsN (ps:=[a]) bd s' [.ref f] I1.kIn rfl
    refine LamX.run_ofS (k:=kb) (N:=N) (ps:=[a]) (us:=[.ref f]) (vs:=[.ref f]) lk hcd' S (ct.r.mono hk) I1.env0 bb (.cons rfl .nil) rfl fun hr'=>?_
    have cc:Ct (cxG X.prog X.w X.K X.mg X.base N x sg (He.ga X.K x) cdv X.A X.stack s' H1 (WE P.W σ)) ⟨X.K,X.mg,xiC f (fun t'=>me (capG G) t') As F,fun c d _ H=>WE P.W σ c d H⟩ kb:=
      ⟨rfl,rfl,hr',ct.g,L2.takes_of rfl rfl rfl rfl,rfl,passes_of rfl,S.nd⟩
    refine ⟨_,hb (xi:=xiC f (fun t'=>me (capG G) t') As F) rfl cc ⟨_,_,_,_,lk,rfl,_,hcd'⟩ (fun W pn xe p1 p2 tk=>?_),?_⟩
    · exact act_se (i:=0) ct.g I1 L hf hn hfr hT eP tr am hmT hdv hbind R1 ct.hK tk (hr'.mono hkl) (fun A outer s H E cl=>hbody A outer s H E f c' cl) hN0 hva ct.nd hd hcd
    · refine ⟨⟨As,F,H1,[]⟩,As,F,_,t,rel_startC (Nat.succ_le_of_lt (List.getElem?_eq_some_iff.mp hN0).1) R1.sub R1.st,?_⟩
      unfold heardF at q1
      rw [hNl]
      cases e:m (.c (fun t'=>me (capG G) t') :: List.replicate (n - 1) .un) t with
      | nx G' t' =>
        rw [e] at q1
        exact fun As' F' σ' H' R _=>q1 As' F' H' .non R.gr R.rel.st .non trivial
      | rt y t' =>
        rw [e] at q1
        exact fun As' F' H' v g st _ d=>q1 As' F' H' v g st (by rw [ct.hK]; exact d) trivial
      | rl y t' =>
        rw [e] at q1
        exact fun As' F' H' v g st _ d n=>q1 As' F' H' v g st (by rw [ct.hK]; exact d) n
      | ra y t'=>rw [e] at q1; exact q1.elim
      | bk G' t'=>rw [e] at q1; exact q1.elim
      | ct G' t'=>rw [e] at q1; exact q1.elim
      | ex c fs G' t' =>
        rw [e] at q1
        exact fun As' F' σ' H' C d mc R _ xa=>q1 As' F' H' C d (by rw [ct.hm]; exact mc) R.gr R.rel.st (by rw [ct.hK]; exact xa)
      | stuck=>rw [e] at q1; exact q1.elim
  refine wpAny_call (codeAny_mono rc fun r s2 hq=>?_)
  cases r with
  | error e=>exact passAt ct.tk σ pins H1 s' e s2 I1 hq
  | ok fl =>
    cases fl with
    | ret u=>exact I1.after hq
    | next=>exact False.elim hq
    | brk=>exact False.elim hq
    | cont=>exact False.elim hq
end
end DL
end
section
namespace DL
open PySem PySem.Spec PyProof.Rows L2
open LamX (lamCx lamEnv)
end DL
end
section
namespace DL
open PySem PySem.Spec PyProof.Rows L2
open LamX (lamCx lamEnv)
variable [Tbs]
section
variable {X:Cx} {P:Pm} {k:Nat} {a b d:Expr} {ma mb md:EM} {pos:Pos} (c:Ct X P k)
include c
theorem x_lelt (ha:SE X P a ma) (hb:SE X P b mb) (hd:SE X P d md) (hm:lastMarks [.LtE,.Lt] [b,d] = false:=by with_unfolding_all rfl):SE X P (.Compare a [.LtE,.Lt] [b,d] pos) (mChain (fCm iLe) (fCm iLt) ma mb md):=
  se_chain op_le op_lt (opd_cmpI _) (opd_cmpI _) ha hb hd (pe_chain op_le op_lt ha.fz hb.fz hd.fz hm)
theorem b_lelt (ha:SE X P a ma) (hb:SE X P b mb) (hd:SE X P d md) (hm:lastMarks [.LtE,.Lt] [b,d] = false:=by with_unfolding_all rfl):SB X P (.Compare a [.LtE,.Lt] [b,d] pos) (fun G t=>(mChain (fCm iLe) (fCm iLt) ma mb md G t).bind fun x t=>.of x.bl t):=
  sb_chain (opd_cmpI _) (opd_cmpI _) (pt_chain op_le op_lt ha.fz hb.fz hd.fz hm)
end
theorem dInts_eq:∀ {ds:List D} {ns:List Int},dInts ds = some ns → ds = ns.map .int:=fun h=>dInts_some h
def mRep (a b:EM):EM:=fun G t=>(a G t).bind fun x t=>(b G t).fz.bind fun y t=>match x,y with
  | .l xs,.d (.int k)=>if 0 ≤ k ∧ k ≤ 1000 ∧ xs.length * k.toNat ≤ 16777216 then .ok (.l (List.replicate k.toNat xs).flatten) t else .stuck
  | _,_=>.stuck
theorem dpAll_rep {K:PySem.W.Frag} {F:Hp} {vs:List V} {xs:List D} (h:DpAll K F vs xs):∀ n:Nat,DpAll K F (List.replicate n vs).flatten (List.replicate n xs).flatten
  | 0=>.nil
  | n + 1=>by
    rw [List.replicate_succ,List.replicate_succ,List.flatten_cons,List.flatten_cons]
    exact h.append (dpAll_rep h n)
theorem x_rep {X:Cx} {P:Pm} {a b:Expr} {ma mb:EM} {pos:Pos} (ha:SE X P a ma) (hb:SE X P b mb):SE X P (.BinOp a .Mult b pos) (mRep ma mb):=by
  refine L2.PE.imp (pe_op op_rep ha hb.fz) fun σ H Q ⟨As,F,G,t,R,q⟩=>?_
  refine ⟨As,F,G,t,R,bindEE R q fun As1 F1 H1 v1 r1 t1 er g1 R1 x1 p1=>⟨As1,F1,G,t1,R1,bindEE R1 p1 fun As2 F2 H2 v2 r2 t2 er2 g2 R2 x2 p2=>?_⟩⟩
  clear er er2
  replace x1:=x1.mono g2
  split at p2
  · rename_i xs j
    by_cases hz:0 ≤ j ∧ j ≤ 1000 ∧ xs.length * j.toNat ≤ 16777216
    · rw [if_pos hz] at p2
      cases x2
      obtain ⟨p,vs,rfl,_,_,hp,hda⟩:=x1
      have hlen:vs.length = xs.length:=hda.length
      refine ⟨p,j,vs,rfl,rfl,hp,by omega,by omega,by rw [hlen,sizeLine_eq]; exact hz.2.2,fun l nl=>?_⟩
      obtain ⟨⟨g3,s3⟩,_⟩:=alloc (o:=.lst (List.replicate j.toNat vs).flatten) R2.st R2.sub nl
      exact p2 As2 F2 _ (.ref l) g3 s3 ⟨l,_,rfl,fun z=>R2.st.ok.there l z nl,R2.sub.free nl,upd_same,dpAll_rep hda _⟩ ⟨l,rfl,nl⟩
    · rw [if_neg hz] at p2; exact p2.elim
  · exact p2.elim
theorem bd0 {params:Arguments} {body:Expr} {scope:Scope} (h:∀ (q:Str) (cl:List (Str × Addr)) (doc pm cv ctv:Value),bindArgs (PySem.W.kdv_fn "<lambda>" q params (.expr body) scope cl .none doc pm cv ctv) ⟨[],[]⟩ = pure []) :
    ∀ (s:Shared) (q:Str) (cl:List (Str × Addr)) (dV doc pm cv ctv:Value) (dv:List Value),dv.length = ([]:List Str).length → ((dV = .none ∧ dv = []) ∨ ∃ a,dV = .ref a ∧ dv ≠ [] ∧ s.heap.get? a = some (PySem.W.kdv_tup dv)) → BindsTo s (PySem.W.kdv_fn "<lambda>" q params (.expr body) scope cl dV doc pm cv ctv) ⟨[],[]⟩ (([]:List Str).zip dv):=by
  intro s q cl dV doc pm cv ctv dv hl hd
  rcases hd with ⟨rfl,rfl⟩ | ⟨a,rfl,n,ha⟩
  · exact BindsTo.of_eq (h _ _ _ _ _ _)
  · exact absurd (List.length_eq_zero_iff.mp hl) n
theorem bd1 {params:Arguments} {body:Expr} {scope:Scope} {x:Str} (h:∀ (q:Str) (cl:List (Str × Addr)) (dV doc pm cv ctv:Value),∃ k:Option (Array Value) → Sem (List (Str × Value)),bindArgs (PySem.W.kdv_fn "<lambda>" q params (.expr body) scope cl dV doc pm cv ctv) ⟨[],[]⟩ = seqItems? dV >>= k ∧ ∀ v:Value,k (some #[v]) = pure [(x,v)]) :
    ∀ (s:Shared) (q:Str) (cl:List (Str × Addr)) (dV doc pm cv ctv:Value) (dv:List Value),dv.length = [x].length → ((dV = .none ∧ dv = []) ∨ ∃ a,dV = .ref a ∧ dv ≠ [] ∧ s.heap.get? a = some (PySem.W.kdv_tup dv)) → BindsTo s (PySem.W.kdv_fn "<lambda>" q params (.expr body) scope cl dV doc pm cv ctv) ⟨[],[]⟩ ([x].zip dv):=by
  intro s q cl dV doc pm cv ctv dv hl hd
  rcases hd with ⟨rfl,rfl⟩ | ⟨a,rfl,n,ha⟩
  · cases hl
  · match dv,hl with
    | [v],_ =>
      obtain ⟨k,h1,h2⟩:=h q cl (.ref a) doc pm cv ctv
      exact BindsTo.of_defaults (k:=k) rfl ha rfl h1 (h2 v)
def gIs:D → D → Option Bool
  | .none,.none=>some true
  | .bool _,.none=>some false
  | .int _,.none=>some false
  | .str _,.none=>some false
  | .list _,.none=>some false
  | .tuple _,.none=>some false
  | .bool a,.bool b=>some (decide (a = b))
  | _,_=>none
def rIsA:R2:=fun x y H Q=>(y = .non ∧ Q (.bl (decide (x = .non))) H) ∨ L2.rIsB x y H Q
def rIsNA:R2:=fun x y H Q=>(y = .non ∧ Q (.bl (!decide (x = .non))) H) ∨ L2.rNotB x y H Q
def fIs:Rv → Rv → Option Rv:=fRead fun a b=>(gIs a b).map .bool
def fIsNt:Rv → Rv → Option Rv:=fRead fun a b=>((gIs a b).map not).map .bool
theorem opd_isA {K:PySem.W.Frag}:OpD K rIsA fIs:=opd_bool fun a b c w u H Q e h1 h2 q=>by
  unfold gIs at e
  split at e <;> cases e <;> cases h1 <;> cases h2 <;> first | exact .inl ⟨rfl,q⟩ | exact .inr ⟨_,_,rfl,rfl,q⟩
theorem opd_isNA {K:PySem.W.Frag}:OpD K rIsNA fIsNt:=opd_bool (g:=fun a b=>(gIs a b).map not) fun a b c w u H Q e h1 h2 q=>by
  cases e1:gIs a b with
  | none=>rw [e1] at e; cases e
  | some z =>
    rw [e1] at e
    cases e
    unfold gIs at e1
    split at e1 <;> cases e1 <;> cases h1 <;> cases h2 <;> first | exact .inl ⟨rfl,q⟩ | exact .inr ⟨_,_,rfl,rfl,q⟩
section
variable {X:Cx} {P:Pm} {k:Nat} {a b d:Expr} {ma mb md:EM} {pos:Pos} (c:Ct X P k)
include c
theorem op_isA:OpR X (compareOp .Is) rIsA:=OpR.or op_isN op_isBl
theorem op_isNA:OpR X (compareOp .IsNot) rIsNA:=OpR.or op_notN op_notBl
theorem x_is (ha:SE X P a ma) (hb:SE X P b mb) (hm:behindInMarks .Is b = false:=by with_unfolding_all rfl):SE X P (.Compare a [.Is] [b] pos) (mBin fIs ma mb):=se_cmp (op_isA c) opd_isA ha hb hm
theorem b_is (ha:SE X P a ma) (hb:SE X P b mb) (hm:behindInMarks .Is b = false:=by with_unfolding_all rfl):SB X P (.Compare a [.Is] [b] pos) (mCmpB fIs ma mb):=sb_cmp (op_isA c) opd_isA ha hb hm
theorem b_isn (ha:SE X P a ma) (hb:SE X P b mb) (hm:behindInMarks .IsNot b = false:=by with_unfolding_all rfl):SB X P (.Compare a [.IsNot] [b] pos) (mCmpB fIsNt ma mb):=sb_cmp (op_isNA c) opd_isNA ha hb hm
end
def sPar3 (i j l:Nat) (ma mb md:EM):SM:=fun G t=>(ma G t).fz.bindS G fun r1 t=>(mb G t).fz.bindS G fun r2 t=>(md G t).fz.bindS G fun r3 t=>match r1,r2,r3 with
  | .d x,.d y,.d z=>if i < G.length ∧ j < G.length ∧ l < G.length then .nx (((G.set i (.d x)).set j (.d y)).set l (.d z)) t else .stuck
  | _,_,_=>.stuck
end DL
end
section
namespace DL
open PySem PySem.Spec PyProof.Rows L2
section
variable {G G1:Gm} {t t1 t2:Option DS} {x y z:D} {r r1 r2:Rv} {xs ys:List D} {rs:List Rv} {c:Str} {fs:List (Str × D)} {i j k n:Nat} {a b d:EM} {m m':AM} {p q:BM} {u v w:SM} {f:Rv → Rv → Option Rv}
theorem gix_0 {x:Sl} {G:Gm}:(x :: G)[0]? = some x:=(rfl)
theorem gix_s {x:Sl} {G:Gm} {i:Nat}:(x :: G)[i + 1]? = G[i]?:=(rfl)
theorem gst_0 {x y:Sl} {G:Gm}:List.set (x :: G) 0 y = y :: G:=(rfl)
theorem gst_s {x y:Sl} {G:Gm} {i:Nat}:List.set (x :: G) (i + 1) y = x :: List.set G i y:=(rfl)
theorem fz_d:Rv.fz (.d x) = .d x:=(rfl)
theorem fz_l:Rv.fz (.l xs) = .d (.list xs):=(rfl)
theorem fz_b:Rv.fz (.b xs) = .b xs:=(rfl)
theorem fz_s:Rv.fz .s = .s:=(rfl)
theorem fz_a:Rv.fz (.a k) = .a k:=(rfl)
theorem of_some {α:Type} {x:α}:Rs.of (some x) t = .ok x t:=(rfl)
theorem map_some {α β:Type} {x:α} {f:α → β}:Option.map f (some x) = some (f x):=(rfl)
theorem bind_some {α β:Type} {x:α} {f:α → Option β}:Option.bind (some x) f = f x:=(rfl)
theorem or_some {α:Type} {x:α} {o:Option α}:Option.or (some x) o = some x:=(rfl)
theorem or_none {α:Type} {o:Option α}:Option.or none o = o:=by cases o <;> rfl
theorem map_none {α β:Type} {f:α → β}:Option.map f none = none:=(rfl)
theorem bind_none {α β:Type} {f:α → Option β}:Option.bind none f = none:=(rfl)
theorem not_t:(!true) = false:=(rfl)
theorem not_f:(!false) = true:=(rfl)
theorem dec_t:decide True = true:=(rfl)
theorem dec_f:decide False = false:=(rfl)
theorem an_tt:(true && true) = true:=(rfl)
theorem if_t {α:Sort _} {x y:α}:(if true = true then x else y) = x:=(rfl)
theorem if_f {α:Sort _} {x y:α}:(if false = true then x else y) = y:=(rfl)
def Sl.rv:Option Sl → Option DS → Rs Rv
  | some (.d x),t=>.ok (.d x) t
  | some (.l xs),t=>.ok (.b xs) t
  | some .s,t=>.ok .s t
  | some (.a k),t=>.ok (.a k) t
  | _,_=>.stuck
theorem ap_var:mVar i G t = Sl.rv G[i]? t:=by
  unfold mVar Sl.rv
  cases G[i]? with
  | none=>rfl
  | some x=>cases x <;> rfl
theorem rv_d:Sl.rv (some (.d x)) t = .ok (.d x) t:=(rfl)
theorem rv_l:Sl.rv (some (.l xs)) t = .ok (.b xs) t:=(rfl)
theorem rv_s:Sl.rv (some .s) t = .ok .s t:=(rfl)
theorem rv_a:Sl.rv (some (.a k)) t = .ok (.a k) t:=(rfl)
theorem ap_c:mC x G t = .ok (.d x) t:=(rfl)
def Rs.b1 (r:Rs Rv) (f:Rv → Rv → Option Rv) (b:EM) (G:Gm):Rs Rv:=r.fz.bind fun x t=>(b G t).fz.bind fun y t=>.of (f x y) t
def Rs.b2 (r:Rs Rv) (f:Rv → Rv → Option Rv) (x:Rv):Rs Rv:=r.fz.bind fun y t=>.of (f x y) t
theorem ap_bin:mBin f a b G t = Rs.b1 (a G t) f b G:=(rfl)
theorem b1_ok:Rs.b1 (.ok r t) f b G = Rs.b2 (b G t) f r.fz:=(rfl)
theorem b1_ex:Rs.b1 (.ex c fs t) f b G = .ex c fs t:=(rfl)
theorem b2_ok:Rs.b2 (.ok r t) f r1 = Rs.of (f r1 r.fz) t:=(rfl)
theorem b2_ex:Rs.b2 (.ex c fs t) f r1 = .ex c fs t:=(rfl)
def Rs.cb (r:Rs Rv):Rs Bool:=r.bind fun x t=>.of x.bl t
theorem ap_cmpB:mCmpB f a b G t = Rs.cb (mBin f a b G t):=(rfl)
theorem ap_bl:mBl a G t = Rs.cb (a G t):=(rfl)
theorem cb_ok {b:Bool}:Rs.cb (.ok (.d (.bool b)) t) = .ok b t:=(rfl)
theorem cb_ex:Rs.cb (.ex c fs t) = .ex c fs t:=(rfl)
def Rs.tru (r:Rs Rv):Rs Bool:=r.fz.bind fun x t=>.of x.truth t
theorem ap_tru:mTru a G t = Rs.tru (a G t):=(rfl)
theorem tru_bool {b:Bool}:Rs.tru (.ok (.d (.bool b)) t) = .ok b t:=(rfl)
theorem tru_int {i:Int}:Rs.tru (.ok (.d (.int i)) t) = .ok (i != 0) t:=(rfl)
theorem tru_none:Rs.tru (.ok (.d .none) t) = .ok false t:=(rfl)
theorem tru_tup:Rs.tru (.ok (.d (.tuple xs)) t) = .ok (!xs.isEmpty) t:=(rfl)
theorem tru_lst:Rs.tru (.ok (.d (.list xs)) t) = .ok (!xs.isEmpty) t:=(rfl)
theorem tru_b:Rs.tru (.ok (.b xs) t) = .ok (!xs.isEmpty) t:=(rfl)
theorem tru_l:Rs.tru (.ok (.l xs) t) = .ok (!xs.isEmpty) t:=(rfl)
theorem tru_ex:Rs.tru (.ex c fs t) = .ex c fs t:=(rfl)
def Rs.nt (r:Rs Bool):Rs Bool:=r.bind fun b t=>.ok (!b) t
theorem ap_notB:mNotB p G t = Rs.nt (p G t):=(rfl)
theorem nt_ok {b:Bool}:Rs.nt (.ok b t) = .ok (!b) t:=(rfl)
theorem nt_ex:Rs.nt (.ex c fs t) = .ex c fs t:=(rfl)
def Rs.an (r:Rs Bool) (y:BM) (G:Gm):Rs Bool:=r.bind fun b t=>if b then y G t else .ok false t
def Rs.oo (r:Rs Bool) (y:BM) (G:Gm):Rs Bool:=r.bind fun b t=>if b then .ok true t else y G t
theorem ap_andB:mAndB p q G t = Rs.an (p G t) q G:=(rfl)
theorem an_t:Rs.an (.ok true t) q G = q G t:=(rfl)
theorem an_f:Rs.an (.ok false t) q G = .ok false t:=(rfl)
theorem an_ex:Rs.an (.ex c fs t) q G = .ex c fs t:=(rfl)
theorem ap_orB:mOrB p q G t = Rs.oo (p G t) q G:=(rfl)
theorem oo_t:Rs.oo (.ok true t) q G = .ok true t:=(rfl)
theorem oo_f:Rs.oo (.ok false t) q G = q G t:=(rfl)
theorem oo_ex:Rs.oo (.ex c fs t) q G = .ex c fs t:=(rfl)
def Rs.vn (r:Rs Rv) (y:EM) (G:Gm):Rs Rv:=r.fz.bind fun r t=>match r.truth with
  | some true=>y G t
  | some false=>.ok r t
  | none=>.stuck
def Rs.vo (r:Rs Rv) (y:EM) (G:Gm):Rs Rv:=r.fz.bind fun r t=>match r.truth with
  | some false=>y G t
  | some true=>.ok r t
  | none=>.stuck
theorem ap_and:mAnd a b G t = Rs.vn (a G t) b G:=(rfl)
theorem ap_or:mOr a b G t = Rs.vo (a G t) b G:=(rfl)
theorem vn_t:Rs.vn (.ok (.d (.bool true)) t) b G = b G t:=(rfl)
theorem vn_f:Rs.vn (.ok (.d (.bool false)) t) b G = .ok (.d (.bool false)) t:=(rfl)
theorem vo_t:Rs.vo (.ok (.d (.bool true)) t) b G = .ok (.d (.bool true)) t:=(rfl)
theorem vo_f:Rs.vo (.ok (.d (.bool false)) t) b G = b G t:=(rfl)
theorem vo_tup0:Rs.vo (.ok (.d (.tuple [])) t) b G = b G t:=(rfl)
theorem vo_none:Rs.vo (.ok (.d .none) t) b G = b G t:=(rfl)
theorem vo_tup:Rs.vo (.ok (.d (.tuple (x :: xs))) t) b G = .ok (.d (.tuple (x :: xs))) t:=(rfl)
theorem vn_ex:Rs.vn (.ex c fs t) b G = .ex c fs t:=(rfl)
theorem vo_ex:Rs.vo (.ex c fs t) b G = .ex c fs t:=(rfl)
def Rs.nv (r:Rs Rv):Rs Rv:=r.fz.bind fun x t=>.of (x.truth.map fun b=>.d (.bool !b)) t
theorem ap_not:mNot a G t = Rs.nv (a G t):=(rfl)
theorem nv_b {b:Bool}:Rs.nv (.ok (.d (.bool b)) t) = .ok (.d (.bool !b)) t:=(rfl)
def Rs.ife (r:Rs Bool) (x y:EM) (G:Gm):Rs Rv:=r.bind fun b t=>if b then x G t else y G t
theorem ap_ife:mIf p a b G t = Rs.ife (p G t) a b G:=(rfl)
theorem ife_t:Rs.ife (.ok true t) a b G = a G t:=(rfl)
theorem ife_f:Rs.ife (.ok false t) a b G = b G t:=(rfl)
theorem ife_ex:Rs.ife (.ex c fs t) a b G = .ex c fs t:=(rfl)
def Rs.ng (r:Rs Rv):Rs Rv:=r.fz.bind fun x t=>.of (match x with | .d (.int i)=>some (.d (.int (-i))) | _=>none) t
theorem ap_neg:mNeg a G t = Rs.ng (a G t):=(rfl)
theorem ng_ok {i:Int}:Rs.ng (.ok (.d (.int i)) t) = .ok (.d (.int (-i))) t:=(rfl)
def Rs.c1 (r:Rs Rv) (y:AM) (G:Gm):Rs (List Rv):=r.fz.bind fun r t=>(y G t).bind fun rs t=>.ok (r :: rs) t
def Rs.c2 (r:Rs (List Rv)) (x:Rv):Rs (List Rv):=r.bind fun rs t=>.ok (x :: rs) t
theorem ap_nil:mNil G t = .ok [] t:=(rfl)
theorem ap_cons:mCons a m G t = Rs.c1 (a G t) m G:=(rfl)
theorem c1_ok:Rs.c1 (.ok r t) m G = Rs.c2 (m G t) r.fz:=(rfl)
theorem c1_ex:Rs.c1 (.ex c fs t) m G = .ex c fs t:=(rfl)
theorem c2_ok:Rs.c2 (.ok rs t) r = .ok (r :: rs) t:=(rfl)
theorem c2_ex:Rs.c2 (.ex c fs t) r = .ex c fs t:=(rfl)
theorem dats_nil:dats [] = some []:=(rfl)
theorem dats_cons:dats (.d x :: rs) = (dats rs).map (x :: ·):=(rfl)
def Rs.tp (r:Rs (List Rv)):Rs Rv:=r.bind fun rs t=>.of (if rs.length ≤ 16777216 then (dats rs).map fun ds=>.d (.tuple ds) else none) t
def Rs.ls (r:Rs (List Rv)):Rs Rv:=r.bind fun rs t=>.of (if rs.length ≤ 16777216 then (dats rs).map fun ds=>.l ds else none) t
theorem ap_tup:mTup m G t = Rs.tp (m G t):=(rfl)
theorem ap_lst:mLst m G t = Rs.ls (m G t):=(rfl)
theorem tp_ex:Rs.tp (.ex c fs t) = .ex c fs t:=(rfl)
theorem ls_ex:Rs.ls (.ex c fs t) = .ex c fs t:=(rfl)
theorem dats_len:∀ {rs:List Rv} {ds:List D},dats rs = some ds → rs.length = ds.length
  | [],ds,h=>by cases h; rfl
  | .d x :: rs,ds,h=>by
    simp only [dats] at h
    cases e:dats rs with
    | none=>rw [e] at h; cases h
    | some ds' =>
      rw [e] at h
      cases h
      simp only [List.length_cons,dats_len e]
  | .l _ :: _,_,h=>by cases h
  | .b _ :: _,_,h=>by cases h
  | .s :: _,_,h=>by cases h
  | .a _ :: _,_,h=>by cases h
theorem tp_0:Rs.tp (.ok [] t) = .ok (.d (.tuple [])) t:=(rfl)
theorem tp_1:Rs.tp (.ok [.d x] t) = .ok (.d (.tuple [x])) t:=by unfold Rs.tp Rs.bind; simp [dats,Rs.of]
theorem tp_2:Rs.tp (.ok [.d x,.d y] t) = .ok (.d (.tuple [x,y])) t:=by unfold Rs.tp Rs.bind; simp [dats,Rs.of]
theorem tp_3:Rs.tp (.ok [.d x,.d y,.d z] t) = .ok (.d (.tuple [x,y,z])) t:=by unfold Rs.tp Rs.bind; simp [dats,Rs.of]
theorem tp_ok (h:dats rs = some xs) (hl:xs.length ≤ 16777216):Rs.tp (.ok rs t) = .ok (.d (.tuple xs)) t:=by
  unfold Rs.tp Rs.bind
  simp [dats_len h,hl,h,Rs.of]
theorem ls_ok (h:dats rs = some xs) (hl:xs.length ≤ 16777216):Rs.ls (.ok rs t) = .ok (.l xs) t:=by
  unfold Rs.ls Rs.bind
  simp [dats_len h,hl,h,Rs.of]
theorem tp_4 {x4:D}:Rs.tp (.ok [.d x,.d y,.d z,.d x4] t) = .ok (.d (.tuple [x,y,z,x4])) t:=tp_ok rfl (Nat.le_of_ble_eq_true rfl)
theorem ls_0:Rs.ls (.ok [] t) = .ok (.l []) t:=(rfl)
theorem ls_1:Rs.ls (.ok [.d x] t) = .ok (.l [x]) t:=ls_ok rfl (Nat.le_of_ble_eq_true rfl)
theorem ls_2:Rs.ls (.ok [.d x,.d y] t) = .ok (.l [x,y]) t:=ls_ok rfl (Nat.le_of_ble_eq_true rfl)
theorem ls_3:Rs.ls (.ok [.d x,.d y,.d z] t) = .ok (.l [x,y,z]) t:=ls_ok rfl (Nat.le_of_ble_eq_true rfl)
theorem ls_4 {x4:D}:Rs.ls (.ok [.d x,.d y,.d z,.d x4] t) = .ok (.l [x,y,z,x4]) t:=ls_ok rfl (Nat.le_of_ble_eq_true rfl)
theorem ls_5 {x4 x5:D}:Rs.ls (.ok [.d x,.d y,.d z,.d x4,.d x5] t) = .ok (.l [x,y,z,x4,x5]) t:=ls_ok rfl (Nat.le_of_ble_eq_true rfl)
theorem ls_6 {x4 x5 x6:D}:Rs.ls (.ok [.d x,.d y,.d z,.d x4,.d x5,.d x6] t) = .ok (.l [x,y,z,x4,x5,x6]) t:=ls_ok rfl (Nat.le_of_ble_eq_true rfl)
theorem ls_7 {x4 x5 x6 x7:D}:Rs.ls (.ok [.d x,.d y,.d z,.d x4,.d x5,.d x6,.d x7] t) = .ok (.l [x,y,z,x4,x5,x6,x7]) t:=ls_ok rfl (Nat.le_of_ble_eq_true rfl)
theorem ls_8 {x4 x5 x6 x7 x8:D}:Rs.ls (.ok [.d x,.d y,.d z,.d x4,.d x5,.d x6,.d x7,.d x8] t) = .ok (.l [x,y,z,x4,x5,x6,x7,x8]) t:=ls_ok rfl (Nat.le_of_ble_eq_true rfl)
def Rs.cal (r:Rs (List Rv)) (n:Nat) (f:FM) (dvs:List D):Rs Rv:=r.bind fun rs t=>if rs.length + dvs.length = n then f (rs ++ dvs.map Rv.d) t else .stuck
theorem ap_call {f:FM} {dvs:List D}:mCall n f dvs m G t = Rs.cal (m G t) n f dvs:=(rfl)
theorem cal_ex {f:FM} {dvs:List D}:Rs.cal (.ex c fs t) n f dvs = .ex c fs t:=(rfl)
theorem cal_0 {f:FM}:Rs.cal (.ok [] t) 0 f [] = f [] t:=(rfl)
theorem cal_1 {f:FM}:Rs.cal (.ok [r] t) 1 f [] = f [r] t:=(rfl)
theorem cal_2 {f:FM}:Rs.cal (.ok [r,r1] t) 2 f [] = f [r,r1] t:=(rfl)
theorem cal_3 {f:FM}:Rs.cal (.ok [r,r1,r2] t) 3 f [] = f [r,r1,r2] t:=(rfl)
theorem cal_4 {f:FM} {r3:Rv}:Rs.cal (.ok [r,r1,r2,r3] t) 4 f [] = f [r,r1,r2,r3] t:=(rfl)
theorem cal_5 {f:FM} {r3 r4:Rv}:Rs.cal (.ok [r,r1,r2,r3,r4] t) 5 f [] = f [r,r1,r2,r3,r4] t:=(rfl)
theorem cal_6 {f:FM} {r3 r4 r5:Rv}:Rs.cal (.ok [r,r1,r2,r3,r4,r5] t) 6 f [] = f [r,r1,r2,r3,r4,r5] t:=(rfl)
def Rs.cB (r:Rs (List Rv)) (f:List Rv → Option Rv):Rs Rv:=r.bind fun rs t=>.of (f rs) t
theorem ap_callB {f:List Rv → Option Rv}:mCallB f m G t = Rs.cB (m G t) f:=(rfl)
theorem cB_ok {f:List Rv → Option Rv}:Rs.cB (.ok rs t) f = Rs.of (f rs) t:=(rfl)
theorem cB_ex {f:List Rv → Option Rv}:Rs.cB (.ex c fs t) f = .ex c fs t:=(rfl)
theorem f1_d {g:D → Option D}:f1 g [.d x] = (g x).map Rv.d:=(rfl)
theorem f1_b {g:D → Option D}:f1 g [.b xs] = (g (.list xs)).map Rv.d:=(rfl)
theorem f2_d {g:D → D → Option D}:f2 g [.d x,.d y] = (g x y).map Rv.d:=(rfl)
theorem len_t:gLen (.tuple xs) = some (.int xs.length):=(rfl)
theorem len_l:gLen (.list xs) = some (.int xs.length):=(rfl)
theorem max_i {i j:Int}:gMax (.int i) (.int j) = some (.int (if j > i then j else i)):=(rfl)
theorem min_i {i j:Int}:gMin (.int i) (.int j) = some (.int (if j < i then j else i)):=(rfl)
theorem int_i {i:Int}:gInt (.int i) = some (.int i):=(rfl)
theorem abs_i {i:Int}:gAbs (.int i) = some (.int (if i < 0 then -i else i)):=(rfl)
theorem ftup_l:fTuple [.d (.list xs)] = some (.d (.tuple xs)):=(rfl)
theorem ftup_b:fTuple [.b xs] = some (.d (.tuple xs)):=(rfl)
theorem ftup_t:fTuple [.d (.tuple xs)] = some (.d (.tuple xs)):=(rfl)
theorem flst_l:fList [.d (.list xs)] = some (.l xs):=(rfl)
theorem flst_b:fList [.b xs] = some (.l xs):=(rfl)
theorem flst_t:fList [.d (.tuple xs)] = some (.l xs):=(rfl)
theorem add_i {i j:Int}:fAdd (.d (.int i)) (.d (.int j)) = some (.d (.int (i + j))):=(rfl)
theorem sub_i {i j:Int}:fSub (.d (.int i)) (.d (.int j)) = some (.d (.int (i - j))):=(rfl)
theorem mul_i {i j:Int}:fMul (.d (.int i)) (.d (.int j)) = if mulOk i j = true then some (.d (.int (i * j))) else none:=(rfl)
theorem div_i {i j:Int}:fDiv (.d (.int i)) (.d (.int j)) = if divOk i j = true then some (.d (.int (i.fdiv j))) else none:=(rfl)
theorem mod_i {i j:Int}:fMod (.d (.int i)) (.d (.int j)) = if decide (j ≠ 0) = true then some (.d (.int (i.fmod j))) else none:=(rfl)
theorem add_t:fAdd (.d (.tuple xs)) (.d (.tuple ys)) = if xs.length + ys.length ≤ 16777216 then some (.d (.tuple (xs ++ ys))) else none:=by
  simp only [fAdd,fI,fCat,fCatT,fCatStr,Rv.items,Rv.tup,Option.none_or,Option.bind_none,Option.bind_some]
  split <;> rfl
theorem add_bl:fAdd (.b xs) (.d (.list ys)) = if xs.length + ys.length ≤ 16777216 then some (.l (xs ++ ys)) else none:=by
  simp only [fAdd,fI,fCat,fCatT,fCatStr,Rv.items,Rv.tup,Option.none_or,Option.bind_none,Option.bind_some]
  split <;> rfl
theorem add_ll:fAdd (.d (.list xs)) (.d (.list ys)) = if xs.length + ys.length ≤ 16777216 then some (.l (xs ++ ys)) else none:=by
  simp only [fAdd,fI,fCat,fCatT,fCatStr,Rv.items,Rv.tup,Option.none_or,Option.bind_none,Option.bind_some]
  split <;> rfl
theorem add_bb:fAdd (.b xs) (.b ys) = if xs.length + ys.length ≤ 16777216 then some (.l (xs ++ ys)) else none:=by
  simp only [fAdd,fI,fCat,fCatT,fCatStr,Rv.items,Rv.tup,Option.none_or,Option.bind_none,Option.bind_some]
  split <;> rfl
theorem add_lb:fAdd (.d (.list xs)) (.b ys) = if xs.length + ys.length ≤ 16777216 then some (.l (xs ++ ys)) else none:=by
  simp only [fAdd,fI,fCat,fCatT,fCatStr,Rv.items,Rv.tup,Option.none_or,Option.bind_none,Option.bind_some]
  split <;> rfl
theorem cm_i {p:Int → Int → Bool} {i j:Int}:fCm p (.d (.int i)) (.d (.int j)) = some (.d (.bool (p i j))):=(rfl)
theorem lt_u {i j:Int}:iLt i j = decide (i < j):=(rfl)
theorem le_u {i j:Int}:iLe i j = decide (i ≤ j):=(rfl)
theorem gt_u {i j:Int}:iGt i j = decide (j < i):=(rfl)
theorem ge_u {i j:Int}:iGe i j = decide (j ≤ i):=(rfl)
theorem eq_i {i j:Int}:fEq (.d (.int i)) (.d (.int j)) = some (.d (.bool (decide (i = j)))):=(rfl)
theorem ne_i {i j:Int}:fNe (.d (.int i)) (.d (.int j)) = some (.d (.bool (!decide (i = j)))):=(rfl)
theorem eq_s {a b:Str}:fEq (.d (.str a)) (.d (.str b)) = some (.d (.bool (decide (a = b)))):=(rfl)
theorem ne_s {a b:Str}:fNe (.d (.str a)) (.d (.str b)) = some (.d (.bool (!decide (a = b)))):=(rfl)
theorem is_nn:fIs (.d .none) (.d .none) = some (.d (.bool true)):=(rfl)
theorem is_tn:fIs (.d (.tuple xs)) (.d .none) = some (.d (.bool false)):=(rfl)
theorem is_in {i:Int}:fIs (.d (.int i)) (.d .none) = some (.d (.bool false)):=(rfl)
theorem is_sn {s:Str}:fIs (.d (.str s)) (.d .none) = some (.d (.bool false)):=(rfl)
theorem is_ln:fIs (.d (.list xs)) (.d .none) = some (.d (.bool false)):=(rfl)
theorem is_bn {b:Bool}:fIs (.d (.bool b)) (.d .none) = some (.d (.bool false)):=(rfl)
theorem is_bb {a b:Bool}:fIs (.d (.bool a)) (.d (.bool b)) = some (.d (.bool (decide (a = b)))):=(rfl)
theorem isn_nn:fIsNt (.d .none) (.d .none) = some (.d (.bool false)):=(rfl)
theorem isn_tn:fIsNt (.d (.tuple xs)) (.d .none) = some (.d (.bool true)):=(rfl)
theorem isn_in {i:Int}:fIsNt (.d (.int i)) (.d .none) = some (.d (.bool true)):=(rfl)
theorem isn_sn {s:Str}:fIsNt (.d (.str s)) (.d .none) = some (.d (.bool true)):=(rfl)
theorem isn_ln:fIsNt (.d (.list xs)) (.d .none) = some (.d (.bool true)):=(rfl)
theorem isn_bn {b:Bool}:fIsNt (.d (.bool b)) (.d .none) = some (.d (.bool true)):=(rfl)
theorem isn_bb {a b:Bool}:fIsNt (.d (.bool a)) (.d (.bool b)) = some (.d (.bool (!decide (a = b)))):=(rfl)
theorem ix_t {i:Int}:fIx (.d (.tuple xs)) (.d (.int i)) = (atI xs i).map Rv.d:=by
  simp only [fIx,Rv.items,Rv.tup,Option.bind_none,Option.bind_some,Option.map_none,Option.none_or]
theorem ix_l {i:Int}:fIx (.d (.list xs)) (.d (.int i)) = (atI xs i).map Rv.d:=by
  simp only [fIx,Rv.items,Rv.tup,Option.bind_none,Option.bind_some,Option.map_none,Option.or_none]
theorem ix_b {i:Int}:fIx (.b xs) (.d (.int i)) = (atI xs i).map Rv.d:=by
  simp only [fIx,Rv.items,Rv.tup,Option.bind_none,Option.bind_some,Option.map_none,Option.or_none]
theorem at_0:atI (x :: xs) 0 = some x:=atI_nat (j:=0) rfl
theorem at_1:atI (x :: y :: xs) 1 = some y:=atI_nat (j:=1) rfl
theorem at_2:atI (x :: y :: z :: xs) 2 = some z:=atI_nat (j:=2) rfl
theorem at_3 {w:D}:atI (x :: y :: z :: w :: xs) 3 = some w:=atI_nat (j:=3) rfl
theorem at_4 {w u:D}:atI (x :: y :: z :: w :: u :: xs) 4 = some u:=atI_nat (j:=4) rfl
def isT (T:String) (d:D):Bool:=isiB (tyName d) T
def Rs.ki (r:Rs Rv) (T:String):Rs Rv:=r.fz.bind fun x t=>.of (if isiOk T then x.toD.map fun d=>.d (.bool (isiB (tyName d) T)) else none) t
theorem ap_isi {T:String}:mIsi T a G t = Rs.ki (a G t) T:=(rfl)
theorem ki_int:Rs.ki (.ok (.d x) t) "int" = .ok (.d (.bool (isT "int" x))) t:=(rfl)
theorem ki_bool:Rs.ki (.ok (.d x) t) "bool" = .ok (.d (.bool (isT "bool" x))) t:=(rfl)
theorem ki_str:Rs.ki (.ok (.d x) t) "str" = .ok (.d (.bool (isT "str" x))) t:=(rfl)
theorem ki_tuple:Rs.ki (.ok (.d x) t) "tuple" = .ok (.d (.bool (isT "tuple" x))) t:=(rfl)
theorem ki_list:Rs.ki (.ok (.d x) t) "list" = .ok (.d (.bool (isT "list" x))) t:=(rfl)
theorem ki_lb:Rs.ki (.ok (.b xs) t) "list" = .ok (.d (.bool true)) t:=(rfl)
theorem ki_tb:Rs.ki (.ok (.b xs) t) "tuple" = .ok (.d (.bool false)) t:=(rfl)
theorem kd_int_NoneType  : isT "int" (.none) = false:=by first | exact (rfl) | decide +kernel
theorem kd_int_bool {BB:Bool}:isT "int" (.bool BB) = true:=by first | exact (rfl) | decide +kernel
theorem kd_int_int {BB:Int}:isT "int" (.int BB) = true:=by first | exact (rfl) | decide +kernel
theorem kd_int_str {BB:Str}:isT "int" (.str BB) = false:=by first | exact (rfl) | decide +kernel
theorem kd_int_list  : isT "int" (.list xs) = false:=by first | exact (rfl) | decide +kernel
theorem kd_int_tuple  : isT "int" (.tuple xs) = false:=by first | exact (rfl) | decide +kernel
theorem kd_bool_NoneType  : isT "bool" (.none) = false:=by first | exact (rfl) | decide +kernel
theorem kd_bool_bool {BB:Bool}:isT "bool" (.bool BB) = true:=by first | exact (rfl) | decide +kernel
theorem kd_bool_int {BB:Int}:isT "bool" (.int BB) = false:=by first | exact (rfl) | decide +kernel
theorem kd_bool_str {BB:Str}:isT "bool" (.str BB) = false:=by first | exact (rfl) | decide +kernel
theorem kd_bool_list  : isT "bool" (.list xs) = false:=by first | exact (rfl) | decide +kernel
theorem kd_bool_tuple  : isT "bool" (.tuple xs) = false:=by first | exact (rfl) | decide +kernel
theorem kd_str_NoneType  : isT "str" (.none) = false:=by first | exact (rfl) | decide +kernel
theorem kd_str_bool {BB:Bool}:isT "str" (.bool BB) = false:=by first | exact (rfl) | decide +kernel
theorem kd_str_int {BB:Int}:isT "str" (.int BB) = false:=by first | exact (rfl) | decide +kernel
theorem kd_str_str {BB:Str}:isT "str" (.str BB) = true:=by first | exact (rfl) | decide +kernel
theorem kd_str_list  : isT "str" (.list xs) = false:=by first | exact (rfl) | decide +kernel
theorem kd_str_tuple  : isT "str" (.tuple xs) = false:=by first | exact (rfl) | decide +kernel
theorem kd_tuple_NoneType  : isT "tuple" (.none) = false:=by first | exact (rfl) | decide +kernel
theorem kd_tuple_bool {BB:Bool}:isT "tuple" (.bool BB) = false:=by first | exact (rfl) | decide +kernel
theorem kd_tuple_int {BB:Int}:isT "tuple" (.int BB) = false:=by first | exact (rfl) | decide +kernel
theorem kd_tuple_str {BB:Str}:isT "tuple" (.str BB) = false:=by first | exact (rfl) | decide +kernel
theorem kd_tuple_list  : isT "tuple" (.list xs) = false:=by first | exact (rfl) | decide +kernel
theorem kd_tuple_tuple  : isT "tuple" (.tuple xs) = true:=by first | exact (rfl) | decide +kernel
theorem kd_list_NoneType  : isT "list" (.none) = false:=by first | exact (rfl) | decide +kernel
theorem kd_list_bool {BB:Bool}:isT "list" (.bool BB) = false:=by first | exact (rfl) | decide +kernel
theorem kd_list_int {BB:Int}:isT "list" (.int BB) = false:=by first | exact (rfl) | decide +kernel
theorem kd_list_str {BB:Str}:isT "list" (.str BB) = false:=by first | exact (rfl) | decide +kernel
theorem kd_list_list  : isT "list" (.list xs) = true:=by first | exact (rfl) | decide +kernel
theorem kd_list_tuple  : isT "list" (.tuple xs) = false:=by first | exact (rfl) | decide +kernel
def So.sq:So → SM → So
  | .nx G t,b=>b G t
  | .rt x t,_=>.rt x t
  | .rl x t,_=>.rl x t
  | .ra x t,_=>.ra x t
  | .bk G t,_=>.bk G t
  | .ct G t,_=>.ct G t
  | .ex c fs G t,_=>.ex c fs G t
  | .stuck,_=>.stuck
theorem ap_seq:sSeq u v G t = So.sq (u G t) v:=by
  unfold sSeq So.sq
  cases u G t <;> rfl
theorem sq_nx:So.sq (.nx G t) v = v G t:=(rfl)
theorem sq_rt:So.sq (.rt x t) v = .rt x t:=(rfl)
theorem sq_rl:So.sq (.rl xs t) v = .rl xs t:=(rfl)
theorem sq_bk:So.sq (.bk G t) v = .bk G t:=(rfl)
theorem sq_ct:So.sq (.ct G t) v = .ct G t:=(rfl)
theorem sq_ex:So.sq (.ex c fs G t) v = .ex c fs G t:=(rfl)
theorem ap_skip:sSkip G t = .nx G t:=(rfl)
theorem ap_break:sBreak G t = .bk G t:=(rfl)
theorem ap_cont:sCont G t = .ct G t:=(rfl)
theorem ap_retN:sRetN G t = .rt .none t:=(rfl)
def Rs.xp (r:Rs Rv) (G:Gm):So:=r.bindS G fun _ t=>.nx G t
theorem ap_expr:sExpr a G t = Rs.xp (a G t) G:=(rfl)
theorem xp_ok:Rs.xp (.ok r t) G = .nx G t:=(rfl)
theorem xp_ex:Rs.xp (.ex c fs t) G = .ex c fs G t:=(rfl)
def Rs.rt (r:Rs Rv) (G:Gm):So:=r.fz.bindS G fun r t=>match r with
  | .d x=>.rt x t
  | _=>.stuck
theorem ap_ret:sRet a G t = Rs.rt (a G t) G:=(rfl)
theorem rt_d:Rs.rt (.ok (.d x) t) G = .rt x t:=(rfl)
theorem rt_l:Rs.rt (.ok (.l xs) t) G = .rt (.list xs) t:=(rfl)
theorem rt_ex:Rs.rt (.ex c fs t) G = .ex c fs G t:=(rfl)
def Sl.rl:Option Sl → Option DS → So
  | some (.l xs),t=>.rl xs t
  | some (.d x),t=>.rt x t
  | some (.a k),t=>.ra k t
  | _,_=>.stuck
theorem ap_retV:sRetV i G t = Sl.rl G[i]? t:=by
  unfold sRetV Sl.rl
  cases G[i]? with
  | none=>rfl
  | some x=>cases x <;> rfl
theorem rlv_l:Sl.rl (some (.l xs)) t = .rl xs t:=(rfl)
theorem rlv_d:Sl.rl (some (.d x)) t = .rt x t:=(rfl)
def Rs.rL (r:Rs Rv) (G:Gm):So:=r.bindS G fun r t=>match r with
  | .d x=>.rt x t
  | .l xs=>.rl xs t
  | _=>.stuck
theorem ap_retL:sRetL a G t = Rs.rL (a G t) G:=(rfl)
theorem rL_d:Rs.rL (.ok (.d x) t) G = .rt x t:=(rfl)
theorem rL_l:Rs.rL (.ok (.l xs) t) G = .rl xs t:=(rfl)
theorem rL_ex:Rs.rL (.ex c fs t) G = .ex c fs G t:=(rfl)
def Rs.sif (r:Rs Bool) (u v:SM) (G:Gm):So:=r.bindS G fun k t=>if k then u G t else v G t
theorem ap_if:sIf p u v G t = Rs.sif (p G t) u v G:=(rfl)
theorem sif_t:Rs.sif (.ok true t) u v G = u G t:=(rfl)
theorem sif_f:Rs.sif (.ok false t) u v G = v G t:=(rfl)
theorem sif_e:Rs.sif (.ex c fs t) u v G = .ex c fs G t:=(rfl)
def ltG:Nat → Gm → Bool
  | 0,_ :: _=>true
  | i + 1,_ :: G=>ltG i G
  | _,[]=>false
theorem ltG_iff:∀ {i:Nat} {G:Gm},ltG i G = true ↔ i < G.length
  | 0,_ :: _=>⟨fun _=>Nat.succ_pos _,fun _=>rfl⟩
  | i + 1,_ :: G=>by
    show ltG i G = true ↔ _
    rw [ltG_iff]
    exact Nat.succ_lt_succ_iff.symm
  | 0,[]=>⟨fun h=>(by cases h),fun h=>absurd h (Nat.not_lt_zero _)⟩
  | i + 1,[]=>⟨fun h=>(by cases h),fun h=>absurd h (Nat.not_lt_zero _)⟩
theorem ltG_0 {x:Sl} {G:Gm}:ltG 0 (x :: G) = true:=(rfl)
theorem ltG_s {x:Sl} {G:Gm} {i:Nat}:ltG (i + 1) (x :: G) = ltG i G:=(rfl)
def Rs.st (r:Rs Rv) (i:Nat) (G:Gm):So:=r.bindS G fun r t=>match r.sl with
  | some s=>if i < G.length then .nx (G.set i s) t else .stuck
  | none=>.stuck
theorem ap_set:sSet i a G t = Rs.st (a G t) i G:=(rfl)
theorem st_d:Rs.st (.ok (.d x) t) i G = if ltG i G = true then .nx (G.set i (.d x)) t else .stuck:=by
  show (if i < G.length then So.nx (G.set i (.d x)) t else .stuck) = _
  simp only [ltG_iff]
theorem st_l:Rs.st (.ok (.l xs) t) i G = if ltG i G = true then .nx (G.set i (.l xs)) t else .stuck:=by
  show (if i < G.length then So.nx (G.set i (.l xs)) t else .stuck) = _
  simp only [ltG_iff]
theorem st_s:Rs.st (.ok .s t) i G = if ltG i G = true then .nx (G.set i .s) t else .stuck:=by
  show (if i < G.length then So.nx (G.set i .s) t else .stuck) = _
  simp only [ltG_iff]
theorem st_a:Rs.st (.ok (.a k) t) i G = if ltG i G = true then .nx (G.set i (.a k)) t else .stuck:=by
  show (if i < G.length then So.nx (G.set i (.a k)) t else .stuck) = _
  simp only [ltG_iff]
theorem st_ex:Rs.st (.ex c fs t) i G = .ex c fs G t:=(rfl)
theorem gln_0:List.length ([]:Gm) = 0:=(rfl)
theorem gln_s {x:Sl} {G:Gm}:List.length (x :: G) = G.length + 1:=(rfl)
def Rs.p1 (r:Rs Rv) (i j:Nat) (b:EM) (G:Gm):So:=r.fz.bindS G fun x t=>(b G t).fz.bindS G fun y t=>match x,y with
  | .d x,.d y=>if i < G.length ∧ j < G.length then .nx ((G.set i (.d x)).set j (.d y)) t else .stuck
  | _,_=>.stuck
def Rs.p2 (r:Rs Rv) (i j:Nat) (x:Rv) (G:Gm):So:=r.fz.bindS G fun y t=>match x,y with
  | .d x,.d y=>if i < G.length ∧ j < G.length then .nx ((G.set i (.d x)).set j (.d y)) t else .stuck
  | _,_=>.stuck
theorem ap_par:sPar i j a b G t = Rs.p1 (a G t) i j b G:=(rfl)
theorem p1_ok:Rs.p1 (.ok r t) i j b G = Rs.p2 (b G t) i j r.fz G:=(rfl)
theorem p1_ex:Rs.p1 (.ex c fs t) i j b G = .ex c fs G t:=(rfl)
theorem p2_ok:Rs.p2 (.ok (.d y) t) i j (.d x) G = if (ltG i G && ltG j G) = true then .nx ((G.set i (.d x)).set j (.d y)) t else .stuck:=by
  show (if i < G.length ∧ j < G.length then So.nx ((G.set i (.d x)).set j (.d y)) t else .stuck) = _
  simp only [Bool.and_eq_true,ltG_iff]
theorem p2_ol:Rs.p2 (.ok (.l ys) t) i j (.d x) G = if (ltG i G && ltG j G) = true then .nx ((G.set i (.d x)).set j (.d (.list ys))) t else .stuck:=by
  show (if i < G.length ∧ j < G.length then So.nx ((G.set i (.d x)).set j (.d (.list ys))) t else .stuck) = _
  simp only [Bool.and_eq_true,ltG_iff]
theorem p2_ex:Rs.p2 (.ex c fs t) i j r G = .ex c fs G t:=(rfl)
def Rs.q1 (r:Rs Rv) (i j k:Nat) (b d:EM) (G:Gm):So:=r.fz.bindS G fun r1 t=>(b G t).fz.bindS G fun r2 t=>(d G t).fz.bindS G fun r3 t=>match r1,r2,r3 with
  | .d x,.d y,.d z=>if i < G.length ∧ j < G.length ∧ k < G.length then .nx (((G.set i (.d x)).set j (.d y)).set k (.d z)) t else .stuck
  | _,_,_=>.stuck
def Rs.q2 (r:Rs Rv) (i j k:Nat) (r1:Rv) (d:EM) (G:Gm):So:=r.fz.bindS G fun r2 t=>(d G t).fz.bindS G fun r3 t=>match r1,r2,r3 with
  | .d x,.d y,.d z=>if i < G.length ∧ j < G.length ∧ k < G.length then .nx (((G.set i (.d x)).set j (.d y)).set k (.d z)) t else .stuck
  | _,_,_=>.stuck
def Rs.q3 (r:Rs Rv) (i j k:Nat) (r1 r2:Rv) (G:Gm):So:=r.fz.bindS G fun r3 t=>match r1,r2,r3 with
  | .d x,.d y,.d z=>if i < G.length ∧ j < G.length ∧ k < G.length then .nx (((G.set i (.d x)).set j (.d y)).set k (.d z)) t else .stuck
  | _,_,_=>.stuck
theorem ap_par3:sPar3 i j k a b d G t = Rs.q1 (a G t) i j k b d G:=(rfl)
theorem t1_ok:Rs.q1 (.ok r t) i j k b d G = Rs.q2 (b G t) i j k r.fz d G:=(rfl)
theorem t2_ok:Rs.q2 (.ok r t) i j k r1 d G = Rs.q3 (d G t) i j k r1 r.fz G:=(rfl)
theorem t3_ok:Rs.q3 (.ok (.d z) t) i j k (.d x) (.d y) G = if (ltG i G && (ltG j G && ltG k G)) = true then .nx (((G.set i (.d x)).set j (.d y)).set k (.d z)) t else .stuck:=by
  show (if i < G.length ∧ j < G.length ∧ k < G.length then So.nx (((G.set i (.d x)).set j (.d y)).set k (.d z)) t else .stuck) = _
  simp only [Bool.and_eq_true,ltG_iff]
theorem t1_ex:Rs.q1 (.ex c fs t) i j k b d G = .ex c fs G t:=(rfl)
theorem t2_ex:Rs.q2 (.ex c fs t) i j k r1 d G = .ex c fs G t:=(rfl)
theorem t3_ex:Rs.q3 (.ex c fs t) i j k r1 r2 G = .ex c fs G t:=(rfl)
def Rs.tg (r:Rs Rv) (pt:Pt) (G:Gm):So:=r.fz.bindS G fun r t=>match r with
  | .d x=>match asg pt x G with
    | some G'=>.nx G' t
    | none=>.stuck
  | _=>.stuck
def Gm.go:Option Gm → Option DS → So
  | some G,t=>.nx G t
  | none,_=>.stuck
theorem ap_tgt {pt:Pt}:sTgt pt a G t = Rs.tg (a G t) pt G:=(rfl)
theorem tg_ok {pt:Pt}:Rs.tg (.ok (.d x) t) pt G = Gm.go (asg pt x G) t:=by
  show (match asg pt x G with | some G'=>So.nx G' t | none=>.stuck) = _
  unfold Gm.go
  cases asg pt x G <;> rfl
theorem go_some:Gm.go (some G) t = .nx G t:=(rfl)
def Rs.fo {α:Type} (r:Rs α) (G:Gm) (f:α → SM):So:=r.bindS G fun x t=>f x G t
theorem ap_for {im:IM} {pt:Pt}:sFor im pt u G t = Rs.fo (im G t) G (loop pt u):=(rfl)
theorem fo_ok {α:Type} {x:α} {f:α → SM}:Rs.fo (.ok x t) G f = f x G t:=(rfl)
theorem fo_ex {α:Type} {f:α → SM}:Rs.fo (.ex c fs t:Rs α) G f = .ex c fs G t:=(rfl)
def Sl.fr:Option Sl → Nat → SM → SM
  | some (.l xs),i,u,G,t=>u (G.set i (.d (.list xs))) t
  | _,_,u,G,t=>u G t
theorem ap_frz:sFrz i u G t = Sl.fr G[i]? i u G t:=by
  unfold sFrz Sl.fr
  cases G[i]? with
  | none=>rfl
  | some x=>cases x <;> rfl
theorem fr_l:Sl.fr (some (.l xs)) i u G t = u (G.set i (.d (.list xs))) t:=(rfl)
theorem fr_d:Sl.fr (some (.d x)) i u G t = u G t:=(rfl)
theorem fr_u:Sl.fr (some .un) i u G t = u G t:=(rfl)
theorem fr_s:Sl.fr (some .s) i u G t = u G t:=(rfl)
def Sl.pp:Option Sl → Nat → EM → SM
  | some (.l xs),i,m,G,t=>(m G t).fz.bindS G fun r t=>match r with
    | .d x=>if xs.length < 16777216 then .nx (G.set i (.l (xs ++ [x]))) t else .stuck
    | _=>.stuck
  | _,_,_,_,_=>.stuck
def Rs.pp (r:Rs Rv) (xs:List D) (i:Nat) (G:Gm):So:=r.fz.bindS G fun r t=>match r with
    | .d x=>if xs.length < 16777216 then .nx (G.set i (.l (xs ++ [x]))) t else .stuck
    | _=>.stuck
theorem ap_app:sApp i a G t = Sl.pp G[i]? i a G t:=by
  unfold sApp Sl.pp
  cases G[i]? with
  | none=>rfl
  | some x=>cases x <;> rfl
theorem pp_l:Sl.pp (some (.l xs)) i a G t = Rs.pp (a G t) xs i G:=(rfl)
theorem pp_d:Rs.pp (.ok (.d x) t) xs i G = if xs.length < 16777216 then .nx (G.set i (.l (xs ++ [x]))) t else .stuck:=(rfl)
def Rs.ra (r:Rs (List Rv)) (c:Str) (fl:List Str) (G:Gm):So:=r.bindS G fun rs t=>match dats rs with
  | some ds=>if ds.length = fl.length then .ex c (fl.zip ds).reverse G t else .stuck
  | none=>.stuck
theorem ap_raise {fl:List Str}:sRaise c fl m G t = Rs.ra (m G t) c fl G:=(rfl)
theorem ra_1 {f:Str}:Rs.ra (.ok [.d x] t) c [f] G = .ex c [(f,x)] G t:=(rfl)
theorem ra_2 {f g:Str}:Rs.ra (.ok [.d x,.d y] t) c [f,g] G = .ex c [(g,y),(f,x)] G t:=(rfl)
def So.tr (o:So) (tb:Tab) (hs:List Hd):So:=match o with
  | .ex c fs G t=>handleM tb c fs G t hs
  | o=>o
theorem ap_try {tb:Tab} {hs:List Hd}:sTry tb u hs G t = So.tr (u G t) tb hs:=(rfl)
theorem tr_nx {tb:Tab} {hs:List Hd}:So.tr (.nx G t) tb hs = .nx G t:=(rfl)
theorem tr_rt {tb:Tab} {hs:List Hd}:So.tr (.rt x t) tb hs = .rt x t:=(rfl)
theorem tr_rl {tb:Tab} {hs:List Hd}:So.tr (.rl xs t) tb hs = .rl xs t:=(rfl)
theorem tr_ex {tb:Tab} {hs:List Hd}:So.tr (.ex c fs G t) tb hs = handleM tb c fs G t hs:=(rfl)
def Rs.se (r:Rs Rv):Rs (List D):=r.fz.bind fun r t=>.of r.seq t
theorem ap_iseq:mSeq a G t = Rs.se (a G t):=(rfl)
theorem se_t:Rs.se (.ok (.d (.tuple xs)) t) = .ok xs t:=(rfl)
theorem se_l:Rs.se (.ok (.d (.list xs)) t) = .ok xs t:=(rfl)
theorem se_n:Rs.se (.ok (.l xs) t) = .ok xs t:=(rfl)
theorem se_ex:Rs.se (.ex c fs t) = .ex c fs t:=(rfl)
def Rs.g1 (r:Rs Rv):Rs (List D):=r.fz.bind fun r t=>.of (rng1 r) t
theorem ap_rng1:mRange1 a G t = Rs.g1 (a G t):=(rfl)
theorem r1_ok {i:Int}:Rs.g1 (.ok (.d (.int i)) t) = if rngOk i = true then .ok (rangeD 0 i.toNat) t else .stuck:=by
  show Rs.of (if rngOk i then some (rangeD 0 i.toNat) else none) t = _
  split <;> rfl
theorem r1_ex:Rs.g1 (.ex c fs t) = .ex c fs t:=(rfl)
def Rs.rn1 (r:Rs Rv) (b:EM) (G:Gm):Rs (List D):=r.fz.bind fun r t=>(b G t).fz.bind fun r' t=>.of (rng2 r r') t
def Rs.rn2 (r:Rs Rv) (x:Rv):Rs (List D):=r.fz.bind fun r' t=>.of (rng2 x r') t
theorem ap_rng2:mRange2 a b G t = Rs.rn1 (a G t) b G:=(rfl)
theorem rn1_ok:Rs.rn1 (.ok r t) b G = Rs.rn2 (b G t) r.fz:=(rfl)
theorem rn2_ok {i j:Int}:Rs.rn2 (.ok (.d (.int j)) t) (.d (.int i)) = if (rngOk i && rngOk j) = true then .ok (rangeD i (j - i).toNat) t else .stuck:=by
  show Rs.of (if rngOk i && rngOk j then some (rangeD i (j - i).toNat) else none) t = _
  split <;> rfl
def Rs.lc (r:Rs (List D)) (pt:Pt) (cs:Option BM) (el:EM) (G:Gm):Rs Rv:=r.bind fun items t=>lcLoop pt cs el G items [] t
theorem ap_lc1 {im:IM} {cs:Option BM} {el:EM}:mLc im (.nm i) cs el [i] G t = Rs.lc (im G t) (.nm i) cs el (G.set i .un):=by
  unfold mLc
  rw [if_pos (by simp [Pt.ix])]
  rfl
theorem ap_lc2 {im:IM} {cs:Option BM} {el:EM}:mLc im (.tup [i,j]) cs el [i,j] G t = Rs.lc (im G t) (.tup [i,j]) cs el ((G.set j .un).set i .un):=by
  unfold mLc
  rw [if_pos (by simp [Pt.ix])]
  rfl
theorem lc_go {pt:Pt} {cs:Option BM} {el:EM}:Rs.lc (.ok xs t) pt cs el G = lcLoop pt cs el G xs [] t:=(rfl)
theorem lc_ex {pt:Pt} {cs:Option BM} {el:EM}:Rs.lc (.ex c fs t) pt cs el G = .ex c fs t:=(rfl)
def So.run:So → Rs Rv
  | .nx _ t=>.ok (.d .none) t
  | .rt x t=>.ok (.d x) t
  | .rl xs t=>.ok (.l xs) t
  | .ra k t=>.ok (.a k) t
  | .ex c fs _ t=>.ex c fs t
  | _=>.stuck
theorem run_nx:So.run (.nx G t) = .ok (.d .none) t:=(rfl)
theorem run_rt:So.run (.rt x t) = .ok (.d x) t:=(rfl)
theorem run_rl:So.run (.rl xs t) = .ok (.l xs) t:=(rfl)
theorem run_ex:So.run (.ex c fs G t) = .ex c fs t:=(rfl)
theorem run_g {rs:List Rv} (h:argsG rs = some G):runM u n rs t = So.run (u (G ++ List.replicate (n - G.length) .un) t):=by
  unfold runM
  rw [h]
  show _ = So.run _
  cases e:u (G ++ List.replicate (n - G.length) .un) t <;> first | (simp only [e]; done) | (simp only [e]; rfl)
def Rv.gi:Rv → Sl
  | .d x=>.d x
  | .s=>.s
  | .a k=>.a k
  | _=>.un
theorem gi_d:Rv.gi (.d x) = .d x:=(rfl)
theorem gi_s:Rv.gi .s = .s:=(rfl)
theorem gi_a:Rv.gi (.a k) = .a k:=(rfl)
def argB:Rv → Bool
  | .d _=>true
  | .s=>true
  | .a _=>true
  | _=>false
def Gm.fill:List Rv → Nat → Gm
  | r :: rs,n + 1=>r.gi :: Gm.fill rs n
  | _,0=>[]
  | [],n + 1=>.un :: Gm.fill [] n
theorem fill_nil:∀ n,Gm.fill [] n = List.replicate n .un
  | 0=>rfl
  | n + 1=>by rw [List.replicate_succ,← fill_nil n]; rfl
theorem fill_ok:∀ {rs:List Rv} {n:Nat},rs.all argB = true → rs.length ≤ n → ∃ G,argsG rs = some G ∧ G ++ List.replicate (n - G.length) .un = Gm.fill rs n
  | [],n,_,_=>⟨[],rfl,by rw [fill_nil]; rfl⟩
  | r :: rs,0,_,h=>absurd h (Nat.not_succ_le_zero _)
  | r :: rs,n + 1,h,hl=>by
    simp only [List.all_cons,Bool.and_eq_true] at h
    obtain ⟨G,h1,h2⟩:=fill_ok (rs:=rs) (n:=n) h.2 (Nat.le_of_succ_le_succ hl)
    refine ⟨r.gi :: G,?_,?_⟩
    · unfold argsG
      rw [h1]
      cases r with
      | d x=>rfl
      | s=>rfl
      | a k=>rfl
      | l xs=>cases h.1
      | b xs=>cases h.1
    · show r.gi :: (G ++ List.replicate (n + 1 - (G.length + 1)) .un) = r.gi :: Gm.fill rs n
      rw [← h2,Nat.add_sub_add_right]
theorem ap_run {rs:List Rv} (h:rs.all argB = true) (hl:rs.length ≤ n):runM u n rs t = So.run (u (Gm.fill rs n) t):=by
  obtain ⟨G,h1,h2⟩:=fill_ok h hl
  rw [run_g h1,h2]
theorem ru_0:runM u n [] t = So.run (u (Gm.fill [] n) t):=ap_run rfl (Nat.zero_le _)
theorem ru_1:runM u (n + 1) [.d x] t = So.run (u (Gm.fill [.d x] (n + 1)) t):=ap_run rfl (Nat.le_add_left _ _)
theorem ru_2:runM u (n + 2) [.d x,.d y] t = So.run (u (Gm.fill [.d x,.d y] (n + 2)) t):=ap_run rfl (Nat.le_add_left _ _)
theorem ru_3:runM u (n + 3) [.d x,.d y,.d z] t = So.run (u (Gm.fill [.d x,.d y,.d z] (n + 3)) t):=ap_run rfl (Nat.le_add_left _ _)
theorem ru_4 {w:D}:runM u (n + 4) [.d x,.d y,.d z,.d w] t = So.run (u (Gm.fill [.d x,.d y,.d z,.d w] (n + 4)) t):=ap_run rfl (Nat.le_add_left _ _)
theorem ru_5 {w w':D}:runM u (n + 5) [.d x,.d y,.d z,.d w,.d w'] t = So.run (u (Gm.fill [.d x,.d y,.d z,.d w,.d w'] (n + 5)) t):=ap_run rfl (Nat.le_add_left _ _)
theorem ru_s:runM u (n + 1) [.s] t = So.run (u (Gm.fill [.s] (n + 1)) t):=ap_run rfl (Nat.le_add_left _ _)
theorem ru_s1:runM u (n + 2) [.s,.d x] t = So.run (u (Gm.fill [.s,.d x] (n + 2)) t):=ap_run rfl (Nat.le_add_left _ _)
theorem ru_s2:runM u (n + 3) [.s,.d x,.d y] t = So.run (u (Gm.fill [.s,.d x,.d y] (n + 3)) t):=ap_run rfl (Nat.le_add_left _ _)
theorem ru_s3:runM u (n + 4) [.s,.d x,.d y,.d z] t = So.run (u (Gm.fill [.s,.d x,.d y,.d z] (n + 4)) t):=ap_run rfl (Nat.le_add_left _ _)
theorem ru_2a:runM u (n + 3) [.d x,.d y,.a k] t = So.run (u (Gm.fill [.d x,.d y,.a k] (n + 3)) t):=ap_run rfl (Nat.le_add_left _ _)
theorem ru_3a:runM u (n + 4) [.d x,.d y,.d z,.a k] t = So.run (u (Gm.fill [.d x,.d y,.d z,.a k] (n + 4)) t):=ap_run rfl (Nat.le_add_left _ _)
theorem fi_s:Gm.fill (r :: rs) (n + 1) = r.gi :: Gm.fill rs n:=(rfl)
theorem fi_n:Gm.fill [] (n + 1) = .un :: Gm.fill [] n:=(rfl)
theorem fi_0:Gm.fill rs 0 = []:=by cases rs <;> rfl
end
theorem toNat_inj {a b:Char} (h:a.toNat = b.toNat):a = b:=Char.toNat_inj.mp h
theorem ofs_eq {a b:String}:(Str.ofString a = Str.ofString b) = (a = b):=by
  refine propext ⟨fun h=>?_,fun h=>by rw [h]⟩
  rw [Str.ofString_eq_toList,Str.ofString_eq_toList] at h
  have h1:(a.toList.map Char.toNat).toArray = (b.toList.map Char.toNat).toArray:=by
    injection h
  have h2:a.toList.map Char.toNat = b.toList.map Char.toNat:=by
    have:=congrArg Array.toList h1
    simpa using this
  have h3:a.toList = b.toList:=by
    have key:∀ (l m:List Char),l.map Char.toNat = m.map Char.toNat → l = m:=by
      intro l
      induction l with
      | nil=>intro m h; cases m with
        | nil=>rfl
        | cons _ _=>cases h
      | cons x xs ih=>intro m h; cases m with
        | nil=>cases h
        | cons y ys =>
          simp only [List.map_cons,List.cons.injEq] at h
          rw [toNat_inj h.1,ih ys h.2]
    exact key _ _ h2
  exact String.toList_inj.mp h3
theorem ofs_ok (s:String):PyData.strOk (Str.ofString s) = true:=by
  rw [Str.ofString_eq_toList]
  unfold PyData.strOk
  simp only [List.all_toArray,List.all_map,List.all_eq_true,Function.comp,decide_eq_true_eq]
  intro c _
  have:=c.valid
  have h:c.toNat.isValidChar:=c.valid
  unfold Nat.isValidChar at h
  omega
theorem lay_ofs (ws:List String):PyData.canLayAll0 (ws.map fun w=>.str (Str.ofString w)) = true ∧ PyData.depthAll (ws.map fun w=>PyData.str (Str.ofString w)) = 0:=by
  induction ws with
  | nil=>exact ⟨rfl,rfl⟩
  | cons w ws ih =>
    simp only [List.map_cons,PyData.canLayAll0,PyData.canLay0,PyData.depthAll,PyData.depth,ofs_ok,ih.1,ih.2]
    exact ⟨rfl,rfl⟩
theorem gin_s (w:String) (ws:List String):gIn (.str (Str.ofString w)) (.tuple (ws.map fun z=>.str (Str.ofString z))) = some (ws.any fun z=>decide (z = w)):=by
  have s1:SeqAt.shaped (.str (Str.ofString w)) = true:=by simp [SeqAt.shaped,PyData.canLay0,PyData.depth,ofs_ok]
  have s2:SeqAt.shaped (.list (ws.map fun z=>.str (Str.ofString z))) = true:=by simp [SeqAt.shaped,PyData.canLay0,PyData.depth,lay_ofs ws]
  have e:(ws.map fun z=>PyData.str (Str.ofString z)).any (fun z=>PyData.eqv z (.str (Str.ofString w))) = ws.any fun z=>decide (z = w):=by
    rw [List.any_map]
    congr 1
    funext z
    show (Str.ofString z == Str.ofString w) = _
    by_cases h:z = w
    · subst h; simp
    · rw [decide_eq_false h]
      exact beq_eq_false_iff_ne.mpr fun c=>h (by rw [ofs_eq] at c; exact c)
  show (if SeqAt.shaped (.str (Str.ofString w)) && SeqAt.shaped (.list (ws.map fun z=>.str (Str.ofString z))) then some ((ws.map fun z=>PyData.str (Str.ofString z)).any fun z=>PyData.eqv z (.str (Str.ofString w))) else none) = _
  rw [s1,s2,e]
  rfl
theorem fin_s (w:String) (ws:List String):fIn (.d (.str (Str.ofString w))) (.d (.tuple (ws.map fun z=>.str (Str.ofString z)))) = some (.d (.bool (ws.any fun z=>decide (z = w)))):=by
  show ((gIn _ _).map PyData.bool).map Rv.d = _
  rw [gin_s]
  rfl
theorem fnin_s (w:String) (ws:List String):fNotIn (.d (.str (Str.ofString w))) (.d (.tuple (ws.map fun z=>.str (Str.ofString z)))) = some (.d (.bool (!ws.any fun z=>decide (z = w)))):=by
  show (((gIn _ _).map not).map PyData.bool).map Rv.d = _
  rw [gin_s]
  rfl
theorem in_1 {w a:String}:fIn (.d (.str (Str.ofString w))) (.d (.tuple [.str (Str.ofString a)])) = some (.d (.bool (decide (a = w)))):=by
  rw [show decide (a = w) = ([a].any fun z=>decide (z = w)) by simp]
  exact fin_s w [a]
theorem in_2 {w a b:String}:fIn (.d (.str (Str.ofString w))) (.d (.tuple [.str (Str.ofString a),.str (Str.ofString b)])) = some (.d (.bool (decide (a = w) || decide (b = w)))):=by
  rw [show (decide (a = w) || decide (b = w)) = ([a,b].any fun z=>decide (z = w)) by simp]
  exact fin_s w [a,b]
theorem in_3 {w a b c:String}:fIn (.d (.str (Str.ofString w))) (.d (.tuple [.str (Str.ofString a),.str (Str.ofString b),.str (Str.ofString c)])) = some (.d (.bool (decide (a = w) || (decide (b = w) || decide (c = w))))):=by
  rw [show (decide (a = w) || (decide (b = w) || decide (c = w))) = ([a,b,c].any fun z=>decide (z = w)) by simp]
  exact fin_s w [a,b,c]
theorem in_4 {w a b c d:String}:fIn (.d (.str (Str.ofString w))) (.d (.tuple [.str (Str.ofString a),.str (Str.ofString b),.str (Str.ofString c),.str (Str.ofString d)])) = some (.d (.bool (decide (a = w) || (decide (b = w) || (decide (c = w) || decide (d = w)))))):=by
  rw [show (decide (a = w) || (decide (b = w) || (decide (c = w) || decide (d = w)))) = ([a,b,c,d].any fun z=>decide (z = w)) by simp]
  exact fin_s w [a,b,c,d]
theorem nin_6 {w a b c d e f:String}:fNotIn (.d (.str (Str.ofString w))) (.d (.tuple [.str (Str.ofString a),.str (Str.ofString b),.str (Str.ofString c),.str (Str.ofString d),.str (Str.ofString e),.str (Str.ofString f)])) = some (.d (.bool (!(decide (a = w) || (decide (b = w) || (decide (c = w) || (decide (d = w) || (decide (e = w) || decide (f = w))))))))):=by
  rw [show (decide (a = w) || (decide (b = w) || (decide (c = w) || (decide (d = w) || (decide (e = w) || decide (f = w)))))) = ([a,b,c,d,e,f].any fun z=>decide (z = w)) by simp]
  exact fnin_s w [a,b,c,d,e,f]
theorem or_tb {b:Bool}:(true || b) = true:=(rfl)
theorem or_fb {b:Bool}:(false || b) = b:=(rfl)
theorem an_tb {b:Bool}:(true && b) = b:=(rfl)
theorem an_fb {b:Bool}:(false && b) = false:=(rfl)
def Sl.ac:Option Sl → Option DS → Rs Rv
  | some (.c th),t=>th t
  | _,_=>.stuck
theorem ap_act {i:Nat} {G:Gm} {t:Option DS}:mAct i G t = Sl.ac G[i]? t:=by
  unfold mAct Sl.ac
  cases G[i]? with
  | none=>rfl
  | some x=>cases x <;> rfl
theorem ac_c {th:Th} {t:Option DS}:Sl.ac (some (.c th)) t = th t:=(rfl)
section
variable {G G1:Gm} {t:Option DS} {x y z:D} {xs:List D} {c:Str} {fs:List (Str × D)} {pt:Pt} {u:SM} {i j k:Nat}
def So.ln:So → Pt → SM → List D → So
  | .nx G t,pt,u,xs=>loop pt u xs G t
  | .ct G t,pt,u,xs=>loop pt u xs G t
  | .bk G t,_,_,_=>.nx G t
  | .rt x t,_,_,_=>.rt x t
  | .rl x t,_,_,_=>.rl x t
  | .ra x t,_,_,_=>.ra x t
  | .ex c fs G t,_,_,_=>.ex c fs G t
  | .stuck,_,_,_=>.stuck
def Gm.lp:Option Gm → Pt → SM → List D → Option DS → So
  | none,_,_,_,_=>.stuck
  | some G,pt,u,xs,t=>So.ln (u G t) pt u xs
theorem lp_nil:loop pt u [] G t = .nx G t:=(rfl)
theorem lp_cons:loop pt u (x :: xs) G t = Gm.lp (asg pt x G) pt u xs t:=by
  unfold Gm.lp
  show (match asg pt x G with | none=>So.stuck | some G1=>_) = _
  cases asg pt x G with
  | none=>rfl
  | some G1 =>
    show (match u G1 t with | .nx G2 t2=>loop pt u xs G2 t2 | .ct G2 t2=>loop pt u xs G2 t2 | .bk G2 t2=>.nx G2 t2 | o=>o) = So.ln (u G1 t) pt u xs
    cases u G1 t <;> rfl
theorem lp_some:Gm.lp (some G) pt u xs t = So.ln (u G t) pt u xs:=(rfl)
theorem ln_nx:So.ln (.nx G t) pt u xs = loop pt u xs G t:=(rfl)
theorem ln_ct:So.ln (.ct G t) pt u xs = loop pt u xs G t:=(rfl)
theorem ln_bk:So.ln (.bk G t) pt u xs = .nx G t:=(rfl)
theorem ln_rt:So.ln (.rt x t) pt u xs = .rt x t:=(rfl)
theorem ln_rl {ys:List D}:So.ln (.rl ys t) pt u xs = .rl ys t:=(rfl)
theorem ln_ex:So.ln (.ex c fs G t) pt u xs = .ex c fs G t:=(rfl)
theorem asg_1:asg (.nm i) x G = if ltG i G = true then some (G.set i (.d x)) else none:=by
  show (if i < G.length then some (G.set i (.d x)) else none) = _
  simp only [ltG_iff]
theorem asg_2:asg (.tup [i,j]) (.tuple [x,y]) G = if (ltG i G && ltG j G) = true then some ((G.set i (.d x)).set j (.d y)) else none:=by
  show (if i < G.length then (if j < (G.set i (.d x)).length then some ((G.set i (.d x)).set j (.d y)) else none) else none) = _
  simp only [List.length_set,Bool.and_eq_true,ltG_iff]
  split <;> split <;> simp_all
def Rs.sl0 (r:Rs Rv) (lo hi:Option EM) (G:Gm):Rs Rv:=r.fz.bind fun r t=>(mPart lo G t).bind fun l t=>(mPart hi G t).bind fun h t=>.of (fSl r l h) t
def Rs.sl1 (r:Rs (Option Int)) (hi:Option EM) (G:Gm) (x:Rv):Rs Rv:=r.bind fun l t=>(mPart hi G t).bind fun h t=>.of (fSl x l h) t
def Rs.sl2 (r:Rs (Option Int)) (x:Rv) (l:Option Int):Rs Rv:=r.bind fun h t=>.of (fSl x l h) t
def Rs.pI (r:Rs Rv):Rs (Option Int):=r.fz.bind partI
section
variable {r:Rv} {a:EM} {lo hi:Option EM} {l h:Option Int}
theorem ap_sl:mSl a lo hi G t = Rs.sl0 (a G t) lo hi G:=(rfl)
theorem sl0_ok:Rs.sl0 (.ok r t) lo hi G = Rs.sl1 (mPart lo G t) hi G r.fz:=(rfl)
theorem sl1_ok:Rs.sl1 (.ok l t) hi G r = Rs.sl2 (mPart hi G t) r l:=(rfl)
theorem sl2_ok:Rs.sl2 (.ok h t) r l = .of (fSl r l h) t:=(rfl)
theorem ap_partn:mPart none G t = .ok none t:=(rfl)
theorem ap_parts:mPart (some a) G t = Rs.pI (a G t):=(rfl)
theorem pI_ok {i:Int}:Rs.pI (.ok (.d (.int i)) t) = .ok (some i) t:=(rfl)
end
end
section
variable [Tbs] {X:Cx} {P:Pm} {k:Nat} {a:Expr} {ma:EM} {p p2 pos pos2:Pos}
def lrOk (j:Int):Bool:=rngOk j && decide (j ≤ 16777216)
def mListR1 (m:EM):EM:=fun G t=>(m G t).fz.bind fun r t=>match r with
  | .d (.int j)=>if lrOk j then .ok (.l (rangeD 0 j.toNat)) t else .stuck
  | _=>.stuck
theorem dp_rg {K:PySem.W.Frag} {F:Hp} (n:Int):DpAll K F (rgV 0 n) (rangeD 0 n.toNat):=by
  have e:=dp_ints (K:=K) (H:=F) ((List.range n.toNat).map fun i:Nat=>(0:Int) + (i:Int))
  rw [List.map_map,List.map_map] at e
  unfold rgV rangeD
  rw [Int.sub_zero]
  exact e
theorem se_listR1 (hc:X.calm = true) (hl:X.mg "list" = none) (hr:X.mg "range" = none) (gl:Gl X "list") (gr:Gl X "range") (ha:SE X P a ma) (na:starEach [a] X.env = (false,eval a X.env) :: starEach [] X.env)
    (na2:starEach [(.Call (.Name "range" p2) [a] [] pos2:Expr)] X.env = (false,eval (.Call (.Name "range" p2) [a] [] pos2) X.env) :: starEach [] X.env):SE X P (.Call (.Name "list" p) [.Call (.Name "range" p2) [a] [] pos2] [] pos) (mListR1 ma):=by
  refine L2.PE.imp (pe_listRg hc gl hl (prg_1 gr hr ha.fz na) na2) fun σ H Q ⟨As,F,G,t,R,pp⟩=>⟨As,F,G,t,R,bindEE R pp fun As1 F1 H1 v1 r1 t1 er g1 R1 x1 p1=>?_⟩
  split at p1
  · rename_i j
    split at p1
    · rename_i hj
      cases x1
      unfold lrOk at hj
      rw [Bool.and_eq_true,decide_eq_true_eq] at hj
      obtain ⟨b1,b2⟩:=rngOk_of hj.1
      refine ⟨j,rfl,⟨by omega,by omega,by omega,by omega,by omega⟩,fun q n=>?_⟩
      obtain ⟨⟨g,s⟩,_⟩:=alloc (o:=.lst (rgV 0 j)) R1.st R1.sub n
      exact p1 As1 _ _ _ g s ⟨q,rgV 0 j,rfl,fun z=>R1.st.ok.there q z n,R1.sub.free n,upd_same,dp_rg j⟩ ⟨q,rfl,n⟩
    · exact p1.elim
  · exact p1.elim
theorem x_listR1 (c:Ct X P k) (hl:X.mg "list" = none) (hr:X.mg "range" = none) (ha:SE X P a ma) (gl:Gl X "list" := by rfl) (gr:Gl X "range" := by rfl) (na:starEach [a] X.env = (false,eval a X.env) :: starEach [] X.env:=by rfl)
    (na2:starEach [(.Call (.Name "range" p2) [a] [] pos2:Expr)] X.env = (false,eval (.Call (.Name "range" p2) [a] [] pos2) X.env) :: starEach [] X.env:=by rfl):SE X P (.Call (.Name "list" p) [.Call (.Name "range" p2) [a] [] pos2] [] pos) (mListR1 ma):=se_listR1 c.cm hl hr gl gr ha na na2
def Rs.lr (r:Rs Rv):Rs Rv:=r.fz.bind fun r t=>match r with
  | .d (.int j)=>if lrOk j then .ok (.l (rangeD 0 j.toNat)) t else .stuck
  | _=>.stuck
omit [Tbs] in theorem ap_listR {G:Gm} {t:Option DS}:mListR1 ma G t = Rs.lr (ma G t):=(rfl)
omit [Tbs] in theorem lr_ok {j:Int} {t:Option DS}:Rs.lr (.ok (.d (.int j)) t) = if lrOk j = true then .ok (.l (rangeD 0 j.toNat)) t else .stuck:=(rfl)
end
end DL
end
section
namespace DL
open PySem PySem.Spec PyProof.Rows L2
variable [Tbs]
set_option maxHeartbeats 4000000 in
omit [Tbs] in
theorem meets_enumB1 {v:Value} {o:Obj} {H:Heap → Prop} (B:Begins v o H) :
    Meets (Builtin.«enumerate.__new__» ⟨[.type "enumerate",v],[]⟩) (fun _ R s=>H s.heap ∧
      R (.ok (.ret (.ref (s.heap.push o).objs.size))) { s with heap:=(s.heap.push o).push { cls:=.type "enumerate",data:=.fields #[.none,.bool false,.ref s.heap.objs.size,rawInt 0,.none,.none] } }):=
  .of_wp fun prog w A R s h=>by
    obtain ⟨hp,g,d,tk,os⟩:=s; obtain ⟨h1,h⟩:=h
    have hsub:=sub_enumerate
    have q1:∀ {A':Around} {E:Value → Shared → Prop} {Q:Value → Shared → Prop},Q (.ref hp.objs.size) ⟨hp.push o,g,d,tk,os⟩ → wpAny (model prog w) A' (pyIter v) Q E ⟨hp,g,d,tk,os⟩:=
      fun q=>B.iter prog w _ _ ⟨hp,g,d,tk,os⟩ _ h1 q
    wp_walk using q1
    refine wpAny_stack_any fun st=>wpAny_pure ?_
    split
    · rename_i c _ _ _ _ _
      cases (c == Value.type "enumerate")
      · wp_walk using q1
        exact ⟨_,rfl,h⟩
      · wp_walk using q1
        exact ⟨_,rfl,h⟩
    · wp_walk using q1
      exact ⟨_,rfl,h⟩
omit [Tbs] in
theorem enum_begins1 {prog:Program} {w:World} {A:Around} {E:Value → Shared → Prop} {s:Shared} {v:Value} {o:Obj} {H:Heap → Prop} {Q:Value → Shared → Prop} (B:Begins v o H) (h1:H s.heap)
    (h:∀ h',IsEnum h' (s.heap.objs.size + 1) s.heap.objs.size 0 .none → h'.get? s.heap.objs.size = some o → h'.objs.size = s.heap.objs.size + 2 →
      (∀ b o,s.heap.get? b = some o → h'.get? b = some o) → Q (.ref (s.heap.objs.size + 1)) { s with heap:=h' }) :
    wpAny (model prog w) A (call (.type "enumerate") [v]) Q E s:=by
  refine callType_new F.called_enumerate (by decide) (F.typeCall_enumerate_1 _) (F.newCall_enumerate_1 _) (fun obj=>F.args_object_init_2 obj _) F.entry_enumerate_new
    (meets_enumB1 B) ⟨h1,?_⟩
  have hz:(s.heap.push o).objs.size = s.heap.objs.size + 1:=Heap.size_push ..
  show _ ∧ _
  rw [hz]
  have he:IsEnum ((s.heap.push o).push { cls:=.type "enumerate",data:=.fields #[.none,.bool false,.ref s.heap.objs.size,rawInt 0,.none,.none] }) (s.heap.objs.size + 1) s.heap.objs.size 0 .none:=by
    have:=Heap.get?_push_size (s.heap.push o) (o:={ cls:=.type "enumerate",data:=.fields #[.none,.bool false,.ref s.heap.objs.size,rawInt 0,.none,.none] }) rfl
    rw [hz] at this; exact this
  refine ⟨⟨_,he,rfl⟩,h _ he (Heap.get?_push_of_some _ (Heap.get?_push_size _ B.free)) (by rw [Heap.size_push,hz]) fun b o x=>Heap.get?_push_of_some _ (Heap.get?_push_of_some _ x)⟩
theorem turn_enumM {P:Program} {w:World} {K:PySem.W.Frag} {elts:List Expr} {kk:Nat} {tpos:Pos} {k:Bool} {a e it:Addr} (ne:e ≠ it) (na:e ≠ a) :
    Turn P w K (.Tuple elts kk tpos) (IteM K k a) [e,it] e (fun i h=>(∃ old,IsEnum h e it ((i:Nat):Int) old) ∧ ItK h k it a i) where
  mem:=List.mem_cons_self
  obj:=fun i h ⟨⟨old,he⟩,hi⟩ b hb=>by
    simp only [List.mem_cons,List.not_mem_nil,or_false] at hb
    rcases hb with q | q <;> subst q
    · exact ⟨_,he,fun v q=>nomatch q⟩
    · exact hi.obj
  keep:=fun i h h' ⟨⟨old,he⟩,hi⟩ q=>⟨⟨old,q e (by simp) _ he⟩,hi.at (q it (by simp))⟩
  item:=by
    rintro X rfl rfl rfl hc i pins s σ H E I hf ⟨⟨old,he⟩,hit⟩ ⟨xs,x,qx,hx⟩
    obtain ⟨us,rv,p1,_⟩:=Inv.sq I qx
    have hh:X.A.in1.handled = none:=I.ok.hd hc
    have n1:a ≠ it:=apartK hit p1
    obtain ⟨ux,hux,rx⟩:=rv.get hx
    have hel:e < s.heap.objs.size:=Heap.lt_size he
    have hil:it < s.heap.objs.size:=by obtain ⟨_,q,_⟩:=hit.obj; exact Heap.lt_size q
    have lt1:i < us.toArray.size:=by
      have:=(List.getElem?_eq_some_iff.mp hx).1
      rw [List.size_toArray,← rv.length]; exact this
    refine wpAny_pyNext_enum_itemD (drawsK (prog:=X.prog) (w:=X.w) hh k it a n1 us.toArray) he ⟨hit,p1⟩ lt1 ne (by simp [ne,na]) fun u1 h' tk q1 ho st1 hT hsz hk=>?_
    have e1:u1 = ux:=by
      have q1':us[i]? = some u1:=by simpa using q1
      rw [hux] at q1'; exact (Option.some.inj q1').symm
    subst e1
    refine ⟨_,rfl,wpAny_letOwnedTupleGo_enum (s:={ s with heap:=h',toks:=tk + 1 }) ho fun h'' he' sb=>?_⟩
    have hT2:h''.get? s.heap.objs.size = some { cls:=.type "tuple",data:=.seq #[.int i tk,u1] }:=(sb.2 _ (Nat.ne_of_gt hel)).trans hT
    have new:ObjOk X.prog X.w (upd H s.heap.objs.size (.frz { cls:=.type "tuple",data:=.seq #[.int i tk,u1] } (.tup [.int (i:Nat),x]))) h'' s.heap.objs.size (.frz { cls:=.type "tuple",data:=.seq #[.int i tk,u1] } (.tup [.int (i:Nat),x])):=
      ⟨hT2,by show 2 ≤ sizeLine; decide,[.int i tk,u1],.cons ⟨_,rfl⟩ (.cons rx .nil),⟨_,hT2,rfl,_,rfl⟩⟩
    have I1:L2.Inv X pins σ (upd H s.heap.objs.size (.frz { cls:=.type "tuple",data:=.seq #[.int i tk,u1] } (.tup [.int (i:Nat),x]))) { s with heap:=h'',toks:=tk + 1 }:=
      I.turnedNew (ch:=[e,it]) (fun b ob hb q=>(sb.2 b (fun z=>hb (by simp [z]))).trans (hk b ob (fun z=>hb (by simp [z])) (fun z=>hb (by simp [z])) q)) hf (Nat.le_refl _) new
    refine ⟨.ref s.heap.objs.size,_,I1,rfl,⟨_,x,_,rfl,I.hok.fresh (Nat.le_refl _),rfl,rfl,fun ys hy=>by rw [Inv.sq_inj I hy qx]; exact hx⟩,⟨⟨u1,?_⟩,st1.1.at fun o q=>(sb.2 it (Ne.symm ne)).trans q⟩,fun b hb=>?_⟩
    · have e1:((i + 1:Nat):Int) = (i:Int) + 1:=by omega
      rw [e1]; exact he'
    · have hb':b < s.heap.objs.size:=by
        have e':b = e ∨ b = it:=by simpa using hb
        rcases e' with z | z
        · rw [z]; exact hel
        · rw [z]; exact hil
      rw [upd_ne (Nat.ne_of_lt hb')]
      exact (hf b hb).1
  done:=by
    rintro X rfl rfl rfl hc i pins s σ H E I hf ⟨⟨old,he⟩,hit⟩ ⟨xs,qx,hend⟩
    obtain ⟨us,rv,p1,_⟩:=Inv.sq I qx
    have hh:X.A.in1.handled = none:=I.ok.hd hc
    have n1:a ≠ it:=apartK hit p1
    have l1:=rv.length
    have ei:i = us.toArray.size:=by rw [List.size_toArray]; omega
    subst ei
    exact wpAny_pyNext_enum_endD (drawsK hh k it a n1 us.toArray) he ⟨hit,p1⟩ fun h' eb=>⟨rfl,I.turnedL (ch:=[e,it]) (fun c o hb q=>eb c o (fun z=>hb (by simp [z])) q) hf⟩
  self:=fun A i s Q E st h=>let ⟨⟨_,he⟩,_⟩:=st; wpAny_pyIter_enum he h
def iEnumM (K:PySem.W.Frag) (ta:TA):TI:=fun σ H R=>ta σ H fun vs H1=>∃ k a xs,vs = [.ref a] ∧ SqK K H1 k a xs ∧ R (IteM K k a) H1
theorem pi_enumM {X:Cx} {e:Expr} {ta:TA} {p pos tpos:Pos} {elts:List Expr} {kk:Nat} (hg:Gl X "enumerate") (hm:X.mg "enumerate" = none) (ha:PA X [e] ta) (hs:starEach [e] X.env = [(false,eval e X.env)]) :
    PI X (.Tuple elts kk tpos) (.Call (.Name "enumerate" p) [e] [] pos) (iEnumM X.K ta):=by
  refine ⟨fun pins s σ H R I h=>?_⟩
  refine Call_ (ld_blt I hg hm boot_enumerate (PyProof.Rows.callWith_type1 (thn (ha.run pos pins s σ H _ I h) fun us s1 ⟨vs,H1,I1,r1,q1⟩=>?_) hs rfl))
  obtain ⟨k,a,xs,ex,hq,q⟩:=q1
  subst ex
  cases r1 with
  | cons r rr =>
    cases rr
    cases r
    obtain ⟨its,rv,p',hz⟩:=Inv.sq I1 hq
    have la:=SqK.lt I1 hq
    refine enum_begins1 (beginsK k a its.toArray) p' fun h' he hit hsz hk=>wpAny_pyIter_enum he ?_
    refine ⟨s1.heap.objs.size + 1,[s1.heap.objs.size + 1,s1.heap.objs.size],_,_,H1,rfl,I1.kept (t':=s1.toks) hk,turn_enumM (k:=k) (a:=a) (Nat.succ_ne_self _) (Nat.ne_of_gt (Nat.lt_succ_of_lt la)),⟨⟨.none,he⟩,itK_new hit⟩,fun b hb=>?_,q⟩
    have e':b = s1.heap.objs.size + 1 ∨ b = s1.heap.objs.size:=by simpa using hb
    have hle:s1.heap.objs.size ≤ b:=by
      rcases e' with z | z
      · rw [z]; exact Nat.le_add_right _ _
      · rw [z]; exact Nat.le_refl _
    exact I1.fpOk hle (I1.hok.fresh hle)
def enumD:Nat → List D → List D
  | _,[]=>[]
  | n,x :: xs=>.tuple [.int (n:Nat),x] :: enumD (n + 1) xs
omit [Tbs] in
theorem enumD_get:∀ {n:Nat} {xs:List D} {i:Nat} {d:D},(enumD n xs)[i]? = some d → ∃ x,xs[i]? = some x ∧ d = .tuple [.int ((n + i:Nat):Int),x]
  | n,[],i,d,h=>by simp [enumD] at h
  | n,x :: xs,0,d,h=>⟨x,rfl,by simpa [enumD] using h.symm⟩
  | n,x :: xs,i + 1,d,h=>by
    obtain ⟨y,e1,e2⟩:=enumD_get (n:=n + 1) (xs:=xs) (i:=i) (d:=d) (by simpa [enumD] using h)
    refine ⟨y,by simpa using e1,?_⟩
    rw [e2,show n + 1 + i = n + (i + 1) by omega]
omit [Tbs] in
theorem enumD_length:∀ (n:Nat) (xs:List D),(enumD n xs).length = xs.length
  | _,[]=>rfl
  | n,x :: xs=>by simp [enumD,enumD_length (n + 1) xs]
theorem walks_enum {K:PySem.W.Frag} {k:Bool} {a:Addr} {vs:List V} {ds:List D} {F:Hp} (h:SqK K F k a vs) (ha:DpAll K F vs ds):Walks K (IteM K k a) (enumD 0 ds) F:=by
  intro F2 H2 As t k1 k2 s i
  have q1:SqK K H2 k a vs:=h.mono (k1.trans k2)
  refine ⟨fun d e=>?_,fun e=>⟨vs,q1,?_⟩⟩
  · obtain ⟨x,e1,rfl⟩:=enumD_get e
    obtain ⟨v,e3,hd⟩:=ha.get e1
    refine ⟨⟨vs,v,q1,e3⟩,fun z H3 yy=>?_⟩
    obtain ⟨T,x1,o,rfl,n,ho,rfl,f1⟩:=yy
    have z1:=f1 vs q1
    rw [e3] at z1; cases z1
    obtain ⟨g,s'⟩:=alloc_tup (vs:=[.int (i:Nat),v]) s k2 n ho
    refine ⟨_,g,s',Dp.tup sqN (.cons ?_ (.cons (Dp.mono (k1.trans g.ff) _ _ hd) .nil))⟩
    rw [Nat.zero_add]
    exact .int _
  · rw [enumD_length] at e
    rw [ha.length]
    exact e
def mEnum (m:EM):IM:=fun G t=>(m G t).fz.bind fun r t=>.of (r.seq.map (enumD 0)) t
section
variable {X:Cx} {P:Pm} {e:Expr} {m:EM} {pos p:Pos}
theorem si_enum {elts:List Expr} {kk:Nat} {tpos:Pos} (hK:P.K = X.K) (hg:Gl X "enumerate") (hm:X.mg "enumerate" = none) (ha:SE X P e m) (hs:starEach [e] X.env = [(false,eval e X.env)]) :
    SI X P (.Tuple elts kk tpos) (.Call (.Name "enumerate" p) [e] [] pos) (mEnum m):=by
  refine L2.PI.imp (pi_enumM hg hm (pa_cons ha.fz pa_nil hs) hs) fun σ H Q ⟨As,F,G,t,R,pp⟩=>⟨As,F,G,t,R,bindEI R pp fun As1 F1 H1 v1 r1 t1 er g1 R1 x1 p1=>?_⟩
  cases e1:r1.seq with
  | none=>rw [e1] at p1; exact p1.elim
  | some xs =>
    rw [e1] at p1
    obtain ⟨k,q,vs,rfl,hs',ha'⟩:=x1.seq e1
    rw [← hK]
    exact ⟨k,q,vs,rfl,hs'.mono R1.sub,p1 As1 F1 H1 _ (.refl R1.sub) R1.st (walks_enum hs' ha')⟩
theorem i_enum {k:Nat} (c:Ct X P k) {elts:List Expr} {kk:Nat} {tpos:Pos} (hm:X.mg "enumerate" = none) (ha:SE X P e m) (hg:Gl X "enumerate" := by rfl) (hs:starEach [e] X.env = [(false,eval e X.env)]:=by rfl) :
    SI X P (.Tuple elts kk tpos) (.Call (.Name "enumerate" p) [e] [] pos) (mEnum m):=si_enum c.hK hg hm ha hs
end
end DL
end
section
namespace DL
open PySem PySem.Spec PyProof.Rows L2
variable [Tbs]
def isT1:D → Bool
  | .tuple (_ :: _)=>true
  | _=>false
def notT:D → Bool
  | .tuple _=>false
  | .none=>false
  | _=>true
def sortOk (ds:List D):Bool:=decide (ds.length ≤ 16777216) && (ds.all fun d=>ds.all fun e=>PySem.W.alike d e) && (ds.all isT1 || ds.all notT) && ds.all fun d=>decide (d.depth ≤ 40)
def srtD (rev:Bool) (ds:List D):List D:=ds.mergeSort (PySem.W.dataLe rev id)
def RowD (K:PySem.W.Frag) (F:Hp) (v:Value) (d:D):Prop:=∃ x,RelV x v ∧ Dp K F x d
omit [Tbs] in
theorem rowsD {K:PySem.W.Frag} {F:Hp}:∀ {xs:List V} {us:List Value} {ds:List D},DpAll K F xs ds → Vals xs us → PySem.W.EachIs (RowD K F) us ds
  | [],us,ds,h,r=>by
    cases r; cases h; exact .nil
  | x :: xs,us,ds,h,r=>by
    cases h with
    | cons h1 h2 =>
      cases r with
      | cons r1 r2=>exact .cons ⟨x,r1,h1⟩ (rowsD h2 r2)
omit [Tbs] in
theorem outsD {K:PySem.W.Frag} {F:Hp}:∀ {us:List Value} {ds:List D},PySem.W.EachIs (RowD K F) us ds → ∃ ys,Vals ys us ∧ DpAll K F ys ds ∧ ys.length = ds.length
  | [],_,.nil=>⟨[],.nil,.nil,rfl⟩
  | u :: us,d :: ds,.cons h t=>by
    obtain ⟨x,r,hd⟩:=h
    obtain ⟨ys,rs,a,l⟩:=outsD t
    exact ⟨x :: ys,.cons r rs,.cons hd a,by simp [l]⟩
omit [Tbs] in
theorem sortOk_of {ds:List D} (h:sortOk ds = true):ds.length ≤ 16777216 ∧ PySem.W.AllAlike ds ∧ PySem.W.Sortable ds ∧ ∀ d ∈ ds,d.depth ≤ 40:=by
  unfold sortOk at h
  simp only [Bool.and_eq_true,decide_eq_true_eq,Bool.or_eq_true,List.all_eq_true] at h
  obtain ⟨⟨⟨h1,h2⟩,h3⟩,h4⟩:=h
  refine ⟨h1,fun d hd e he=>h2 d hd e he,?_,h4⟩
  rcases h3 with h3 | h3
  · refine .inl fun d hd=>?_
    have z:=h3 d hd
    unfold isT1 at z
    split at z
    · exact ⟨_,_,rfl⟩
    · cases z
  · refine .inr fun d hd=>?_
    have z:=h3 d hd
    refine ⟨fun q=>?_,fun xs q=>?_⟩ <;> · subst q; exact absurd z (by simp [notT])
def rSortD (K:PySem.W.Frag) (rev:Bool):List V → Hp → VK → Prop:=fun vs H Q=>∃ (F:Hp) (a:Addr) (xs:List V) (ds:List D),vs = [V.ref a] ∧ Same F H ∧ SqL K H a xs ∧ DpAll K F xs ds ∧ sortOk ds = true ∧
  ∀ ys p,DpAll K F ys (srtD rev ds) → H p = none → Q (.ref p) (upd H p (.lst ys))
theorem cr_sortD {X:Cx} (hu:X.A.units + 65 < cLine):CallR X (.builtin "sorted") (rSortD X.K false):=by
  intro pins s σ H vs us Q I r h
  obtain ⟨F,a,xs,ds,rfl,sF,hs,hd,ok,q⟩:=h
  obtain ⟨its,rv,hl,hz⟩:=I.list hs
  rw [Vals.ref1 r]
  obtain ⟨o1,o2,o3,o4⟩:=sortOk_of ok
  have e:=rowsD hd rv
  refine PySem.W.sorted_data (enc:=id) (R:=RowD X.K F) (bs:=ds) hl.isList e (e.mono fun v d ⟨x,rx,dx⟩=>Dp.reads I d x v (Dp.mono sF _ _ dx) rx) (by rw [List.map_id]; exact o2) (by rw [List.map_id]; exact o3) (by rw [sizeLine_eq]; exact o1) (fun d m=>?_) fun out lo eo=>?_
  · have:=o4 d m
    show X.A.units + 2 + d.depth < cLine
    omega
  · obtain ⟨ys,ry,dy,ly⟩:=outsD eo
    obtain ⟨cc,at_⟩:=sortedAll_at s.heap its (List.toArray out)
    refine ⟨.ref (s.heap.objs.size + 1),upd H (s.heap.objs.size + 1) (.lst ys),I.laid (t':=s.toks) (fun b o e=>sortedAll_old e) (Nat.le_succ _) (show ObjOk X.prog X.w _ _ _ (.lst ys) from ⟨?_,out,cc,ry,at_⟩),rfl,q ys _ dy (I.hok.fresh (Nat.le_succ _))⟩
    rw [ly,List.length_mergeSort,sizeLine_eq]
    exact o1
def fSort:List Rv → Option Rv:=fun xs=>match xs with
  | [x]=>x.items.bind fun ds=>if sortOk ds then some (.l (srtD false ds)) else none
  | _=>none
end DL
end
section
namespace DL
open PySem PySem.Spec PyProof.Rows L2
variable [Tbs]
def mMtl (f:List D → D → Option D) (ma mb:EM):EM:=fun G t=>(ma G t).fz.bind fun x t=>match x with
  | .d (.list xs)=>(mb G t).fz.bind fun y t=>match y with
    | .d d=>.of ((f xs d).map Rv.d) t
    | _=>.stuck
  | _=>.stuck
section
variable {X:Cx} {P:Pm} {a b:Expr} {ma mb:EM} {pos cpos apos:Pos}
/-- xs.remove(e), xs in slot i -/
def sRem (i:Nat) (m:EM):SM:=fun G t=>match G[i]? with
  | some (.l xs)=>(m G t).fz.bindS G fun r t=>match r with
    | .d x=>if SeqAt.shaped x && SeqAt.shaped (.list xs) then (match xs.findIdx? (fun z=>PyData.eqv z x) with
      | some j=>.nx (G.set i (.l (xs.eraseIdx j))) t
      | none=>.stuck) else .stuck
    | _=>.stuck
  | _=>.stuck
omit [Tbs] in
theorem DpAll.eraseIdx {K:PySem.W.Frag} {H:Hp}:∀ (n:Nat) {vs:List V} {ds:List PyData},DpAll K H vs ds → DpAll K H (vs.eraseIdx n) (ds.eraseIdx n)
  | _,[],_,h=>by cases h; simpa using DpAll.nil
  | 0,v :: vs,_,h=>by cases h with | cons h1 h2=>simpa using h2
  | n + 1,v :: vs,_,h=>by
    cases h with
    | cons h1 h2=>simpa using DpAll.cons h1 (DpAll.eraseIdx n h2)
end
end DL
end
section
namespace DL
open PySem PySem.Spec PyProof.Rows L2
section
variable [Tbs]
/-- x, y = a, b with lists of one's own -/
def sParL (i j:Nat) (a b:EM):SM:=fun G t=>(a G t).bindS G fun x t=>(b G t).bindS G fun y t=>match x.sl with
  | some s=>(match y.sl with
    | some u=>if i < G.length ∧ j < G.length then .nx ((G.set i s).set j u) t else .stuck
    | none=>.stuck)
  | none=>.stuck
section
variable {X:Cx} {P:Pm} {pos:Pos}
theorem ss_parL {i j:Nat} {x y:Str} {a b:Expr} {ma mb:EM} {px py pt:Pos} {kt k2 pt2} (hc:X.calm = true) (hN:X.N.Nodup) (hi:X.N[i]? = some x) (hj:X.N[j]? = some y) (hij:i ≠ j)
    (hx:X.env.scope.names.lookup x = some .local) (hy:X.env.scope.names.lookup y = some .local) (ha:SE X P a ma) (hb:SE X P b mb) (hs1:starEach [a,b] X.env = [(false,eval a X.env),(false,eval b X.env)]) (hs2:starEach [b] X.env = [(false,eval b X.env)])
    (hw:swappedStores [.Tuple [.Name x px,.Name y py] kt pt] (.Tuple [a,b] k2 pt2) X.env = pure (some [x,y])) (hs:swapsWithSole [.Tuple [.Name x px,.Name y py] kt pt] (.Tuple [a,b] k2 pt2) pos.line X.env = pure false) :
    SS X P (.Assign [.Tuple [.Name x px,.Name y py] kt pt] (.Tuple [a,b] k2 pt2) pos) (sParL i j ma mb):=
  L2.PS.imp (ps_par hc hN hi hj hij hx hy (pa_cons ha (pa_cons hb pa_nil hs2) (by rw [hs1,hs2])) hw hs) fun D σ H ⟨B,As,F,G,t,R,p⟩=>⟨As,F,G,t,R.rel,bindSE R p fun As1 F1 H1 v1 r1 t1 _ g R1 x1 fr p1=>⟨As1,F1,G,t1,R1.rel,bindSE R1 p1 fun As2 F2 H2 v2 r2 t2 _ g2 R2 x2 fr2 p2=>by
    cases e1:r1.sl with
    | none=>rw [e1] at p2; exact p2.elim
    | some s =>
      cases e2:r2.sl with
      | none=>rw [e1,e2] at p2; exact p2.elim
      | some u =>
        rw [e1,e2] at p2
        have p2:PostS P B F2 D (if i < G.length ∧ j < G.length then .nx ((G.set i s).set j u) t2 else .stuck):=p2
        by_cases hl:i < G.length ∧ j < G.length
        · rw [if_pos hl] at p2
          have Ra1:=R.put g R1 x1 fr e1 hl.1
          have Ra2:=R.put (g.trans g2) R2 (x1.mono g2) fr e1 hl.1
          have Rb:=Ra1.put g2 Ra2 x2 fr2 e2 (by simp; exact hl.2)
          exact ⟨v1,v2,rfl,p2 As2 F2 _ H2 Rb (Same.refl _)⟩
        · rw [if_neg hl] at p2; exact p2.elim⟩⟩
end
section
variable {X:Cx} {P:Pm} {k:Nat} (c:Ct X P k) {a b:Expr} {ma mb:EM} {pos:Pos}
include c
theorem s_parL (i j:Nat) {x y:Str} {px py pt:Pos} {kt k2 pt2} (hx:X.env.scope.names.lookup x = some .local) (hy:X.env.scope.names.lookup y = some .local) (ha:SE X P a ma) (hb:SE X P b mb) (hi:X.N[i]? = some x:=by rfl) (hj:X.N[j]? = some y:=by rfl) (hij:i ≠ j:=by decide)
    (hs1:starEach [a,b] X.env = [(false,eval a X.env),(false,eval b X.env)]:=by rfl) (hs2:starEach [b] X.env = [(false,eval b X.env)]:=by rfl)
    (hw:swappedStores [.Tuple [.Name x px,.Name y py] kt pt] (.Tuple [a,b] k2 pt2) X.env = pure (some [x,y]):=by rfl) (hs:swapsWithSole [.Tuple [.Name x px,.Name y py] kt pt] (.Tuple [a,b] k2 pt2) pos.line X.env = pure false:=by rfl) :
    SS X P (.Assign [.Tuple [.Name x px,.Name y py] kt pt] (.Tuple [a,b] k2 pt2) pos) (sParL i j ma mb):=ss_parL c.cm c.nd hi hj hij hx hy ha hb hs1 hs2 hw hs
end
end
section
variable {G:Gm} {t:Option DS} {a b m:EM} {i j:Nat} {x y r:Rv} {xs ys ds:List D} {d z:D} {s u:Sl} {f:List D → D → Option D} {c:Str} {fs:List (Str × D)}
def Rs.l1 (r:Rs Rv) (i j:Nat) (b:EM) (G:Gm):So:=r.bindS G fun x t=>(b G t).bindS G fun y t=>match x.sl with
  | some s=>(match y.sl with
    | some u=>if i < G.length ∧ j < G.length then .nx ((G.set i s).set j u) t else .stuck
    | none=>.stuck)
  | none=>.stuck
def Rs.l2 (r:Rs Rv) (i j:Nat) (x:Rv) (G:Gm):So:=r.bindS G fun y t=>match x.sl with
  | some s=>(match y.sl with
    | some u=>if i < G.length ∧ j < G.length then .nx ((G.set i s).set j u) t else .stuck
    | none=>.stuck)
  | none=>.stuck
theorem ap_parL:sParL i j a b G t = Rs.l1 (a G t) i j b G:=(rfl)
theorem pl1_ok:Rs.l1 (.ok r t) i j b G = Rs.l2 (b G t) i j r G:=(rfl)
theorem pl1_ex:Rs.l1 (.ex c fs t) i j b G = .ex c fs G t:=(rfl)
theorem pl2_ex:Rs.l2 (.ex c fs t) i j r G = .ex c fs G t:=(rfl)
theorem pl2_dd:Rs.l2 (.ok (.d z) t) i j (.d d) G = if (ltG i G && ltG j G) = true then .nx ((G.set i (.d d)).set j (.d z)) t else .stuck:=by
  show (if i < G.length ∧ j < G.length then So.nx ((G.set i (.d d)).set j (.d z)) t else .stuck) = _
  simp only [Bool.and_eq_true,ltG_iff]
theorem pl2_ll:Rs.l2 (.ok (.l ys) t) i j (.l xs) G = if (ltG i G && ltG j G) = true then .nx ((G.set i (.l xs)).set j (.l ys)) t else .stuck:=by
  show (if i < G.length ∧ j < G.length then So.nx ((G.set i (.l xs)).set j (.l ys)) t else .stuck) = _
  simp only [Bool.and_eq_true,ltG_iff]
theorem pl2_ld:Rs.l2 (.ok (.d z) t) i j (.l xs) G = if (ltG i G && ltG j G) = true then .nx ((G.set i (.l xs)).set j (.d z)) t else .stuck:=by
  show (if i < G.length ∧ j < G.length then So.nx ((G.set i (.l xs)).set j (.d z)) t else .stuck) = _
  simp only [Bool.and_eq_true,ltG_iff]
theorem pl2_dl:Rs.l2 (.ok (.l ys) t) i j (.d d) G = if (ltG i G && ltG j G) = true then .nx ((G.set i (.d d)).set j (.l ys)) t else .stuck:=by
  show (if i < G.length ∧ j < G.length then So.nx ((G.set i (.d d)).set j (.l ys)) t else .stuck) = _
  simp only [Bool.and_eq_true,ltG_iff]
/-- enumerate -/
def Rs.en (r:Rs Rv):Rs (List D):=r.fz.bind fun r t=>.of (r.seq.map (enumD 0)) t
theorem ap_enum:mEnum a G t = Rs.en (a G t):=(rfl)
theorem en_l:Rs.en (.ok (.l xs) t) = .ok (enumD 0 xs) t:=(rfl)
theorem en_dl:Rs.en (.ok (.d (.list xs)) t) = .ok (enumD 0 xs) t:=(rfl)
theorem en_dt:Rs.en (.ok (.d (.tuple xs)) t) = .ok (enumD 0 xs) t:=(rfl)
/-- sorted -/
theorem fsrt_l:fSort [.l xs] = if sortOk xs then some (.l (srtD false xs)) else none:=(rfl)
theorem fsrt_d:fSort [.d (.list xs)] = if sortOk xs then some (.l (srtD false xs)) else none:=(rfl)
/-- methods of a list -/
def Rs.m1 (r:Rs Rv) (f:List D → D → Option D) (b:EM) (G:Gm):Rs Rv:=r.fz.bind fun x t=>match x with
  | .d (.list xs)=>(b G t).fz.bind fun y t=>match y with
    | .d d=>.of ((f xs d).map Rv.d) t
    | _=>.stuck
  | _=>.stuck
def Rs.m2 (r:Rs Rv) (f:List D → D → Option D) (xs:List D):Rs Rv:=r.fz.bind fun y t=>match y with
    | .d d=>.of ((f xs d).map Rv.d) t
    | _=>.stuck
theorem ap_mtl:mMtl f a b G t = Rs.m1 (a G t) f b G:=(rfl)
theorem mt1_d:Rs.m1 (.ok (.d (.list xs)) t) f b G = Rs.m2 (b G t) f xs:=(rfl)
theorem mt1_l:Rs.m1 (.ok (.l xs) t) f b G = Rs.m2 (b G t) f xs:=(rfl)
theorem mt2_d:Rs.m2 (.ok (.d d) t) f xs = .of ((f xs d).map Rv.d) t:=(rfl)
/-- remove -/
def Sl.rm:Option Sl → Nat → EM → SM
  | some (.l xs),i,m,G,t=>(m G t).fz.bindS G fun r t=>match r with
    | .d x=>if SeqAt.shaped x && SeqAt.shaped (.list xs) then (match xs.findIdx? (fun z=>PyData.eqv z x) with
      | some j=>.nx (G.set i (.l (xs.eraseIdx j))) t
      | none=>.stuck) else .stuck
    | _=>.stuck
  | _,_,_,_,_=>.stuck
def Rs.rm (r:Rs Rv) (xs:List D) (i:Nat) (G:Gm):So:=r.fz.bindS G fun r t=>match r with
    | .d x=>if SeqAt.shaped x && SeqAt.shaped (.list xs) then (match xs.findIdx? (fun z=>PyData.eqv z x) with
      | some j=>.nx (G.set i (.l (xs.eraseIdx j))) t
      | none=>.stuck) else .stuck
    | _=>.stuck
theorem ap_rem:sRem i a G t = Sl.rm G[i]? i a G t:=by
  unfold sRem Sl.rm
  cases G[i]? with
  | none=>rfl
  | some x=>cases x <;> rfl
theorem rm_l:Sl.rm (some (.l xs)) i a G t = Rs.rm (a G t) xs i G:=(rfl)
end
end DL
end
section
namespace DL
open PySem PySem.Spec PyProof.Rows L2
variable [Tbs]
def mLcB (j:Nat) (pt:Pt) (cs:Option BM) (elt:EM) (vs:List Nat):EM:=fun G t=>match G[j]? with
  | some (.l items)=>if pt.ix.all (vs.contains ·) then lcLoop pt cs elt (wipeG G vs) items [] t else .stuck
  | _=>mLc (mSeq (mVar j)) pt cs elt vs G t
end DL
end
section
namespace DL
open PySem PySem.Spec PyProof.Rows L2
section
variable {G:Gm} {t:Option DS} {pt:Pt} {cs:Option BM} {me:EM} {vs:List Nat} {j:Nat} {xs:List D} {x:D}
def Sl.lb:Option Sl → (List D → Rs Rv) → Rs Rv → Rs Rv
  | some (.l xs),f,_=>f xs
  | _,_,r=>r
theorem lb_l {f:List D → Rs Rv} {r:Rs Rv}:Sl.lb (some (.l xs)) f r = f xs:=(rfl)
theorem lb_d {f:List D → Rs Rv} {r:Rs Rv}:Sl.lb (some (.d x)) f r = r:=(rfl)
theorem ap_lcB1 {i:Nat}:mLcB j (.nm i) cs me [i] G t = Sl.lb G[j]? (fun xs=>lcLoop (.nm i) cs me (G.set i .un) xs [] t) (mLc (mSeq (mVar j)) (.nm i) cs me [i] G t):=by
  unfold mLcB Sl.lb
  cases G[j]? with
  | none=>rfl
  | some s =>
    cases s with
    | l xs =>
      show (if ([i]:List Nat).all ([i].contains ·) = true then _ else _) = _
      rw [if_pos (by simp)]
      rfl
    | _=>rfl
end
end DL
end
section
namespace DL
open PySem PySem.Spec PyProof.Rows L2
section
variable [Tbs]
/-- x = y, the list of one's own in y goes over to x; y is not looked at any more -/
def sMov (i j:Nat):SM:=fun G t=>match G[j]? with
  | some (.l xs)=>if i < G.length then .nx ((G.set j .un).set i (.l xs)) t else .stuck
  | _=>sSet i (mVar j) G t
end
section
variable {G:Gm} {t:Option DS} {i j:Nat} {xs:List D} {x:D}
def Sl.mv:Option Sl → Nat → Nat → SM
  | some (.l xs),i,j,G,t=>if i < G.length then .nx ((G.set j .un).set i (.l xs)) t else .stuck
  | _,i,j,G,t=>sSet i (mVar j) G t
theorem ap_mov:sMov i j G t = Sl.mv G[j]? i j G t:=by
  unfold sMov Sl.mv
  cases G[j]? with
  | none=>rfl
  | some s=>cases s <;> rfl
theorem mv_l:Sl.mv (some (.l xs)) i j G t = if ltG i G = true then .nx ((G.set j .un).set i (.l xs)) t else .stuck:=by
  show (if i < G.length then So.nx ((G.set j .un).set i (.l xs)) t else .stuck) = _
  simp only [ltG_iff]
theorem mv_d:Sl.mv (some (.d x)) i j G t = sSet i (mVar j) G t:=(rfl)
end
end DL
end
section
namespace DL
open PySem PySem.Spec PyProof.Rows L2
open PySem.SeqAt
open PySem.AutoSeq1 (wpAny_loadPart')
open PySem.MeetsSeq PySem.MeetsSeq2 PySem.MeetsSeq3
theorem row_lt (l b:Addr) (xs ys:Array Value) (n m:Nat) (dd dd2:Option Addr) (sl sl2:Array (Option Value)) (e r:Nat → Bool) :
    Meets (Builtin.«tuple.__lt__» ⟨[.ref l,.ref b],[]⟩)
      (fun A R s=>s.heap.get? l = some { cls:=.type "tuple",dict:=dd,data:=.seq xs n,slots:=sl } ∧ s.heap.get? b = some { cls:=.type "tuple",dict:=dd2,data:=.seq ys m,slots:=sl2 } ∧
        (∀ j (h1:j < xs.size) (h2:j < ys.size),EqAt A.in1 s xs[j] ys[j] (e j)) ∧
        (∀ j (h1:j < xs.size) (h2:j < ys.size),e j = false → (∀ i,i < j → e i = true) → Ob.RcOp .Lt A.in1 s xs[j] ys[j] (r j)) ∧
        R (.ok (.ret (.bool (Ob.lexAt e r (decide (xs.size < ys.size)) 0 (min xs.size ys.size))))) s):=
  .of_wp fun prog w A R s h=>by
    obtain ⟨hp,g,d,tk,os⟩:=s
    obtain ⟨hl,hb,he,hr,h⟩:=h
    have f2:=AutoSeq1.sub_tuple_tuple
    have hZ:(xs.toList.zip ys.toList).length = min xs.size ys.size:=by simp
    wp_walk using wpAny_loadPart' hl,wpAny_loadPart' hb,wpAny_forIn_list _ (fun rest b s'=>b.1 = none ∧ s' = ⟨hp,g,d,tk,os⟩ ∧ ∃ i,rest = (xs.toList.zip ys.toList).drop i ∧ (∀ k,k < i → e k = true) ∧
      R (.ok (.ret (.bool (Ob.lexAt e r (decide (xs.size < ys.size)) i (min xs.size ys.size - i))))) ⟨hp,g,d,tk,os⟩) _
    case turn =>
      rintro ⟨y,x⟩ rest b s' ⟨hb',rfl,i,hz,hk,hR⟩
      have hlt:i < (xs.toList.zip ys.toList).length:=by
        rcases Nat.lt_or_ge i (xs.toList.zip ys.toList).length with h' | h'
        · exact h'
        · rw [List.drop_of_length_le h'] at hz; cases hz
      have hm:i < min xs.size ys.size:=hZ ▸ hlt
      have h1:i < xs.size:=Nat.lt_of_lt_of_le hm (Nat.min_le_left _ _)
      have h2:i < ys.size:=Nat.lt_of_lt_of_le hm (Nat.min_le_right _ _)
      rw [List.drop_eq_getElem_cons hlt] at hz
      injection hz with hyx hrest
      have hy:y = xs[i]:=by have:=congrArg Prod.fst hyx; simpa using this
      have hx:x = ys[i]:=by have:=congrArg Prod.snd hyx; simpa using this
      subst hy hx
      rw [show min xs.size ys.size - i = (min xs.size ys.size - (i + 1)) + 1 by omega,Ob.lexAt_succ] at hR
      refine wpAny_bind (he i h1 h2 prog w _ _ ?_)
      cases hei:e i with
      | true =>
        rw [hei,if_pos rfl] at hR
        wp_walk
        exact ⟨rfl,rfl,i + 1,hrest,fun k hk'=>by rcases Nat.lt_succ_iff_lt_or_eq.mp hk' with z | z; exact hk k z; exact z ▸ hei,hR⟩
      | false =>
        rw [hei,if_neg Bool.false_ne_true] at hR
        have hri:=hr i h1 h2 hei hk prog w
        wp_walk using hri
        exact ⟨_,rfl,by simpa using hR⟩
    case fin =>
      rintro ⟨b1,b2⟩ s' ⟨hb',rfl,i,hz,hk,hR⟩
      simp only at hb'
      subst hb'
      have hge:min xs.size ys.size ≤ i:=by
        rcases Nat.lt_or_ge i (xs.toList.zip ys.toList).length with h' | h'
        · rw [List.drop_eq_getElem_cons h'] at hz; cases hz
        · exact hZ ▸ h'
      rw [Nat.sub_eq_zero_of_le hge,Ob.lexAt_zero] at hR
      wp_walk
      exact ⟨_,rfl,by simpa [Builtin.Tuple.tupleCompareSizes] using hR⟩
    case h =>
      exact ⟨rfl,rfl,0,rfl,fun k hk=>absurd hk (Nat.not_lt_zero _),by simpa using h⟩
theorem rows_lt {A:Around} {s:Shared} {l b:Addr} {xs ys:Array Value} {e r:Nat → Bool} (hl:s.heap.IsTuple l xs) (hb:s.heap.IsTuple b ys) (hu:A.units < cLine)
    (he:∀ j (h1:j < xs.size) (h2:j < ys.size),EqAt A.in1 s xs[j] ys[j] (e j))
    (hr:∀ j (h1:j < xs.size) (h2:j < ys.size),e j = false → (∀ i,i < j → e i = true) → Ob.RcOp .Lt A.in1 s xs[j] ys[j] (r j)) :
    Ob.RcOp .Lt A s (.ref l) (.ref b) (Ob.lexAt e r (decide (xs.size < ys.size)) 0 (min xs.size ys.size)):=fun prog w E Q h=>by
  obtain ⟨⟨cls,dd,data,sl⟩,ho,hc,n,hd⟩:=id hl
  obtain ⟨⟨cls2,dd2,data2,sl2⟩,ho2,hc2,n2,hd2⟩:=id hb
  simp only at hc hd hc2 hd2
  subst hc hd hc2 hd2
  exact richCompare_meets_room (op:=.Lt) ⟨_,ho,rfl⟩ ⟨_,ho2,rfl⟩ F.slot_tuple_lt F.entry_tuple_lt (F.args_tuple_lt_2 _ _) (row_lt l b xs ys n n2 dd dd2 sl sl2 e r)
    ⟨ho,ho2,he,hr,⟨(fun x=>nomatch x),h⟩⟩ hu
mutual
def gLtN:D → D → Option Bool
  | .int i,.int j=>some (decide (i < j))
  | .tuple xs,.tuple ys=>gLtL xs ys
  | _,_=>none
def gLtL:List D → List D → Option Bool
  | [],ys=>some (decide (0 < ys.length))
  | _ :: _,[]=>some false
  | x :: xs,y :: ys=>if PyData.eqv x y then gLtL xs ys else gLtN x y
end
theorem getD_cons {α:Type} (x:α) (xs:List α) (j:Nat) (d:α):(x :: xs).getD (j + 1) d = xs.getD j d:=by simp
theorem gLtL_at:∀ (xs ys:List D) (c:Bool),gLtL xs ys = some c → ∀ (i:Nat) (e r:Nat → Bool),(∀ j,j < min xs.length ys.length → e (i + j) = PyData.eqv (xs.getD j .none) (ys.getD j .none)) →
    (∀ j,j < min xs.length ys.length → e (i + j) = false → r (i + j) = (gLtN (xs.getD j .none) (ys.getD j .none)).getD false) →
    Ob.lexAt e r (decide (xs.length < ys.length)) i (min xs.length ys.length) = c
  | [],ys,c,h,i,e,r,_,_=>by
    unfold gLtL at h
    cases h
    simp [Ob.lexAt_zero]
  | x :: xs,[],c,h,i,e,r,_,_=>by
    unfold gLtL at h
    cases h
    simp [Ob.lexAt_zero]
  | x :: xs,y :: ys,c,h,i,e,r,he,hr=>by
    unfold gLtL at h
    have e0:=he 0 (by simp)
    have m:min (x :: xs).length (y :: ys).length = min xs.length ys.length + 1:=by simp [Nat.succ_min_succ]
    rw [m,Ob.lexAt_succ]
    rw [Nat.add_zero] at e0
    simp only [List.getD_cons_zero] at e0
    have d:decide ((x :: xs).length < (y :: ys).length) = decide (xs.length < ys.length):=by simp
    rw [d]
    split at h
    · rename_i hq
      rw [hq] at e0
      rw [e0,if_pos rfl]
      refine gLtL_at xs ys c h (i + 1) e r (fun j hj=>?_) (fun j hj hf=>?_)
      · have:=he (j + 1) (by rw [m]; omega)
        simp only [getD_cons] at this
        rw [← this]
        congr 1
        omega
      · have:=hr (j + 1) (by rw [m]; omega) (by rw [← hf]; congr 1; omega)
        simp only [getD_cons] at this
        rw [← this]
        congr 1
        omega
    · rename_i hq
      have hq':PyData.eqv x y = false:=by simpa using hq
      rw [hq'] at e0
      rw [e0,if_neg Bool.false_ne_true]
      have:=hr 0 (by rw [m]; omega) (by rw [Nat.add_zero]; exact e0)
      simp only [List.getD_cons_zero,Nat.add_zero] at this
      rw [this,h]
      rfl
/-- all places ahead are alike, so the first unlike one is told -/
theorem gLtL_first:∀ (xs ys:List D) (c:Bool),gLtL xs ys = some c → ∀ j,j < min xs.length ys.length → PyData.eqv (xs.getD j .none) (ys.getD j .none) = false → (∀ i,i < j → PyData.eqv (xs.getD i .none) (ys.getD i .none) = true) →
    gLtN (xs.getD j .none) (ys.getD j .none) = some c
  | [],_,_,_,j,hj,_,_=>by simp at hj
  | _ :: _,[],_,_,j,hj,_,_=>by simp at hj
  | x :: xs,y :: ys,c,h,0,hj,he,_=>by
    unfold gLtL at h
    simp only [List.getD_cons_zero] at he ⊢
    rw [he] at h
    simpa using h
  | x :: xs,y :: ys,c,h,j + 1,hj,he,hk=>by
    unfold gLtL at h
    have h0:=hk 0 (Nat.succ_pos _)
    simp only [List.getD_cons_zero] at h0
    rw [h0,if_pos rfl] at h
    simp only [getD_cons] at he ⊢
    refine gLtL_first xs ys c h j (by simp [Nat.succ_min_succ] at hj ⊢; omega) he fun i hi=>?_
    have:=hk (i + 1) (by omega)
    simpa only [getD_cons] using this
theorem canAll:∀ (xs:List D),PyData.canLayAll0 xs = true → ∀ j,j < xs.length → (xs.getD j .none).canLay0 = true
  | [],_,j,hj=>by simp at hj
  | x :: xs,h,0,_=>by
    unfold PyData.canLayAll0 at h
    rw [Bool.and_eq_true] at h
    exact h.1
  | x :: xs,h,j + 1,hj=>by
    unfold PyData.canLayAll0 at h
    rw [Bool.and_eq_true] at h
    rw [getD_cons]
    exact canAll xs h.2 j (by simpa using hj)
theorem szAll:∀ (xs:List D) (j:Nat),j < xs.length → sizeOf (xs.getD j .none) < sizeOf xs
  | [],j,hj=>by simp at hj
  | x :: xs,0,_=>by
    simp only [List.getD_cons_zero,List.cons.sizeOf_spec]
    omega
  | x :: xs,j + 1,hj=>by
    rw [getD_cons]
    have:=szAll xs j (by simpa using hj)
    simp only [List.cons.sizeOf_spec]
    omega
theorem lt_at (d e:D) (A:Around) (s:Shared) (v u:Value) (as bs:List Addr) (c:Bool) (h:gLtN d e = some c) (ra:Reads s.heap v d as) (rb:Reads s.heap u e bs) (hd:d.canLay0 = true) (he:e.canLay0 = true)
    (hu:A.units + min d.depth e.depth < cLine):Ob.RcOp .Lt A s v u c:=by
  match d,e,ra,rb with
  | .int i,.int j,.int _ t,.int _ t' =>
    unfold gLtN at h
    cases h
    exact Ob.RcOp.lt_int _ _ _ _
  | .tuple xs,.tuple ys,.tuple (vs:=va) g1 g2 g3 g4,.tuple (vs:=wa) k1 k2 k3 k4 =>
    unfold gLtN at h
    have n1:=ReadsAll.length _ _ _ g4
    have n2:=ReadsAll.length _ _ _ k4
    rw [Array.length_toList] at n1 n2
    unfold PyData.canLay0 at hd he
    unfold PyData.depth at hu
    have z:=rows_lt (A:=A) (s:=s) (e:=fun j=>PyData.eqv (xs.getD j .none) (ys.getD j .none)) (r:=fun j=>(gLtN (xs.getD j .none) (ys.getD j .none)).getD false) ⟨_,g1,g2,_,g3⟩ ⟨_,k1,k2,_,k3⟩ (by omega)
      (fun j h1 h2=>by
        obtain ⟨as',r1,l1,_,p1⟩:=PySem.W.readsAll_atA g4 j va[j] (by simp [h1])
        obtain ⟨bs',r2,l2,_,p2⟩:=PySem.W.readsAll_atA k4 j wa[j] (by simp [h2])
        exact eqAt_reads _ _ _ _ _ _ _ _ r1 r2 (canAll xs hd j l1) (canAll ys he j l2) (by rw [Around.in1_units]; omega))
      (fun j h1 h2 hf hk=>by
        obtain ⟨as',r1,l1,m1,p1⟩:=PySem.W.readsAll_atA g4 j va[j] (by simp [h1])
        obtain ⟨bs',r2,l2,m2,p2⟩:=PySem.W.readsAll_atA k4 j wa[j] (by simp [h2])
        have q:=gLtL_first xs ys c h j (by omega) hf hk
        have:=szAll xs j l1
        simp only [q,Option.getD_some]
        exact lt_at _ _ _ _ _ _ _ _ c q r1 r2 (canAll xs hd j l1) (canAll ys he j l2) (by rw [Around.in1_units]; omega))
    rw [n1,n2] at z
    rw [gLtL_at xs ys c h 0 _ _ (fun j _=>by rw [Nat.zero_add]) (fun j _ _=>by rw [Nat.zero_add])] at z
    exact z
termination_by sizeOf d
decreasing_by
  have q:=szAll xs j l1
  simp only [List.getD_eq_getElem?_getD] at q
  simp_wf
  omega
end DL
end
section
namespace DL
open PySem PySem.Spec PyProof.Rows L2
section
variable [Tbs] {X:Cx} {P:Pm} {k:Nat} {a b d e:Expr} {ma mb md me:EM} {p p2 q pos:Pos}
def putAt (i:Nat) (mi:EM) (x:D):SM:=fun G t=>match G[i]? with
  | some (.l _)=>(mi G t).fz.bindS G fun r2 t=>(match r2,G[i]? with
    | .d (.int k),some (.l xs)=>(match ixN xs.length k with
      | some j=>.nx (G.set i (.l (xs.set j x))) t
      | none=>.stuck)
    | _,_=>.stuck)
  | _=>.stuck
def So.nxt (o:So) (f:Gm → Option DS → So):So:=match o with
  | .nx G t=>f G t
  | o=>o
theorem bindS_nxt {α:Type} {G:Gm} {g:α → Option DS → So} {f:Gm → Option DS → So} (m:Rs α):So.nxt (m.bindS G g) f = m.bindS G fun a t=>So.nxt (g a t) f:=by
  cases m <;> rfl
def sSwp (i:Nat) (m m1 m2:EM):SM:=fun G t=>(m G t).fz.bindS G fun r t=>match r with
  | .d (.tuple [x,y])=>So.nxt (putAt i m1 x G t) fun G1 t1=>putAt i m2 y G1 t1
  | _=>.stuck
theorem put_gs {B:Bs} {EE:Ends} {As:List Addr} {F H:Hp} {G:Gm} {t:Option DS} {σ:Sg} {i:Nat} {mi:EM} {x:D} {v:V} {f:Gm → Option DS → So} {Q:Sg → Hp → Prop} (R:RelS P B As F G t σ H) (dx:Dp P.K F v x) (h:PostS P B F EE (So.nxt (putAt i mi x G t) f))
    (cont:∀ As' F' H' G' t',RelS P B As' F' G' t' σ H' → Same F F' → PostS P B F' EE (f G' t') → Q σ H'):gSub (tVar i) (teM P fun G t=>(mi G t).fz) rSetL v σ H Q:=by
  unfold putAt at h
  cases e:G[i]? with
  | none=>simp only [e] at h; exact False.elim h
  | some s =>
    cases s with
    | l xs =>
      simp only [e] at h
      rw [bindS_nxt] at h
      obtain ⟨q,vs,ev,hq,hda⟩:=slot_l R e
      refine ⟨.ref q,ev,As,F,G,t,R.rel,bindSE R h fun As2 F2 H2 v2 r2 t2 em2 g2 R2 x2 fr2 p2=>?_⟩
      clear em2
      split at p2
      · rename_i k xs' ex
        cases ex
        split at p2
        · rename_i j ej
          cases x2
          obtain ⟨q',vs',ev',hq',hda'⟩:=slot_l R2 e
          rw [ev] at ev'
          cases ev'
          have x1':Dp P.K F2 v x:=Dp.mono g2.ff _ _ dx
          exact ⟨q,vs',k,j,rfl,rfl,hq',by rw [hda'.length]; exact ej,cont As2 F2 _ _ _ (R2.write e ev hq' (DpAll.set x1' j hda')) g2.ff p2⟩
        · exact False.elim p2
      · exact False.elim p2
    | _=>simp only [e] at h; exact False.elim h
theorem ss_swp {i:Nat} {x:Str} {n1 n2 p1 p3 p4:Pos} {kk:Nat} (hK:P.K = X.K) (hN:X.N[i]? = some x) (hv:Vis X.env.scope x) (hd:(x == ("__debug__" : Str)) = false) (hcd:(x == ("__classdict__" : Str)) = false) (ha:SE X P e me) (h1:SE X P a ma) (h2:SE X P b mb)
    (h:PE X (.Name x n1) (tVar i) → PE X (.Name x n2) (tVar i) → PE X a (teM P fun G t=>(ma G t).fz) → PE X b (teM P fun G t=>(mb G t).fz) → PE X e (teM P fun G t=>(me G t).fz) →
      PS X (.Assign [.Tuple [.Subscript (.Name x n1) a p1,.Subscript (.Name x n2) b p3] kk p4] e pos) (tAsg (teM P fun G t=>(me G t).fz) (gTup X.K 2 (gCons (gSub (tVar i) (teM P fun G t=>(ma G t).fz) rSetL) (gCons (gSub (tVar i) (teM P fun G t=>(mb G t).fz) rSetL) gNil))))) :
    SS X P (.Assign [.Tuple [.Subscript (.Name x n1) a p1,.Subscript (.Name x n2) b p3] kk p4] e pos) (sSwp i me ma mb):=by
  refine L2.PS.imp (h (pe_var hN hv hd hcd) (pe_var hN hv hd hcd) h1.fz h2.fz ha.fz) fun D σ H ⟨B,As,F,G,t,R,p⟩=>⟨As,F,G,t,R.rel,bindSE R p fun As1 F1 H1 v1 r1 t1 _ g R1 x1 fr p1=>?_⟩
  split at p1
  · rename_i y z _
    have xd:Dp P.K F1 v1 (.tuple [y,z]):=x1
    cases xd with
    | tup g1 g2 =>
      rename_i l xs
      cases g2 with
      | cons d1 g3 =>
        cases g3 with
        | cons d2 g4 =>
          cases g4
          have gq:=Same.seqT R1.rel.sub g1
          rw [hK] at gq
          refine ⟨l,_,rfl,gq,rfl,_,_,rfl,put_gs R1 d1 p1 fun As' F' H' G' t' R' kF p2=>⟨_,_,rfl,?_⟩⟩
          have p2:PostS P B F' D (So.nxt (putAt i mb z G' t') fun G t=>.nx G t):=by
            cases hp:putAt i mb z G' t' <;> rw [hp] at p2 <;> exact p2
          exact put_gs R' (Dp.mono kF _ _ d2) p2 fun As2 F2 H2 G2 t2 R2 _ p3=>⟨rfl,p3 As2 F2 σ _ R2 (Same.refl _)⟩
  · exact False.elim p1
theorem s_swp (c:Ct X P k) (i:Nat) {x:Str} {n1 n2 p1 p3 p4:Pos} {kk:Nat} (hv:Vis X.env.scope x) (ha:SE X P e me) (h1:SE X P a ma) (h2:SE X P b mb) (hN:X.N[i]? = some x:=by rfl) (hd:(x == ("__debug__" : Str)) = false:=by decide) (hcd:(x == ("__classdict__" : Str)) = false:=by decide)
    (h:X.calm = true → PE X (.Name x n1) (tVar i) → PE X (.Name x n2) (tVar i) → PE X a (teM P fun G t=>(ma G t).fz) → PE X b (teM P fun G t=>(mb G t).fz) → PE X e (teM P fun G t=>(me G t).fz) →
      PS X (.Assign [.Tuple [.Subscript (.Name x n1) a p1,.Subscript (.Name x n2) b p3] kk p4] e pos) (tAsg (teM P fun G t=>(me G t).fz) (gTup X.K 2 (gCons (gSub (tVar i) (teM P fun G t=>(ma G t).fz) rSetL) (gCons (gSub (tVar i) (teM P fun G t=>(mb G t).fz) rSetL) gNil)))):=by
      exact fun g0 g1 g2 g3 g4 g5=>ps_asg g5 (pg_tup g0 (pgs_cons (pg_sub g1 g3 set_list) (pgs_cons (pg_sub g2 g4 set_list) pgs_nil)))) :
    SS X P (.Assign [.Tuple [.Subscript (.Name x n1) a p1,.Subscript (.Name x n2) b p3] kk p4] e pos) (sSwp i me ma mb):=ss_swp c.hK hN hv hd hcd ha h1 h2 (h c.cm)
end
end DL
end
section
namespace DL
open PySem PySem.Spec PyProof.Rows L2
end DL
end
section
namespace DL.RV
open PySem PySem.Spec PyProof.Rows HT
section
variable {prog:Program} {w:World} {A:Around} {E:Value → Shared → Prop} {s:Shared}
theorem collect_tupA {Q:List Value → Shared → Prop} {it:Addr} {vs:List Value} (ht:IsTup s.heap it vs.toArray)
    (h:Q vs { s with heap:=(s.heap.push (seqObj "list" #[] 0)).update s.heap.objs.size (Obj.mapSeq (· ++ vs.toArray)) }) (hsz:vs.length ≤ sizeLine) :
    wpAny (model prog w) A (collect (.ref it)) Q E s:=by
  obtain ⟨o,ho,hc,n,hd⟩:=ht
  unfold collect
  refine wpAny_bind (wpAny_runValue (codeAny_builtin F.entry_proto_collect ?_))
  rw [Around.under_plainId F.plain_proto_collect _]
  show wpAny _ A.in1 (newList [] >>= fun l=>again (.builtin "list.__iadd__" ⟨[l,.ref it],[]⟩)) _ _ s
  refine wpAny_bind (wpAny_newObj_type ?_)
  refine wpAny_pure ⟨plainId_quiet F.plain_list_iadd _,codeAny_builtin F.entry_list_iadd ?_⟩
  rw [Around.under_plainId F.plain_list_iadd _]
  show wpAny _ A.in1 (Builtin.List.listExtendWith (.ref s.heap.objs.size) (.ref it) (.ref s.heap.objs.size)) _ _ _
  have hS:(s.heap.push (seqObj "list" #[] 0)).get? s.heap.objs.size = some { cls:=.type "list",data:=.seq #[] 0 }:=Heap.get?_push_size _ rfl
  have hS₂:=Heap.get?_update_self (Obj.mapSeq (· ++ vs.toArray)) hS rfl
  have fin':wpAny (model prog w) A (match Value.ref s.heap.objs.size with
      | Value.ref a=>do
        match (← load a).data with
          | Data.seq xs _=>pure xs.toList
          | _=>unsupported "internal:collect"
      | _=>unsupported "internal:collect") Q E { s with heap:=(s.heap.push (seqObj "list" #[] 0)).update s.heap.objs.size (Obj.mapSeq (· ++ vs.toArray)) }:=by
    show wpAny _ A (load s.heap.objs.size >>= _) _ _ _
    refine wpAny_bind (wpAny_load hS₂ ?_)
    refine wpAny_pure ?_
    have e:((#[]:Array Value) ++ vs.toArray).toList = vs:=by simp
    show Q ((#[]:Array Value) ++ vs.toArray).toList _
    rw [e]
    exact h
  refine wpAny_mono (wpAny_extend_seq (hsz:=by rw [List.size_toArray]; exact hsz) (A:=A) (R:=fun r s'=>r = .ok (.ret (.ref s.heap.objs.size)) ∧ s' = { s with heap:=(s.heap.push (seqObj "list" #[] 0)).update s.heap.objs.size (Obj.mapSeq (· ++ vs.toArray)) })
    (s:={ s with heap:=s.heap.push (seqObj "list" #[] 0) }) _ it _ 0 (.inr rfl) hS (Heap.get?_push_of_some _ ho) hc hd ⟨rfl,rfl⟩) (fun fin s' h=>?_) (fun e s' h=>?_)
  · cases fin with
    | done f =>
      obtain ⟨e,rfl⟩:=h
      cases e
      exact fin'
    | again c'=>exact ⟨h.1,codeAny_mono h.2 fun r s'' hr=>by obtain ⟨rfl,rfl⟩:=hr; exact fin'⟩
  · exact absurd h.1 (by simp)
theorem sorted_of_sortT {l:Addr} {vs:List Value} {kw:List (Str × Value)} {Q:Value → Shared → Prop} (hl:IsTup s.heap l vs.toArray) (hL:vs.length ≤ sizeLine) (ha1:argsOk "sorted" ⟨[.ref l],kw⟩) (ha2:∀ x,argsOk "list.sort" ⟨[.ref x],kw⟩)
    (body:∀ E':Value → Shared → Prop,wpAny (model prog w) A.in1.in1 (Builtin.«list.sort» ⟨[.ref (s.heap.objs.size + 1)],kw⟩) (fun f s'=>f = .done (.ret .none) ∧ Q (.ref (s.heap.objs.size + 1)) s') E' { s with heap:=PySem.W.copyHeap s.heap vs }) :
    wpAny (model prog w) A (call (.builtin "sorted") [.ref l] kw) Q E s:=by
  refine call_function_entry_kw kind_sorted plain_sorted entry_sorted ha1 ?_
  unfold Builtin.«sorted»
  refine wpAny_bind (m:=checkCount "sorted" 1 1 _) (wpAny_pure ?_)
  refine wpAny_bind (collect_tupA hl ?_ hL)
  refine wpAny_bind (wpAny_newList ?_ hL)
  have hsz:((s.heap.push (seqObj "list" #[] 0)).update s.heap.objs.size (Obj.mapSeq (· ++ vs.toArray))).objs.size = s.heap.objs.size + 1:=by
    rw [Heap.size_update,size_push']
  show wpAny _ _ _ _ _ { s with heap:=PySem.W.copyHeap s.heap vs }
  rw [hsz]
  refine wpAny_bind (wpAny_holding (wpAny_call_entry_kw slot_list_sort ⟨_,PySem.W.copyHeap_at s.heap vs,rfl⟩ entry_list_sort ?body (ha2 _)))
  case body =>
    show wpAny (model prog w) A.in1.in1 (Builtin.«list.sort» ⟨[.ref (s.heap.objs.size + 1)],kw⟩) _ _ _
    refine wpAny_mono (body _) (fun f s' hf=>?_) fun _ _ e=>e
    obtain ⟨rfl,hq⟩:=hf
    exact ⟨_,rfl,wpAny_pure ⟨_,rfl,hq⟩⟩
theorem sorted_tupA {β:Type} {vs:List Value} {bs:List β} {enc:β → PyData} {R:Value → β → Prop} {t:Addr} {Q:Value → Shared → Prop} (ht:IsTup s.heap t vs.toArray) (e:PySem.W.EachIs R vs bs) (er:PySem.W.EachIs (fun v b=>∃ as,Reads s.heap v (enc b) as) vs bs)
    (hal:PySem.W.AllAlike (bs.map enc)) (hk:PySem.W.Sortable (bs.map enc)) (hL:bs.length ≤ sizeLine)
    (hu:∀ b,b ∈ bs → A.units + 2 + (enc b).depth < cLine) (h:∀ out,out.length = bs.length → PySem.W.EachIs R out (bs.mergeSort (PySem.W.dataLe false enc)) → Q (.ref (s.heap.objs.size + 1)) { s with heap:=sortedAll s.heap vs (List.toArray out) }) :
    wpAny (model prog w) A (call (.builtin "sorted") [.ref t]) Q E s:=by
  have hL':vs.length ≤ sizeLine:=by rw [e.length]; exact hL
  have er':PySem.W.EachIs (fun v b=>∃ as,Reads (PySem.W.sortingHeap (PySem.W.copyHeap s.heap vs) (s.heap.objs.size + 1) vs) v (enc b) as) vs bs:=er.mono fun _ _ ⟨as,r⟩=>⟨as,PyProof.Rows.Reads.keeps (fun _ _=>PySem.W.sorting_copy_old) r⟩
  exact sorted_of_sortT ht hL' (args_sorted1 _) (fun _=>args_list_sort _) fun _ =>
    PySem.W.list_sort_vals (s:={ s with heap:=PySem.W.copyHeap s.heap vs }) (PySem.W.copyHeap_at s.heap vs)
      (PySem.W.SortsAt.data (s:={ s with heap:=PySem.W.sortingHeap (PySem.W.copyHeap s.heap vs) (s.heap.objs.size + 1) vs }) (PySem.W.each_map (R:=fun v d=>∃ as,Reads (PySem.W.sortingHeap (PySem.W.copyHeap s.heap vs) (s.heap.objs.size + 1) vs) v d as) enc er') hal hk (PySem.W.bound_map hu)) hL'
      ⟨rfl,h _ (by rw [PySem.W.sortVals_length false rfl]; exact e.length) (PySem.W.sortVals_data false e er' hal)⟩
end
end DL.RV
namespace DL
open PySem PySem.Spec PyProof.Rows L2
variable [Tbs]
def rSortT (K:PySem.W.Frag):List V → Hp → VK → Prop:=fun vs H Q=>∃ (F:Hp) (a:Addr) (xs:List V) (ds:List D),vs = [V.ref a] ∧ Same F H ∧ SqT K H a xs ∧ DpAll K F xs ds ∧ sortOk ds = true ∧
  ∀ ys p,DpAll K F ys (srtD false ds) → H p = none → Q (.ref p) (upd H p (.lst ys))
theorem cr_sortT {X:Cx} (hu:X.A.units + 65 < cLine):CallR X (.builtin "sorted") (rSortT X.K):=by
  intro pins s σ H vs us Q I r h
  obtain ⟨F,a,xs,ds,rfl,sF,hs,hd,ok,q⟩:=h
  obtain ⟨its,rv,hl,hz⟩:=I.tuple hs
  rw [Vals.ref1 r]
  obtain ⟨o1,o2,o3,o4⟩:=sortOk_of ok
  have e:=rowsD hd rv
  refine RV.sorted_tupA (enc:=id) (R:=RowD X.K F) (bs:=ds) hl e (e.mono fun v d ⟨x,rx,dx⟩=>Dp.reads I d x v (Dp.mono sF _ _ dx) rx) (by rw [List.map_id]; exact o2) (by rw [List.map_id]; exact o3) (by rw [sizeLine_eq]; exact o1) (fun d m=>?_) fun out lo eo=>?_
  · have:=o4 d m
    show X.A.units + 2 + d.depth < cLine
    omega
  · obtain ⟨ys,ry,dy,ly⟩:=outsD eo
    obtain ⟨cc,at_⟩:=sortedAll_at s.heap its (List.toArray out)
    refine ⟨.ref (s.heap.objs.size + 1),upd H (s.heap.objs.size + 1) (.lst ys),I.laid (t':=s.toks) (fun b o e=>sortedAll_old e) (Nat.le_succ _) (show ObjOk X.prog X.w _ _ _ (.lst ys) from ⟨?_,out,cc,ry,at_⟩),rfl,q ys _ dy (I.hok.fresh (Nat.le_succ _))⟩
    rw [ly,List.length_mergeSort,sizeLine_eq]
    exact o1
def rSortA (K:PySem.W.Frag):List V → Hp → VK → Prop:=fun vs H Q=>rSortD K false vs H Q ∨ rSortT K vs H Q
theorem cr_sortA {X:Cx} (hu:X.A.units + 65 < cLine):CallR X (.builtin "sorted") (rSortA X.K):=by
  intro pins s σ H vs us Q I r h
  rcases h with h | h
  · exact cr_sortD hu pins s σ H vs us Q I r h
  · exact cr_sortT hu pins s σ H vs us Q I r h
def fSortA:List Rv → Option Rv:=fun xs=>match xs with
  | [x]=>match x.items with
    | some ds=>if sortOk ds then some (.l (srtD false ds)) else none
    | none=>match x.tup with
      | some ds=>if sortOk ds then some (.l (srtD false ds)) else none
      | none=>none
  | _=>none
theorem calld_sortA {K:PySem.W.Frag}:CallD K (rSortA K) fSortA:=by
  intro xs z vs As F H t Q e s k vx q
  match xs,vx with
  | [x],.cons h .nil =>
    simp only [fSortA] at e
    cases e1:x.items with
    | none =>
      rw [e1] at e
      simp only at e
      cases e2:x.tup with
      | none=>rw [e2] at e; cases e
      | some ds =>
        rw [e2] at e
        simp only at e
        split at e
        · rename_i ok
          cases e
          obtain ⟨p,ws,rfl,hs,a⟩:=h.tup e2
          refine .inr ⟨F,p,ws,ds,rfl,k,Same.seqT k hs,a,ok,fun ys l dy n=>?_⟩
          obtain ⟨⟨g,s'⟩,_⟩:=alloc (o:=.lst ys) s k n
          exact q F _ _ g s' ⟨l,_,rfl,fun z=>s.ok.there l z n,k.free n,upd_same,dy⟩ ⟨l,rfl,n⟩
        · cases e
    | some ds =>
      rw [e1] at e
      simp only at e
      split at e
      · rename_i ok
        cases e
        obtain ⟨p,ws,rfl,hs,a⟩:=h.items k e1
        refine .inl ⟨F,p,ws,ds,rfl,k,hs,a,ok,fun ys l dy n=>?_⟩
        obtain ⟨⟨g,s'⟩,_⟩:=alloc (o:=.lst ys) s k n
        exact q F _ _ g s' ⟨l,_,rfl,fun z=>s.ok.there l z n,k.free n,upd_same,dy⟩ ⟨l,rfl,n⟩
      · cases e
omit [Tbs] in
theorem DpAll.reverse {K:PySem.W.Frag} {H:Hp}:∀ {vs:List V} {ds:List PyData},DpAll K H vs ds → DpAll K H vs.reverse ds.reverse
  | [],_,h=>by cases h; exact DpAll.nil
  | v :: vs,_,h=>by
    cases h with
    | cons h1 h2 =>
      rw [List.reverse_cons,List.reverse_cons]
      exact (DpAll.reverse h2).append (DpAll.one h1)
end DL
end
section
namespace DL
open PySem PySem.Spec PyProof.Rows L2
end DL
end
section
namespace DL
open PySem PySem.Spec PyProof.Rows L2
open PySem.SeqAt
mutual
def isRow:D → Bool
  | .int _=>true
  | .tuple xs=>isRows xs
  | _=>false
def isRows:List D → Bool
  | []=>true
  | x :: xs=>isRow x && isRows xs
end
mutual
theorem row_lay:∀ d:D,isRow d = true → d.canLay0 = true
  | .int _,_=>rfl
  | .tuple xs,h=>by
    unfold isRow at h
    unfold PyData.canLay0
    exact rows_lay xs h
  | .none,h=>by unfold isRow at h; cases h
  | .bool _,h=>by unfold isRow at h; cases h
  | .str _,h=>by unfold isRow at h; cases h
  | .list _,h=>by unfold isRow at h; cases h
  | .dict _,h=>by unfold isRow at h; cases h
theorem rows_lay:∀ xs:List D,isRows xs = true → PyData.canLayAll0 xs = true
  | [],_=>rfl
  | x :: xs,h=>by
    unfold isRows at h
    rw [Bool.and_eq_true] at h
    unfold PyData.canLayAll0
    rw [Bool.and_eq_true]
    exact ⟨row_lay x h.1,rows_lay xs h.2⟩
end
mutual
theorem lt_toks:∀ (x y:D) (c:Bool),isRow x = true → isRow y = true → gLtN x y = some c →
    (PyData.eqv x y = true → PySem.W.keyToks x = PySem.W.keyToks y ∧ c = false) ∧ (PyData.eqv x y = false → ∀ l m,PyProof.Rows.lexLt itemOrd (PySem.W.keyToks x ++ l) (PySem.W.keyToks y ++ m) = c)
  | .int a,.int b,c,_,_,h=>by
    unfold gLtN at h
    cases h
    refine ⟨fun e=>?_,fun e l m=>?_⟩
    · have e':a = b:=by simpa [PyData.eqv] using e
      subst e'
      exact ⟨rfl,by simp⟩
    · have hne:a ≠ b:=fun q=>by subst q; simp [PyData.eqv] at e
      simp only [PySem.W.keyToks,List.cons_append,List.nil_append]
      rw [lex_diff (O:=itemOrd) (fun q=>hne (Sum.inl.inj q))]
      rfl
  | .tuple xs,.tuple ys,c,hx,hy,h=>by
    unfold gLtN at h
    unfold isRow at hx hy
    have t:=ltL_toks xs ys c hx hy h
    simp only [PySem.W.keyToks,PyData.eqv]
    exact t
  | .int _,.tuple _,_,_,_,h=>by unfold gLtN at h; cases h
  | .tuple _,.int _,_,_,_,h=>by unfold gLtN at h; cases h
  | .none,_,_,hx,_,_=>by unfold isRow at hx; cases hx
  | .bool _,_,_,hx,_,_=>by unfold isRow at hx; cases hx
  | .str _,_,_,hx,_,_=>by unfold isRow at hx; cases hx
  | .list _,_,_,hx,_,_=>by unfold isRow at hx; cases hx
  | .dict _,_,_,hx,_,_=>by unfold isRow at hx; cases hx
  | .int _,.none,_,_,hy,_=>by unfold isRow at hy; cases hy
  | .int _,.bool _,_,_,hy,_=>by unfold isRow at hy; cases hy
  | .int _,.str _,_,_,hy,_=>by unfold isRow at hy; cases hy
  | .int _,.list _,_,_,hy,_=>by unfold isRow at hy; cases hy
  | .int _,.dict _,_,_,hy,_=>by unfold isRow at hy; cases hy
  | .tuple _,.none,_,_,hy,_=>by unfold isRow at hy; cases hy
  | .tuple _,.bool _,_,_,hy,_=>by unfold isRow at hy; cases hy
  | .tuple _,.str _,_,_,hy,_=>by unfold isRow at hy; cases hy
  | .tuple _,.list _,_,_,hy,_=>by unfold isRow at hy; cases hy
  | .tuple _,.dict _,_,_,hy,_=>by unfold isRow at hy; cases hy
theorem ltL_toks:∀ (xs ys:List D) (c:Bool),isRows xs = true → isRows ys = true → gLtL xs ys = some c →
    (PyData.eqvAll xs ys = true → PySem.W.keyToksAll xs = PySem.W.keyToksAll ys ∧ c = false) ∧ (PyData.eqvAll xs ys = false → ∀ l m,PyProof.Rows.lexLt itemOrd (PySem.W.keyToksAll xs ++ l) (PySem.W.keyToksAll ys ++ m) = c)
  | [],[],c,_,_,h=>by
    unfold gLtL at h
    cases h
    exact ⟨fun _=>⟨rfl,rfl⟩,fun e=>absurd e (by simp [PyData.eqvAll])⟩
  | [],y :: ys,c,_,_,h=>by
    unfold gLtL at h
    cases h
    refine ⟨fun e=>absurd e (by simp [PyData.eqvAll]),fun _ l m=>?_⟩
    simp only [PySem.W.keyToksAll,List.cons_append,List.nil_append]
    rw [lex_diff (O:=itemOrd) (by simp)]
    simp [itemLt]
  | x :: xs,[],c,_,_,h=>by
    unfold gLtL at h
    cases h
    refine ⟨fun e=>absurd e (by simp [PyData.eqvAll]),fun _ l m=>?_⟩
    simp only [PySem.W.keyToksAll,List.cons_append,List.nil_append]
    rw [lex_diff (O:=itemOrd) (by simp)]
    simp [itemLt]
  | x :: xs,y :: ys,c,hx,hy,h=>by
    unfold isRows at hx hy
    rw [Bool.and_eq_true] at hx hy
    unfold gLtL at h
    rw [PySem.W.eqv_all_cons,PySem.W.toks_all_cons,PySem.W.toks_all_cons]
    cases he:PyData.eqv x y with
    | true =>
      rw [if_pos he] at h
      obtain ⟨b1,b2⟩:=ltL_toks xs ys c hx.2 hy.2 h
      have tk:=row_same x y hx.1 hy.1 he
      rw [tk,Bool.true_and]
      refine ⟨fun e=>⟨by rw [(b1 e).1],(b1 e).2⟩,fun e l m=>?_⟩
      simp only [List.cons_append,List.append_assoc]
      exact (lex_self (O:=itemOrd) _ _ _).trans ((PySem.W.lex_pre _ _ _).trans (b2 e l m))
    | false =>
      rw [if_neg (by rw [he]; exact Bool.false_ne_true)] at h
      obtain ⟨a1,a2⟩:=lt_toks x y c hx.1 hy.1 h
      rw [Bool.false_and]
      refine ⟨fun e=>absurd e Bool.false_ne_true,fun _ l m=>?_⟩
      simp only [List.cons_append,List.append_assoc]
      exact (lex_self (O:=itemOrd) _ _ _).trans (a2 he _ _)
theorem row_same:∀ (x y:D),isRow x = true → isRow y = true → PyData.eqv x y = true → x = y
  | .int a,y,_,hy,h=>by
    cases y <;> first | (unfold isRow at hy; cases hy; done) | skip
    · rename_i b
      have:a = b:=by simpa [PyData.eqv] using h
      rw [this]
    · simp [PyData.eqv] at h
  | .tuple xs,y,hx,hy,h=>by
    cases y <;> first | (unfold isRow at hy; cases hy; done) | skip
    · simp [PyData.eqv] at h
    · rename_i ys
      unfold isRow at hx hy
      unfold PyData.eqv at h
      rw [rows_same xs ys hx hy h]
  | .none,_,hx,_,_=>by unfold isRow at hx; cases hx
  | .bool _,_,hx,_,_=>by unfold isRow at hx; cases hx
  | .str _,_,hx,_,_=>by unfold isRow at hx; cases hx
  | .list _,_,hx,_,_=>by unfold isRow at hx; cases hx
  | .dict _,_,hx,_,_=>by unfold isRow at hx; cases hx
theorem rows_same:∀ (xs ys:List D),isRows xs = true → isRows ys = true → PyData.eqvAll xs ys = true → xs = ys
  | [],[],_,_,_=>rfl
  | [],_ :: _,_,_,h=>by unfold PyData.eqvAll at h; cases h
  | _ :: _,[],_,_,h=>by unfold PyData.eqvAll at h; cases h
  | x :: xs,y :: ys,hx,hy,h=>by
    unfold isRows at hx hy
    rw [Bool.and_eq_true] at hx hy
    unfold PyData.eqvAll at h
    rw [Bool.and_eq_true] at h
    rw [row_same x y hx.1 hy.1 h.1,rows_same xs ys hx.2 hy.2 h.2]
end
theorem rowKind_some {h:Heap} {ds:List D} (hr:∀ d ∈ ds,isRow d = true) {v:Value} {d:D} {as:List Addr} (hd:d ∈ ds) (r:Reads h v d as):(PySem.W.dataKind h ds).keyOf v = some (PySem.W.keyToks d):=by
  have q:∃ d,d ∈ ds ∧ ∃ as,Reads h v d as:=⟨d,hd,as,r⟩
  have e:(PySem.W.dataKind h ds).keyOf v = some (PySem.W.keyToks q.choose):=by
    show (open Classical in if q:∃ d,d ∈ ds ∧ ∃ as,Reads h v d as then some (PySem.W.keyToks q.choose) else none) = _
    rw [dif_pos q]
  obtain ⟨h1,as',h2⟩:=q.choose_spec
  have z:q.choose = d:=(readOf_eq (row_lay _ (hr _ h1)) h2).symm.trans (readOf_eq (row_lay _ (hr _ hd)) r)
  rw [e,z]
section
variable {prog:Program} {w:World} {A:Around} {s:Shared}
theorem katLex_rows {b fin:Bool} {Q:Bool → Shared → Prop}:∀ (xs ys:List D) (i:Nat) (vs ws:List Value) (as bs:List Addr) (c:Bool),ReadsAll s.heap vs xs as → ReadsAll s.heap ws ys bs → isRows xs = true → isRows ys = true → gLtL xs ys = some c →
    A.units + min (PyData.depthAll xs) (PyData.depthAll ys) < cLine → (b = true → i = 0 → ∀ x r,xs = x :: r → ∃ j,x = .int j) → fin = decide (xs.length < ys.length) → Q c s → PySem.W.KatLex prog w A b fin Q (vs.zip ws) i s
  | [],ys,i,_,_,_,_,c,ra,rb,_,_,h,_,_,hf,hq=>by
    cases ra
    unfold gLtL at h
    cases h
    have e:fin = decide (0 < ys.length):=hf
    subst e
    rw [List.zip_nil_left]
    exact PySem.W.kat_nil hq
  | x :: xs,[],i,_,_,_,_,c,ra,rb,_,_,h,_,_,hf,hq=>by
    cases rb
    unfold gLtL at h
    cases h
    have e:fin = false:=by rw [hf]; exact decide_eq_false (Nat.not_lt_zero _)
    subst e
    rw [List.zip_nil_right]
    exact PySem.W.kat_nil hq
  | x :: xs,y :: ys,i,_,_,_,_,c,ra,rb,hx,hy,h,hu,hb,hf,hq=>by
    unfold isRows at hx hy
    rw [Bool.and_eq_true] at hx hy
    unfold gLtL at h
    have hf':fin = decide (xs.length < ys.length):=by
      rw [hf]
      simp only [List.length_cons,Nat.add_lt_add_iff_right]
    cases ra with
    | cons r rs =>
      cases rb with
      | cons r' rs' =>
        rw [List.zip_cons_cons]
        refine PySem.W.kat_cons (eqAt_reads x y A s _ _ _ _ r r' (row_lay _ hx.1) (row_lay _ hy.1) (room_head hu) prog w _ _ ?_)
        cases he:PyData.eqv x y with
        | true =>
          rw [if_pos he] at h
          exact PySem.W.kat_yes (katLex_rows xs ys (i + 1) _ _ _ _ c rs rs' hx.2 hy.2 h (room_tail hu) (fun _ hi=>absurd hi (Nat.succ_ne_zero i)) hf' hq)
        | false =>
          rw [if_neg (by rw [he]; exact Bool.false_ne_true)] at h
          refine PySem.W.kat_no ?_
          cases hbi:(b && i == 0) with
          | false =>
            rw [oneLt'_eq]
            simp only [Bool.false_eq_true,if_false]
            exact wpAny_bind (lt_at x y A s _ _ _ _ c h r r' (row_lay _ hx.1) (row_lay _ hy.1) (room_head hu) prog w _ _ (wpAny_truthy_bool hq))
          | true =>
            rw [Bool.and_eq_true] at hbi
            obtain ⟨j,rfl⟩:=hb hbi.1 (by simpa using hbi.2) x xs rfl
            cases y with
            | int k =>
              unfold gLtN at h
              cases h
              cases r
              cases r'
              exact oneLt_int hq
            | _=>unfold gLtN at h; cases h
theorem dataLt_row {x y:D} {c:Bool} (hx:isRow x = true) (hy:isRow y = true) (h:gLtN x y = some c):PySem.W.dataLt x y = c:=by
  obtain ⟨a,b⟩:=lt_toks x y c hx hy h
  unfold PySem.W.dataLt
  cases e:PyData.eqv x y with
  | true=>rw [(a e).1,(a e).2]; exact lex_irrefl _
  | false =>
    have:=b e [] []
    rwa [List.append_nil,List.append_nil] at this
theorem sortsAt_rows {vs:List Value} {ds:List D} (e:PySem.W.EachIs (fun v d=>∃ as,Reads s.heap v d as) vs ds) (hr:∀ d ∈ ds,isRow d = true) (hc:∀ d ∈ ds,∀ d' ∈ ds,∃ c,gLtN d d' = some c) (hi:∀ d ∈ ds,∃ j r,d = .tuple (.int j :: r))
    (hu:∀ d,d ∈ ds → A.units + d.depth < cLine):PySem.W.SortsAt prog w A s (PySem.W.dataKind s.heap ds) vs:=by
  have room:∀ {d d':D},d ∈ ds → A.units + min d.depth d'.depth < cLine:=fun {d d'} hd=>Nat.lt_of_le_of_lt (Nat.add_le_add_left (Nat.min_le_left _ _) _) (hu d hd)
  refine ⟨fun v hv=>?_,tuples' true,?_,fun h2 E Q hq=>?_⟩
  · obtain ⟨d,hd,as,r⟩:=e.left v hv
    exact ⟨_,rowKind_some hr hd r⟩
  · intro E x y a b Q ha hb hq
    obtain ⟨d,as,hd,ra,rfl⟩:=PySem.W.dataKind_inv ha
    obtain ⟨d',as',hd',rb,rfl⟩:=PySem.W.dataKind_inv hb
    obtain ⟨c,hl⟩:=hc d hd d' hd'
    have hroom:=room (d':=d') hd
    have rd:=hr d hd
    have rd':=hr d' hd'
    obtain ⟨j1,r1,rfl⟩:=hi d hd
    obtain ⟨j2,r2,rfl⟩:=hi d' hd'
    have hq':Q (PySem.W.dataLt (.tuple (.int j1 :: r1)) (.tuple (.int j2 :: r2))) s:=hq
    rw [dataLt_row rd rd' hl] at hq'
    unfold gLtN at hl
    unfold isRow at rd rd'
    cases ra with
    | @tuple l o xs n _ _ h1 h2 h3 h4 =>
      cases rb with
      | @tuple l' o' xs' n' _ _ k1 k2 k3 k4 =>
        have n1:xs.size = (PyData.int j1 :: r1).length:=by simpa using SeqAt.ReadsAll.length _ _ _ h4
        have n2:xs'.size = (PyData.int j2 :: r2).length:=by simpa using SeqAt.ReadsAll.length _ _ _ k4
        refine PySem.W.kat_lt h1 h3 k1 k3 (katLex_rows (.int j1 :: r1) (.int j2 :: r2) 0 _ _ _ _ c h4 k4 rd rd' hl (by unfold PyData.depth at hroom; have q:=SeqAt.room_in hroom; omega) (fun _ _ x r ex=>?_) (by rw [n1,n2]) hq')
        obtain ⟨rfl,rfl⟩:=List.cons.inj ex
        exact ⟨j1,rfl⟩
  · obtain ⟨fs,t1,t2,t3⟩:=PySem.W.each_katTups e (fun d hd=>by
      obtain ⟨j,r,rfl⟩:=hi d hd
      exact ⟨_,_,rfl⟩)
    refine PySem.W.kat_kind (T:=.type "int") t1 (by omega) (fun f hf=>?_) (beq_self_eq_true _) hq
    obtain ⟨x,r,as,m1,m2⟩:=t3 f hf
    obtain ⟨j,r',ej⟩:=hi _ m1
    cases ej
    exact PySem.W.looks_reads m2
theorem sortRows_data {h':Heap} {R:Value → D → Prop} {vs:List Value} {ds:List D} (e:PySem.W.EachIs R vs ds) (er:PySem.W.EachIs (fun v d=>∃ as,Reads h' v d as) vs ds) (hr:∀ d ∈ ds,isRow d = true) :
    PySem.W.EachIs R (PySem.W.sortVals (PySem.W.dataKind h' ds) false vs vs) (ds.mergeSort (PySem.W.dataLe false id)):=
  PySem.W.sortVals_each (κ:=PySem.W.dataKind h' ds) (fun b=>PySem.W.keyToks b) e ((PySem.W.each_mem er).mono fun _ _ ⟨⟨_,r⟩,hd⟩=>rowKind_some hr hd r)
end
namespace RV
section
variable {prog:Program} {w:World} {A:Around} {E:Value → Shared → Prop} {s:Shared}
theorem sorted_tupR {vs:List Value} {ds:List D} {R:Value → D → Prop} {t:Addr} {Q:Value → Shared → Prop} (ht:IsTup s.heap t vs.toArray) (e:PySem.W.EachIs R vs ds) (er:PySem.W.EachIs (fun v d=>∃ as,Reads s.heap v d as) vs ds)
    (hr:∀ d ∈ ds,isRow d = true) (hc:∀ d ∈ ds,∀ d' ∈ ds,∃ c,gLtN d d' = some c) (hi:∀ d ∈ ds,∃ j r,d = .tuple (.int j :: r)) (hL:ds.length ≤ sizeLine)
    (hu:∀ d,d ∈ ds → A.units + 2 + d.depth < cLine) (h:∀ out,out.length = ds.length → PySem.W.EachIs R out (ds.mergeSort (PySem.W.dataLe false id)) → Q (.ref (s.heap.objs.size + 1)) { s with heap:=sortedAll s.heap vs (List.toArray out) }) :
    wpAny (model prog w) A (call (.builtin "sorted") [.ref t]) Q E s:=by
  have hL':vs.length ≤ sizeLine:=by rw [e.length]; exact hL
  have er':PySem.W.EachIs (fun v d=>∃ as,Reads (PySem.W.sortingHeap (PySem.W.copyHeap s.heap vs) (s.heap.objs.size + 1) vs) v d as) vs ds:=er.mono fun _ _ ⟨as,r⟩=>⟨as,PyProof.Rows.Reads.keeps (fun _ _=>PySem.W.sorting_copy_old) r⟩
  exact sorted_of_sortT ht hL' (args_sorted1 _) (fun _=>args_list_sort _) fun _ =>
    PySem.W.list_sort_vals (s:={ s with heap:=PySem.W.copyHeap s.heap vs }) (PySem.W.copyHeap_at s.heap vs)
      (sortsAt_rows (s:={ s with heap:=PySem.W.sortingHeap (PySem.W.copyHeap s.heap vs) (s.heap.objs.size + 1) vs }) er' hr hc hi hu) hL'
      ⟨rfl,h _ (by rw [PySem.W.sortVals_length false rfl]; exact e.length) (sortRows_data e er' hr)⟩
end
end RV
def isI1:D → Bool
  | .tuple (.int _ :: _)=>true
  | _=>false
def sortOkR (ds:List D):Bool:=decide (ds.length ≤ 16777216) && (ds.all isRow) && (ds.all fun d=>ds.all fun e=>(gLtN d e).isSome) && (ds.all isI1) && ds.all fun d=>decide (d.depth ≤ 40)
theorem sortOkR_of {ds:List D} (h:sortOkR ds = true):ds.length ≤ 16777216 ∧ (∀ d ∈ ds,isRow d = true) ∧ (∀ d ∈ ds,∀ d' ∈ ds,∃ c,gLtN d d' = some c) ∧ (∀ d ∈ ds,∃ j r,d = .tuple (.int j :: r)) ∧ ∀ d ∈ ds,d.depth ≤ 40:=by
  unfold sortOkR at h
  simp only [Bool.and_eq_true,decide_eq_true_eq,List.all_eq_true] at h
  obtain ⟨⟨⟨⟨h1,h2⟩,h3⟩,h4⟩,h5⟩:=h
  refine ⟨h1,h2,fun d hd e he=>Option.isSome_iff_exists.mp (h3 d hd e he),fun d hd=>?_,h5⟩
  have z:=h4 d hd
  unfold isI1 at z
  split at z
  · exact ⟨_,_,rfl⟩
  · cases z
section
variable [Tbs]
def rSortR (K:PySem.W.Frag):List V → Hp → VK → Prop:=fun vs H Q=>∃ (F:Hp) (a:Addr) (xs:List V) (ds:List D),vs = [V.ref a] ∧ Same F H ∧ SqT K H a xs ∧ DpAll K F xs ds ∧ sortOkR ds = true ∧
  ∀ ys p,DpAll K F ys (srtD false ds) → H p = none → Q (.ref p) (upd H p (.lst ys))
theorem cr_sortR {X:Cx} (hu:X.A.units + 65 < cLine):CallR X (.builtin "sorted") (rSortR X.K):=by
  intro pins s σ H vs us Q I r h
  obtain ⟨F,a,xs,ds,rfl,sF,hs,hd,ok,q⟩:=h
  obtain ⟨its,rv,hl,hz⟩:=I.tuple hs
  rw [Vals.ref1 r]
  obtain ⟨o1,o2,o3,o4,o5⟩:=sortOkR_of ok
  have e:=rowsD hd rv
  refine RV.sorted_tupR (R:=RowD X.K F) hl e (e.mono fun v d ⟨x,rx,dx⟩=>Dp.reads I d x v (Dp.mono sF _ _ dx) rx) o2 o3 o4 (by rw [sizeLine_eq]; exact o1) (fun d m=>?_) fun out lo eo=>?_
  · have:=o5 d m
    show X.A.units + 2 + d.depth < cLine
    omega
  · obtain ⟨ys,ry,dy,ly⟩:=outsD eo
    obtain ⟨cc,at_⟩:=sortedAll_at s.heap its (List.toArray out)
    refine ⟨.ref (s.heap.objs.size + 1),upd H (s.heap.objs.size + 1) (.lst ys),I.laid (t':=s.toks) (fun b o e=>sortedAll_old e) (Nat.le_succ _) (show ObjOk X.prog X.w _ _ _ (.lst ys) from ⟨?_,out,cc,ry,at_⟩),rfl,q ys _ dy (I.hok.fresh (Nat.le_succ _))⟩
    rw [ly,List.length_mergeSort,sizeLine_eq]
    exact o1
def rSortW (K:PySem.W.Frag):List V → Hp → VK → Prop:=fun vs H Q=>rSortA K vs H Q ∨ rSortR K vs H Q
theorem cr_sortW {X:Cx} (hu:X.A.units + 65 < cLine):CallR X (.builtin "sorted") (rSortW X.K):=by
  intro pins s σ H vs us Q I r h
  rcases h with h | h
  · exact cr_sortA hu pins s σ H vs us Q I r h
  · exact cr_sortR hu pins s σ H vs us Q I r h
def fSortR:List Rv → Option Rv:=fun xs=>match xs with
  | [x]=>match x.items with
    | some _=>none
    | none=>match x.tup with
      | some ds=>if sortOkR ds then some (.l (srtD false ds)) else none
      | none=>none
  | _=>none
def fSortW:List Rv → Option Rv:=fun xs=>match fSortA xs with
  | some r=>some r
  | none=>fSortR xs
theorem calld_sortR {K:PySem.W.Frag}:CallD K (rSortR K) fSortR:=by
  intro xs z vs As F H t Q e s k vx q
  match xs,vx with
  | [x],.cons h .nil =>
    simp only [fSortR] at e
    cases e1:x.items with
    | some ds=>rw [e1] at e; cases e
    | none =>
      rw [e1] at e
      simp only at e
      cases e2:x.tup with
      | none=>rw [e2] at e; cases e
      | some ds =>
        rw [e2] at e
        simp only at e
        split at e
        · rename_i ok
          cases e
          obtain ⟨p,ws,rfl,hs,a⟩:=h.tup e2
          refine ⟨F,p,ws,ds,rfl,k,Same.seqT k hs,a,ok,fun ys l dy n=>?_⟩
          obtain ⟨⟨g,s'⟩,_⟩:=alloc (o:=.lst ys) s k n
          exact q F _ _ g s' ⟨l,_,rfl,fun z=>s.ok.there l z n,k.free n,upd_same,dy⟩ ⟨l,rfl,n⟩
        · cases e
theorem calld_sortW {K:PySem.W.Frag}:CallD K (rSortW K) fSortW:=by
  intro xs z vs As F H t Q e s k vx q
  unfold fSortW at e
  cases h:fSortA xs with
  | some r =>
    rw [h] at e
    exact .inl (calld_sortA (h.trans e) s k vx q)
  | none =>
    rw [h] at e
    exact .inr (calld_sortR e s k vx q)
section
variable {X:Cx} {P:Pm} {k:Nat} (c:Ct X P k) {a:Expr} {es:List Expr} {m:AM} {p pos:Pos}
include c
theorem x_sortW (hm:X.mg "sorted" = none) (ha:SA X P (a :: es) m) (hg:Gl X "sorted" := by rfl) (he:starEach (a :: es) X.env = (false,eval a X.env) :: starEach es X.env:=by rfl) (hpl:(backTo pos (starEach es X.env)).any (·.1) = false:=by rfl) :
    SE X P (.Call (.Name "sorted" p) (a :: es) [] pos) (mCallB fSortW m):=se_callB (r:=rSortW X.K) (cr_sortW c.u65) (by rw [c.hK]; exact calld_sortW) hg hm rfl ha (by decide) (by decide) he hpl
end
end
end DL
end
section
namespace DL
open PySem PySem.Spec PyProof.Rows L2
variable [Tbs]
def rTimes (K:PySem.W.Frag):R2:=fun a b H Q=>∃ p j vs,a = .ref p ∧ b = .int j ∧ SqT K H p vs ∧ 1 ≤ vs.length ∧ vs.length ≤ 1000 ∧ 2 ≤ j ∧ j ≤ 1000 ∧ NewT H (List.replicate j.toNat vs).flatten Q
omit [Tbs] in
theorem times_len {α:Type} (m:Nat) (l:List α) (hm:m ≤ 1000) (hl:l.length ≤ 1000):(List.replicate m l).flatten.length ≤ 1000000:=by
  rw [PyProof.Rows.lm_len_rep_flat]
  exact Nat.le_trans (Nat.mul_le_mul hm hl) (by decide)
omit [Tbs] in
theorem op_times {X:Cx}:OpR X (binaryOp .Mult) (rTimes X.K):=by
  intro pins s σ H a b v u Q I ra rb h
  obtain ⟨p,j,vs,ea,eb,tp,n1,n2,j1,j2,q⟩:=h
  subst ea eb
  cases ra
  obtain ⟨tk,rfl⟩:=rb
  obtain ⟨ws,rel,isT,lw⟩:=I.tuple tp
  obtain ⟨ob,at_,isC,m,isD⟩:=isT
  obtain ⟨oc,od,odt,os⟩:=ob
  simp only at isC isD
  subst isC isD
  have lv:ws.length = vs.length:=rel.length.symm
  have big:(List.replicate j.toNat ws).flatten.length ≤ 1000000:=times_len _ _ (by omega) (by omega)
  have siz:((ws.toArray.size:Nat):Int) = (vs.length:Int):=by rw [List.size_toArray,lv]
  have prod:((ws.toArray.size:Nat):Int) * j ≤ 1000000:=by
    rw [siz]
    have w:(vs.length:Int) * j ≤ (vs.length:Int) * 1000:=Int.mul_le_mul_of_nonneg_left j2 (by omega)
    omega
  have emp:ws.toArray.isEmpty = false:=by
    cases ws with
    | nil=>simp at lv; omega
    | cons x l=>rfl
  have g0:(decide (j < -(2 ^ 63)) || decide (j ≥ 2 ^ 63)) = false:=by
    simp only [Bool.or_eq_false_iff,decide_eq_false_iff_not]
    exact ⟨by omega,by omega⟩
  have g1:(ws.toArray.isEmpty || j == 1) = false:=by
    rw [emp]
    simp only [Bool.false_or,beq_eq_false_iff_ne]
    omega
  have g2:(decide (j ≤ 0) || ws.toArray.isEmpty) = false:=by
    rw [emp]
    simp only [Bool.or_false,decide_eq_false_iff_not]
    omega
  have g3:Builtin.Tuple.tupleTooMany (((ws.toArray.size:Nat):Int) * j) = false:=by
    unfold Builtin.Tuple.tupleTooMany
    simp only [decide_eq_false_iff_not,sizeLine_eq]
    omega
  have here:s.TypeIs (.ref p) "tuple" := ⟨_,at_,rfl⟩
  have meet:=tuple_mulW p ws.toArray m od os j tk g0 g1 g2 (by omega) g3 (by
    rw [size_rep,List.size_toArray,sizeLine_eq]
    omega)
  have turn:=int_rmul_tuple j tk p ws.toArray m od os
  refine wpAny_binaryOp_repeat_ref (T := "tuple") (U := "int") (by decide) here (fun z=>typeIs_int z j tk) noFill_tuple_mul F.fills_int_mul
    F.slot_int_rmul repeat_tuple F.slot_int_index.lookup ?_
  refine call_meets F.slot_int_rmul (typeIs_int s j tk) F.entry_int_rmul (F.args_int_rmul_2 _ _) turn ?_
  refine ⟨at_,rfl,here,?_⟩
  refine call_meets F.slot_tuple_mul here F.entry_tuple_mul (F.args_tuple_mul_2 _ _) meet ⟨at_,?_⟩
  rw [size_rep]
  exact newT (s:=s) (h':=s.heap) (t':=s.toks) I (by rw [sizeLine_eq]; exact Nat.le_trans (times_len _ _ (by omega) n2) (by decide)) (rel.rep j.toNat) q
def fMulT:Rv → Rv → Option Rv:=fun x y=>match y with
  | .d (.int k)=>x.tup.bind fun xs=>if 1 ≤ xs.length ∧ xs.length ≤ 1000 ∧ 2 ≤ k ∧ k ≤ 1000 then some (.d (.tuple (List.replicate k.toNat xs).flatten)) else none
  | _=>none
omit [Tbs] in
theorem dpRep {K:PySem.W.Frag} {H:Hp} {vs:List V} {ds:List D} (h:DpAll K H vs ds):∀ m:Nat,DpAll K H (List.replicate m vs).flatten (List.replicate m ds).flatten
  | 0=>DpAll.nil
  | m + 1=>by
    rw [List.replicate_succ,List.replicate_succ,List.flatten_cons,List.flatten_cons]
    exact DpAll.append h (dpRep h m)
omit [Tbs] in
theorem opd_times {K:PySem.W.Frag} [Tbs]:OpD K (rTimes K) fMulT:=by
  intro x y z v u As F H t Q e s k vx vy q
  unfold fMulT at e
  split at e
  · rename_i j
    cases e1:x.tup with
    | none=>simp [e1] at e
    | some xs =>
      simp only [e1,Option.bind_some] at e
      split at e
      · rename_i hz
        cases e
        obtain ⟨p,vs,rfl,h1,a1⟩:=vx.tup e1
        cases vy
        have ll:=a1.length
        refine ⟨p,j,vs,rfl,rfl,Same.seqT k h1,by omega,by omega,hz.2.2.1,hz.2.2.2,fun a o n ho=>?_⟩
        obtain ⟨g,s'⟩:=alloc_tup (vs:=(List.replicate j.toNat vs).flatten) s k n ho
        exact q _ _ _ g s' (Dp.tup sqN (DpAll.mono g.ff _ _ (dpRep a1 j.toNat))) trivial
      · cases e
  · cases e
section
variable {X:Cx} {P:Pm} {k:Nat} {a b:Expr} {ma mb:EM} {pos:Pos} (c:Ct X P k)
include c
theorem x_times (ha:SE X P a ma) (hb:SE X P b mb):SE X P (.BinOp a .Mult b pos) (mBin fMulT ma mb):=se_bin op_times (by rw [c.hK]; exact opd_times) ha hb
end
end DL
end
section
namespace DL
open PySem PySem.Spec PyProof.Rows L2
variable [Tbs]
def rGetL:V → V → Hp → VK → Prop:=fun o i H Q=>∃ p xs k j v,o = .ref p ∧ i = .int k ∧ H p = some (.lst xs) ∧ ixN xs.length k = some j ∧ xs[j]? = some v ∧ Q v H
omit [Tbs] in
theorem get_list {X:Cx}:PGet X rGetL:=by
  intro pins s σ H o i ov iv Q I ro ri h
  obtain ⟨p,xs,k,j,v,e1,e2,hp,hj,hv,q⟩:=h
  subst e1 e2
  cases ro
  obtain ⟨t,rfl⟩:=ri
  obtain ⟨its,r,pl,hz⟩:=I.list (.of hp)
  obtain ⟨h1,h2,h3,h4⟩:=ixN_seq hj
  obtain ⟨w,ew,rw'⟩:=r.get hv
  have hl:=r.length
  have hn:=line63
  have fin:EP X pins σ Q w s:=⟨v,H,I,rw',q⟩
  by_cases h0:0 ≤ k
  · have hk:k.toNat = j:=by
      rw [seqIndex_of h0 h4] at h1
      exact Option.some.inj h1
    exact wpAny_getItem_list pl.isList h0 (by omega) (by rw [hk]; simpa using ew) fin
  · have hk:(k + (its.toArray.size:Int)).toNat = j:=by
      rw [seqIndex_neg (by omega) h3] at h1
      rw [List.size_toArray,← hl]
      exact Option.some.inj h1
    exact wpAny_getItem_list_neg pl.isList (by omega) (by rw [List.size_toArray] <;> omega) (by omega) (by rw [hk]; simpa using ew) fin
section
variable {X:Cx} {P:Pm} {a b:Expr} {ma mb:EM} {pos npos:Pos} {k:Nat}
def sAug (i:Nat) (mi m:EM) (f:Int → Int → Int):SM:=fun G t=>match G[i]? with
  | some (.l _)=>(mi G t).fz.bindS G fun r1 t1=>(match r1,G[i]? with
    | .d (.int k),some (.l xs)=>(match ixN xs.length k with
      | some j=>(match xs[j]? with
        | some (.int x)=>(m G t1).fz.bindS G fun r2 t2=>(match r2,G[i]? with
          | .d (.int y),some (.l ys)=>.nx (G.set i (.l (ys.set j (.int (f x y))))) t2
          | _,_=>.stuck)
        | _=>.stuck)
      | none=>.stuck)
    | _,_=>.stuck)
  | _=>.stuck
theorem ss_aug {i:Nat} {x:Str} {p':Pos} {op:Operator} {f:Int → Int → Int} (hN:X.N[i]? = some x) (hv:Vis X.env.scope x) (hd:(x == ("__debug__" : Str)) = false) (hcd:(x == ("__classdict__" : Str)) = false) (hi:SE X P b mb) (ha:SE X P a ma)
    (h:PE X (.Name x npos) (tVar i) → PE X b (teM P fun G t=>(mb G t).fz) → PE X a (teM P fun G t=>(ma G t).fz) → PS X (.AugAssign (.Subscript (.Name x npos) b p') op a pos) (tAugS (tVar i) (teM P fun G t=>(mb G t).fz) (teM P fun G t=>(ma G t).fz) rGetL (ipI f) rSetL)) :
    SS X P (.AugAssign (.Subscript (.Name x npos) b p') op a pos) (sAug i mb ma f):=by
  refine L2.PS.imp (h (pe_var hN hv hd hcd) hi.fz ha.fz) fun D σ H ⟨B,As,F,G,t,R,p⟩=>?_
  unfold sAug at p
  split at p
  · rename_i xs e
    obtain ⟨q,vs,ev,hq,hda⟩:=slot_l R e
    refine ⟨.ref q,ev,As,F,G,t,R.rel,bindSE R p fun As1 F1 H1 v1 r1 t1 em g R1 x1 fr p1=>?_⟩
    clear em
    split at p1
    · rename_i k xs' ex
      rw [e] at ex
      cases ex
      split at p1
      · rename_i j ej
        split at p1
        · rename_i z ez
          cases x1
          obtain ⟨q',vs',ev',hq',hda'⟩:=slot_l R1 e
          rw [ev] at ev'
          cases ev'
          obtain ⟨v0,hv0,dv0⟩:=hda'.get ez
          cases dv0
          refine ⟨q,vs',k,j,.int z,rfl,rfl,hq',by rw [hda'.length]; exact ej,hv0,As1,F1,G,t1,R1.rel,bindSE R1 p1 fun As2 F2 H2 v2 r2 t2 em2 g2 R2 x2 fr2 p2=>?_⟩
          clear em2
          split at p2
          · rename_i y ys ey
            rw [e] at ey
            cases ey
            cases x2
            obtain ⟨q3,vs3,ev3,hq3,hda3⟩:=slot_l R2 e
            rw [ev] at ev3
            cases ev3
            have dz:Dp P.K F2 (.int (f z y)) (.int (f z y)):=.int _
            exact ⟨z,y,rfl,rfl,q,vs3,k,j,rfl,rfl,hq3,by rw [hda3.length]; exact ej,p2 As2 F2 σ _ (R2.write e ev hq3 (DpAll.set dz j hda3)) (Same.refl _)⟩
          · exact p2.elim
        · exact p1.elim
      · exact p1.elim
    · exact p1.elim
  · exact p.elim
theorem s_augAdd (c:Ct X P k) (i:Nat) {x:Str} {p':Pos} (hv:Vis X.env.scope x) (hi:SE X P b mb) (ha:SE X P a ma) (hN:X.N[i]? = some x:=by rfl) (hd:(x == ("__debug__" : Str)) = false:=by decide) (hcd:(x == ("__classdict__" : Str)) = false:=by decide)
    (hst:∀ ov iv new,augStore b ov iv new = (do holding [new,ov,iv] (setItem ov iv new); release [new,ov,iv] []; pure .next):=by intros; rfl) :
    SS X P (.AugAssign (.Subscript (.Name x npos) b p') .Add a pos) (sAug i mb ma fun x y=>x + y):=ss_aug hN hv hd hcd hi ha fun h1 h2 h3=>ps_augS h1 h2 get_list h3 ip_add set_list hst
theorem s_augSub (c:Ct X P k) (i:Nat) {x:Str} {p':Pos} (hv:Vis X.env.scope x) (hi:SE X P b mb) (ha:SE X P a ma) (hN:X.N[i]? = some x:=by rfl) (hd:(x == ("__debug__" : Str)) = false:=by decide) (hcd:(x == ("__classdict__" : Str)) = false:=by decide)
    (hst:∀ ov iv new,augStore b ov iv new = (do holding [new,ov,iv] (setItem ov iv new); release [new,ov,iv] []; pure .next):=by intros; rfl) :
    SS X P (.AugAssign (.Subscript (.Name x npos) b p') .Sub a pos) (sAug i mb ma fun x y=>x - y):=ss_aug hN hv hd hcd hi ha fun h1 h2 h3=>ps_augS h1 h2 get_list h3 ip_sub set_list hst
end
end DL
end
section
namespace DL
open PySem PySem.Spec PyProof.Rows L2
variable [Tbs]
def rangeN (lo:Int) (n:Nat):List D:=(List.range n).map fun (i:Nat)=>.int (lo + (i:Int) * (-1))
def rng3:Rv → Rv → Rv → Option (List D)
  | .d (.int i),.d (.int j),.d (.int k)=>if rngOk i && rngOk j && decide (k = -1) then some (rangeN i (i - j).toNat) else none
  | _,_,_=>none
def mRange3 (m m' m'':EM):IM:=fun G t=>(m G t).fz.bind fun r t=>(m' G t).fz.bind fun r' t=>(m'' G t).fz.bind fun r'' t=>.of (rng3 r r' r'') t
section
variable {a b d:EM} {G:Gm} {t:Option DS} {r:Rv}
def Rs.ra1 (r:Rs Rv) (b d:EM) (G:Gm):Rs (List D):=r.fz.bind fun r t=>(b G t).fz.bind fun r' t=>(d G t).fz.bind fun r'' t=>.of (rng3 r r' r'') t
def Rs.ra2 (r:Rs Rv) (x:Rv) (d:EM) (G:Gm):Rs (List D):=r.fz.bind fun r' t=>(d G t).fz.bind fun r'' t=>.of (rng3 x r' r'') t
def Rs.ra3 (r:Rs Rv) (x y:Rv):Rs (List D):=r.fz.bind fun r'' t=>.of (rng3 x y r'') t
omit [Tbs] in theorem ap_rng3:mRange3 a b d G t = Rs.ra1 (a G t) b d G:=(rfl)
omit [Tbs] in theorem ra1_ok:Rs.ra1 (.ok r t) b d G = Rs.ra2 (b G t) r.fz d G:=(rfl)
omit [Tbs] in theorem ra2_ok {x:Rv}:Rs.ra2 (.ok r t) x d G = Rs.ra3 (d G t) x r.fz:=(rfl)
omit [Tbs] in theorem ra3_ok {i j k:Int}:Rs.ra3 (.ok (.d (.int k)) t) (.d (.int i)) (.d (.int j)) = if (rngOk i && rngOk j && decide (k = -1)) = true then .ok (rangeN i (i - j).toNat) t else .stuck:=by
  show Rs.of (if rngOk i && rngOk j && decide (k = -1) then some (rangeN i (i - j).toNat) else none) t = _
  split <;> rfl
end
end DL
end
section
namespace DL
open PySem PySem.Spec PyProof.Rows L2
section
variable [Tbs]
def fSortRL:List Rv → Option Rv:=fun xs=>match xs with
  | [x]=>x.items.bind fun ds=>if sortOkR ds then some (.l (srtD false ds)) else none
  | _=>none
end
theorem fsortRL_l {xs:List D}:fSortRL [.l xs] = if sortOkR xs then some (.l (srtD false xs)) else none:=(rfl)
theorem fsortRL_d {xs:List D}:fSortRL [.d (.list xs)] = if sortOkR xs then some (.l (srtD false xs)) else none:=(rfl)
section
variable [Tbs]
theorem Rel.frz {P:Pm} {As:List Addr} {F H:Hp} {G:Gm} {t:Option DS} {σ:Sg} {i:Nat} {xs:List D} (R:Rel P.K P.xi As F G t σ H) (e:G[i]? = some (.l xs)) :
    ∃ q vs,F q = none ∧ H q ≠ none ∧ Same F (upd F q (.lst vs)) ∧ Rel P.K P.xi As (upd F q (.lst vs)) (G.set i (.d (.list xs))) t σ H:=by
  obtain ⟨v,e1,q,vs,e2,b1,b2,b3,b4⟩:=R.slot i _ e
  subst e2
  have hi:i < G.length:=(List.getElem?_eq_some_iff.mp e).1
  have k:Same F (upd F q (.lst vs)):=fun b o z=>by rw [upd_ne (ne_of_none z b2)]; exact z
  have kH:Same (upd F q (.lst vs)) H:=fun b o z=>by
    by_cases hb:b = q
    · subst hb; rw [upd_same] at z; cases z; exact b3
    · rw [upd_ne hb] at z; exact R.sub b o z
  refine ⟨q,vs,b2,by rw [b3]; simp,k,⟨kH,⟨R.st.ok.mono (KM.of k),fun r hr=>?_,R.st.tn.upd trivial⟩,by simp [R.len],fun j s ej=>?_,fun j l zs us w n e1 e2 e3 e4=>?_⟩⟩
  · rw [upd_ne (fun z=>b1 (by rw [← z]; exact hr))]; exact R.st.sf r hr
  · by_cases hj:j = i
    · subst hj
      rw [List.getElem?_set_self hi] at ej
      cases ej
      exact ⟨_,e1,Dp.lst (SqL.of upd_same) (DpAll.mono k _ _ b4)⟩
    · rw [List.getElem?_set_ne (Ne.symm hj)] at ej
      have sl:=R.slot j s ej
      cases s with
      | un=>trivial
      | d x=>obtain ⟨w,h1,h2⟩:=sl; exact ⟨w,h1,Dp.mono k _ _ h2⟩
      | l zs =>
        obtain ⟨w,h1,r,us,h2,c1,c2,c3,c4⟩:=sl
        subst h2
        refine ⟨_,h1,r,us,rfl,c1,?_,c3,DpAll.mono k _ _ c4⟩
        rw [upd_ne (fun z=>R.inj j i zs xs (.ref r) hj ej e h1 (by rw [z]; exact e1))]
        exact c2
      | c th =>
        obtain ⟨w,h1,h2⟩:=sl
        exact ⟨w,h1,P.xi.mono k ⟨[],(List.append_nil _).symm⟩ h2⟩
      | a _=>exact sl
      | s=>exact sl
      | e c fs =>
        obtain ⟨a',dd,h1,h2,ex⟩:=sl
        refine ⟨a',dd,h1,h2,?_⟩
        rcases ex with ex | ⟨a2,vs2,e3,c1,c2,c3⟩
        · exact .inl ex
        · exact .inr ⟨a2,vs2,e3,c1,c2,c3.mono k⟩
  · have nj:∀ {a:Nat} {zs:List PyData},(G.set i (.d (.list xs)))[a]? = some (.l zs) → a ≠ i:=fun {a zs} q z=>by subst z; rw [List.getElem?_set_self hi] at q; cases q
    have n1:=nj e1
    have n2:=nj e2
    rw [List.getElem?_set_ne (Ne.symm n1)] at e1
    rw [List.getElem?_set_ne (Ne.symm n2)] at e2
    exact R.inj j l zs us w n e1 e2 e3 e4
end
end DL
end
section
namespace DL
open PySem PySem.Spec PyProof.Rows L2
end DL
end
section
namespace DL
open PySem PySem.Spec PyProof.Rows L2
end DL
end
section
namespace DL
open PySem PySem.Spec PyProof.Rows L2
end DL
end
section
namespace DL
open PySem PySem.Spec PyProof.Rows L2
abbrev EnI:=List Int × Addr × V
abbrev EnV:=List Int × Addr × Value
abbrev RI (p:EnI) (q:EnV):Prop:=p.1 = q.1 ∧ p.2.1 = q.2.1 ∧ RelV p.2.2 q.2.2
abbrev kI (P:Program) (w:World):=tupleKind (intKind P w)
section
variable {X:Cx} {pins:List (Addr × Obj)} {σ:Sg} {H:Hp} {s:Shared} {a b:Addr} {es:List EnI} {k:List Int}
theorem dto_ok {P:Program} {w:World} {h:Heap} {xs:List EnV} (z:es.length ≤ sizeLine) (hd:(a == sysModules) = false) (r:Paired RI es xs) {o:Obj} {cs:Array DictEntry} {n:Nat} (h1:h.get? a = some o) (h2:o.ExactDict) (h3:o.data = .dict cs n) (h4:cs.toList = xs.map (entryOfKey (kI P w))) (h5:(xs.map (·.1)).Nodup):ObjOk P w H h a (DTO a es):=by
  refine ⟨⟨z,hd,xs,r,o,cs,n,h1,h2,h3,fun P' w'=>h4.trans rfl,h5⟩,⟨o,h1⟩,fun g1 g2 p k=>?_⟩
  obtain ⟨z,hd,xs,r,o,cs,n,h1,q⟩:=p
  exact ⟨z,hd,xs,r,o,cs,n,k o h1,q⟩
variable {A:Around} {E:Value → Shared → Prop} {y v d:V} {u r:Value} {ov:Option V}
end
def tNewI:TE:=fun _ H Q=>∀ p,H p = none → Q (.ref p) (upd H p (DTO p []))
section
variable {X:Cx} {o i e f value:Expr} {pos pos' apos cpos:Pos} {td ty tv tx:TE}
theorem dto_new {P:Program} {w:World} {H:Hp} (h:Heap) (hb:sysModules < h.objs.size):ObjOk P w H (h.push { cls:=.type "dict",data:=.dict #[] }) h.objs.size (DTO h.objs.size []):=
  dto_ok (P:=P) (w:=w) (xs:=[]) (Nat.zero_le _) (beq_eq_false_iff_ne.mpr (Ne.symm (Nat.ne_of_lt hb))) .nil (Heap.get?_push_size _ rfl) ⟨rfl,rfl,rfl⟩ rfl rfl List.nodup_nil
theorem pe_newI:PE X (.Dict [] [] pos) tNewI:=⟨fun pins s σ H Q I h =>
  wpAny_Dict_empty ⟨.ref s.heap.objs.size,_,I.laid (a:=s.heap.objs.size) (o:=DTO s.heap.objs.size []) (t':=s.toks) (fun _ _ q=>Heap.get?_push_of_some _ q) (Nat.le_refl _) (dto_new s.heap I.big),rfl,h _ (I.hok.fresh (Nat.le_refl _))⟩⟩
end
end DL
end
section
namespace DL
open PySem PySem.Spec PyProof.Rows L2
end DL
end
section
namespace DL
open PySem PySem.Spec PyProof.Rows L2
end DL
end
section
namespace DL
open PySem PySem.Spec PyProof.Rows L2
end DL
end
section
namespace DL
open PySem PySem.Spec PyProof.Rows L2
variable [Tbs]
def RefA (As:List Addr) (v:V) (k:Nat):Prop:=∃ d,v = .ref d ∧ sa As k = some d
theorem RefA.mono {As As':List Addr} {F H F' H':Hp} (g:Grow As F H As' F' H') {vs:List V} {ks:List Nat} (h:Paired (RefA As) vs ks):Paired (RefA As') vs ks:=
  Paired.mapP h fun _ _ ⟨d,a,b⟩=>⟨d,a,g.sa b⟩
end DL
end
section
namespace DL
open PySem PySem.Spec PyProof.Rows L2
end DL
end
section
namespace DL
open PySem PySem.Spec PyProof.Rows L2
end DL
end
section
namespace DL
open PySem PySem.Spec PyProof.Rows L2
end DL
end
section
namespace DL
open PySem PySem.Spec PyProof.Rows L2
end DL
end
section
namespace DL
open PySem PySem.Spec PyProof.Rows L2
end DL
end
section
namespace DL
open PySem PySem.Spec PyProof.Rows L2
end DL
end
section
namespace DL.RV
open PySem PySem.Spec PyProof.Rows
section
variable {prog:Program} {w:World} {A:Around} {E:Value → Shared → Prop} {s:Shared}
theorem sorted_tupRev {β:Type} {vs:List Value} {bs:List β} {enc:β → PyData} {R:Value → β → Prop} {t:Addr} {b:Bool} {Q:Value → Shared → Prop} (ht:IsTup s.heap t vs.toArray) (e:PySem.W.EachIs R vs bs) (er:PySem.W.EachIs (fun v b=>∃ as,Reads s.heap v (enc b) as) vs bs)
    (hal:PySem.W.AllAlike (bs.map enc)) (hk:PySem.W.Sortable (bs.map enc)) (hL:bs.length ≤ sizeLine)
    (hu:∀ b,b ∈ bs → A.units + 2 + (enc b).depth < cLine) (h:∀ out,out.length = bs.length → PySem.W.EachIs R out (bs.mergeSort (PySem.W.dataLe b enc)) → Q (.ref (s.heap.objs.size + 1)) { s with heap:=sortedAll s.heap vs (List.toArray out) }) :
    wpAny (model prog w) A (call (.builtin "sorted") [.ref t] [(Str.ofString "reverse",.bool b)]) Q E s:=by
  have hL':vs.length ≤ sizeLine:=by rw [e.length]; exact hL
  have er':PySem.W.EachIs (fun v b=>∃ as,Reads (PySem.W.sortingHeap (PySem.W.copyHeap s.heap vs) (s.heap.objs.size + 1) vs) v (enc b) as) vs bs:=er.mono fun _ _ ⟨as,r⟩=>⟨as,PyProof.Rows.Reads.keeps (fun _ _=>PySem.W.sorting_copy_old) r⟩
  exact sorted_of_sortT ht hL' (args_sorted_rev _ _) (fun _=>args_list_sort_rev _ _) fun _ =>
    PySem.W.list_sort_rev_vals (s:={ s with heap:=PySem.W.copyHeap s.heap vs }) (PySem.W.copyHeap_at s.heap vs)
      (PySem.W.SortsAt.data (s:={ s with heap:=PySem.W.sortingHeap (PySem.W.copyHeap s.heap vs) (s.heap.objs.size + 1) vs }) (PySem.W.each_map (R:=fun v d=>∃ as,Reads (PySem.W.sortingHeap (PySem.W.copyHeap s.heap vs) (s.heap.objs.size + 1) vs) v d as) enc er') hal hk (PySem.W.bound_map hu)) hL'
      ⟨rfl,h _ (by rw [PySem.W.sortVals_length b rfl]; exact e.length) (PySem.W.sortVals_data b e er' hal)⟩
end
end DL.RV
namespace DL
open PySem PySem.Spec PyProof.Rows L2
variable [Tbs]
def rSortRv (K:PySem.W.Frag):List V → List V → Hp → VK → Prop:=fun vs zs H Q=>zs = [.bl true] ∧ ∃ (F:Hp) (a:Addr) (xs:List V) (ds:List D),vs = [V.ref a] ∧ Same F H ∧ (SqL K H a xs ∨ SqT K H a xs) ∧ DpAll K F xs ds ∧ sortOk ds = true ∧
  ∀ ys p,DpAll K F ys (srtD true ds) → H p = none → Q (.ref p) (upd H p (.lst ys))
theorem cr_sortRv {X:Cx} (hu:X.A.units + 65 < cLine):CallRK X (.builtin "sorted") [Str.ofString "reverse"] (rSortRv X.K):=by
  intro pins s σ H vs zs us ws Q I r rz h
  obtain ⟨rfl,F,a,xs,ds,rfl,sF,hs,hd,ok,q⟩:=h
  obtain ⟨w1,rfl,e1⟩:=vals1 rz
  obtain rfl:w1 = Value.bool true:=e1
  rw [Vals.ref1 r]
  obtain ⟨o1,o2,o3,o4⟩:=sortOk_of ok
  rcases hs with hs | hs
  · obtain ⟨its,rv,hl,hz⟩:=I.list hs
    have e:=rowsD hd rv
    refine PySem.W.sorted_rev_data (b:=true) (enc:=id) (R:=RowD X.K F) (bs:=ds) hl.isList e (e.mono fun v d ⟨x,rx,dx⟩=>Dp.reads I d x v (Dp.mono sF _ _ dx) rx) (by rw [List.map_id]; exact o2) (by rw [List.map_id]; exact o3) (by rw [sizeLine_eq]; exact o1) (fun d m=>?_) fun out lo eo=>?_
    · have:=o4 d m
      show X.A.units + 2 + d.depth < cLine
      omega
    · obtain ⟨ys,ry,dy,ly⟩:=outsD eo
      obtain ⟨cc,at_⟩:=sortedAll_at s.heap its (List.toArray out)
      refine ⟨.ref (s.heap.objs.size + 1),upd H (s.heap.objs.size + 1) (.lst ys),I.laid (t':=s.toks) (fun b o e=>sortedAll_old e) (Nat.le_succ _) (show ObjOk X.prog X.w _ _ _ (.lst ys) from ⟨?_,out,cc,ry,at_⟩),rfl,q ys _ dy (I.hok.fresh (Nat.le_succ _))⟩
      rw [ly,List.length_mergeSort,sizeLine_eq]
      exact o1
  · obtain ⟨its,rv,hl,hz⟩:=I.tuple hs
    have e:=rowsD hd rv
    refine RV.sorted_tupRev (b:=true) (enc:=id) (R:=RowD X.K F) (bs:=ds) hl e (e.mono fun v d ⟨x,rx,dx⟩=>Dp.reads I d x v (Dp.mono sF _ _ dx) rx) (by rw [List.map_id]; exact o2) (by rw [List.map_id]; exact o3) (by rw [sizeLine_eq]; exact o1) (fun d m=>?_) fun out lo eo=>?_
    · have:=o4 d m
      show X.A.units + 2 + d.depth < cLine
      omega
    · obtain ⟨ys,ry,dy,ly⟩:=outsD eo
      obtain ⟨cc,at_⟩:=sortedAll_at s.heap its (List.toArray out)
      refine ⟨.ref (s.heap.objs.size + 1),upd H (s.heap.objs.size + 1) (.lst ys),I.laid (t':=s.toks) (fun b o e=>sortedAll_old e) (Nat.le_succ _) (show ObjOk X.prog X.w _ _ _ (.lst ys) from ⟨?_,out,cc,ry,at_⟩),rfl,q ys _ dy (I.hok.fresh (Nat.le_succ _))⟩
      rw [ly,List.length_mergeSort,sizeLine_eq]
      exact o1
def fSortRv (x:Rv):Option Rv:=match x.items with
  | some ds=>if sortOk ds then some (.l (srtD true ds)) else none
  | none=>match x.tup with
    | some ds=>if sortOk ds then some (.l (srtD true ds)) else none
    | none=>none
def mSortRv (m:EM):EM:=fun G t=>(m G t).fz.bind fun r t=>.of (fSortRv r) t
section
variable {X:Cx} {P:Pm} {k j:Nat} (c:Ct X P k) {a:Expr} {ma:EM} {p pos kp cp:Pos}
include c
theorem x_sortRv (hm:X.mg "sorted" = none) (ha:SE X P a ma) (hg:Gl X "sorted" := by rfl) (he0:starEach [a] X.env = (false,eval a X.env) :: starEach [] X.env:=by rfl)
    (h:X.mg "sorted" = none → CallRK X (.builtin "sorted") [Str.ofString "reverse"] (rSortRv X.K) → PA X [a] (tCons (teM P fun G t=>(ma G t).fz) tNil) → PK X [⟨some "reverse",.Constant (.bool true) j cp,kp⟩] (tCons (tC (.bl true)) tNil) → PE X (.Call (.Name "sorted" p) [a] [⟨some "reverse",.Constant (.bool true) j cp,kp⟩] pos) (tCKw (rSortRv X.K) (tCons (teM P fun G t=>(ma G t).fz) tNil) (tCons (tC (.bl true)) tNil)):=by
      exact fun h0 h1 h2 h3=>pe_callBK h1 rfl h0 rfl h2 h3) :
    SE X P (.Call (.Name "sorted" p) [a] [⟨some "reverse",.Constant (.bool true) j cp,kp⟩] pos) (mSortRv ma):=by
  refine L2.PE.imp (h hm (cr_sortRv c.u65) (pa_cons ha.fz pa_nil he0) (pk_cons pe_bl pk_nil)) fun σ H Q ⟨As,F,G,t,R,q⟩=>⟨As,F,G,t,R,bindEE R q fun As1 F1 H1 v1 r1 t1 _ g1 R1 x1 p1=>⟨rfl,?_⟩⟩
  unfold fSortRv at p1
  have fin:∀ (ds:List D) (p:Addr) (ws:List V),v1 = .ref p → (SqL X.K H1 p ws ∨ SqT X.K H1 p ws) → DpAll X.K F1 ws ds → sortOk ds = true → PostE P As1 F1 H1 σ Q (.ok (.l (srtD true ds)) t1) → ∃ (F:Hp) (a:Addr) (xs:List V) (ds:List D),[v1] = [V.ref a] ∧ Same F H1 ∧ (SqL X.K H1 a xs ∨ SqT X.K H1 a xs) ∧ DpAll X.K F xs ds ∧ sortOk ds = true ∧ ∀ ys p,DpAll X.K F ys (srtD true ds) → H1 p = none → Q (.ref p) (upd H1 p (.lst ys)):=fun ds p ws ev hs hd ok p2=>by
    subst ev
    refine ⟨F1,p,ws,ds,rfl,R1.sub,hs,hd,ok,fun ys l dy n=>?_⟩
    obtain ⟨⟨g,s'⟩,_⟩:=alloc (o:=.lst ys) R1.st R1.sub n
    rw [← c.hK] at dy
    exact p2 _ F1 _ _ g s' ⟨l,_,rfl,fun z=>R1.st.ok.there l z n,R1.sub.free n,upd_same,dy⟩ ⟨l,rfl,n⟩
  cases e1:r1.items with
  | some ds =>
    rw [e1] at p1
    simp only at p1
    by_cases ok:sortOk ds = true
    · rw [if_pos ok] at p1
      obtain ⟨p,ws,ev,hs,hd⟩:=x1.items R1.sub e1
      rw [c.hK] at hs hd
      exact fin ds p ws ev (.inl hs) hd ok p1
    · rw [if_neg ok] at p1; exact p1.elim
  | none =>
    rw [e1] at p1
    simp only at p1
    cases e2:r1.tup with
    | none=>rw [e2] at p1; exact p1.elim
    | some ds =>
      rw [e2] at p1
      simp only at p1
      by_cases ok:sortOk ds = true
      · rw [if_pos ok] at p1
        obtain ⟨p,ws,ev,hs,hd⟩:=x1.tup e2
        have hs:=Same.seqT R1.sub hs
        rw [c.hK] at hs hd
        exact fin ds p ws ev (.inr hs) hd ok p1
      · rw [if_neg ok] at p1; exact p1.elim
end
def sAugN (i:Nat) (m:EM) (f:Int → Int → Int):SM:=fun G t=>match G[i]? with
  | some (.d (.int x))=>(m G t).fz.bindS G fun r t=>match r with
    | .d (.int y)=>.nx (G.set i (.d (.int (f x y)))) t
    | _=>.stuck
  | _=>.stuck
section
variable {X:Cx} {P:Pm} {e:Expr} {me:EM} {pos pos':Pos}
theorem ss_augN {i:Nat} {x:Str} {op:Operator} {f:Int → Int → Int} (hN:X.N.Nodup) (hi:X.N[i]? = some x) (hx:Loc X.env.scope x) (he:SE X P e me) (ho:PIp X op (ipI f)) (hf:X.fn x = true ∨ X.env.scope.names.lookup x = some .local) :
    SS X P (.AugAssign (.Name x pos') op e pos) (sAugN i me f):=by
  refine L2.PS.imp (ps_aug hN hi hx he.fz ho hf) fun D σ H ⟨B,As,F,G,t,R,p⟩=>?_
  unfold sAugN at p
  split at p
  · rename_i z ez
    obtain ⟨v,e1,dv⟩:=R.rel.slot i _ ez
    cases dv
    refine ⟨_,e1,As,F,G,t,R.rel,bindSE R p fun As1 F1 H1 v1 r1 t1 em g R1 x1 fr p1=>?_⟩
    clear em
    split at p1
    · rename_i y
      cases x1
      have dz:Dp P.K F1 (.int (f z y)) (.int (f z y)):=.int _
      exact ⟨z,y,rfl,rfl,p1 As1 F1 _ H1 (R1.setE (fun _ h=>nomatch h) ⟨_,rfl,dz⟩) (Same.refl _)⟩
    · exact p1.elim
  · exact p.elim
theorem s_augNAdd {k:Nat} (c:Ct X P k) (i:Nat) {x:Str} (hx:Loc X.env.scope x) (he:SE X P e me) (hi:X.N[i]? = some x:=by rfl) (hf:X.fn x = true ∨ X.env.scope.names.lookup x = some .local:=by first | exact .inl rfl | exact .inr rfl) :
    SS X P (.AugAssign (.Name x pos') .Add e pos) (sAugN i me fun x y=>x + y):=ss_augN c.nd hi hx he ip_add hf
theorem s_augNSub {k:Nat} (c:Ct X P k) (i:Nat) {x:Str} (hx:Loc X.env.scope x) (he:SE X P e me) (hi:X.N[i]? = some x:=by rfl) (hf:X.fn x = true ∨ X.env.scope.names.lookup x = some .local:=by first | exact .inl rfl | exact .inr rfl) :
    SS X P (.AugAssign (.Name x pos') .Sub e pos) (sAugN i me fun x y=>x - y):=ss_augN c.nd hi hx he ip_sub hf
end
end DL
end
section
namespace DL
open PySem PySem.Spec PyProof.Rows L2
variable [Tbs]
def keyKN (row:List Int) (k:Int):D:=.tuple [.int (-(row.getD k.toNat 0)),.int k]
def srtKN (row ks:List Int):List Int:=ks.mergeSort (PySem.W.dataLe false (keyKN row))
def mSortKN (i:Nat) (m:EM):EM:=fun G t=>match G[i]? with
  | some (.d (.tuple ds))=>(match dInts ds with
    | some row=>(m G t).fz.bind fun r t=>(match r.items.bind dInts with
      | some ks=>if ks.length ≤ 16777216 ∧ row.length ≤ 16777216 ∧ (ks.all fun k=>decide (0 ≤ k) && decide (k < (row.length:Int))) = true then .ok (.l ((srtKN row ks).map .int)) t else .stuck
      | none=>.stuck)
    | none=>.stuck)
  | _=>.stuck
theorem alikeKN (row:List Int) (a b:Int):PySem.W.alike (keyKN row a) (keyKN row b) = true:=by
  simp [keyKN,PySem.W.alike,PySem.W.alikeAll]
theorem depthKN (row:List Int) (a:Int):(keyKN row a).depth ≤ 3:=by
  simp [keyKN,PyData.depth,PyData.depthAll]
def IntAt (v:Value) (n:Int):Prop:=∃ t,v = .int n t
omit [Tbs] in
theorem ints_each:∀ {us:List Value} {ks:List Int},Vals (ks.map V.int) us → PySem.W.EachIs IntAt us ks
  | [],[],_=>.nil
  | [],_ :: _,r=>by cases r
  | u :: us,[],r=>by cases r
  | u :: us,k :: ks,r=>by
    rw [List.map_cons] at r
    cases r with
    | cons h t=>exact .cons h (ints_each t)
omit [Tbs] in
theorem each_ints:∀ {us:List Value} {ks:List Int},PySem.W.EachIs IntAt us ks → Vals (ks.map V.int) us
  | [],_,.nil=>.nil
  | u :: us,k :: ks,.cons h t=>.cons h (each_ints t)
/-- the key's function runs -/
theorem key_runN {prog:Program} {w:World} {A:Around} {s:Shared} {f c' cc p:Addr} {qual x y:Str} {params:Arguments} {scope:Scope} {pm ctv:Value} {its:List Value} {row:List Int} {k:Int} {tk0:Tok} {k0:Nat} {q0 q1 q2 q3 q4 q5:Pos}
    (room:A.depth < recursionLimit) (hf:s.heap.get? f = some (PySem.W.kla_obj "<lambda>" qual params (.Tuple [.UnaryOp .USub (.Subscript (.Name y q1) (.Name x q2) q3) q0,.Name x q4] k0 q5) scope [(y,cc)] pm c' ctv)) (rec:s.heap.CodeRec (.ref c') qual)
    (nl:s.heap.NoLimit)
    (sk:scope.kind = .function) (sc:scope.isCoroutine = false) (sg:scope.isGenerator = false) (nc:∀ y ∈ scope.names,y.2 ≠ .cell) (lx:scope.names.lookup x = some .local) (ly:scope.names.lookup y = some .free)
    (hxd:(x == ("__debug__" : Str)) = false) (hyd:(y == ("__debug__" : Str)) = false) (hyc:(y == ("__classdict__" : Str)) = false)
    (bd:∀ v,bindArgs (PySem.W.kla_fn "<lambda>" qual params (.Tuple [.UnaryOp .USub (.Subscript (.Name y q1) (.Name x q2) q3) q0,.Name x q4] k0 q5) scope [(y,cc)] pm (.ref c') ctv) ⟨[v],[]⟩ = pure [(x,v)])
    (hcell:s.heap.IsCell cc (some (.ref p))) (ht:IsTup s.heap p its.toArray) (hi:IntsAre its row) (k1:0 ≤ k) (k2:k < (row.length:Int)) (hz:row.length ≤ 16777216) :
    wpAny (model prog w) A (call (.ref f) [.int k tk0]) (PySem.W.KeyPure (keyKN row k) s) (fun _ _=>False) s:=by
  refine wpAny_call (PySem.W.kla_callFunE room hf rfl sc sg rfl rec ?_)
  rw [bd]
  refine wpAny_pure (wpAny_newFunctionEnv nc (fun y hy=>by rw [List.mem_singleton] at hy; subst hy; exact lx) (fun h₁ hns hsb=>⟨nl.fresh _ hsb,?_⟩) sk)
  show codeAny _ _ (.expr _ (PySem.W.envX qual scope s.heap.objs.size f (.ref c') [(y,cc)])) _ _
  have kp:∀ b o,s.heap.get? b = some o → h₁.get? b = some o:=fun b o e=>hsb.extBut b o (Nat.ne_of_lt (Heap.lt_size e)) (Heap.get?_push_of_some _ e)
  refine PySem.W.kla_codeExpr (wpAny_Tuple_spliced ?_)
  have name:∀ {tk:Nat} {pos:Pos} {Q E:Value → Shared → Prop},Q (.int k tk0) { s with heap:=h₁,toks:=tk } →
      wpAny (model prog w) (A.deeper (PySem.W.envX qual scope s.heap.objs.size f (.ref c') [(y,cc)])) (eval (.Name x pos) (PySem.W.envX qual scope s.heap.objs.size f (.ref c') [(y,cc)])) Q E { s with heap:=h₁,toks:=tk }:=fun {tk pos Q E} q =>
    wpAny_Name (wpAny_loadName_local (name:=x) (v:=.int k tk0) sk lx hns (by simp [List.lookup]) q) hxd
  have cell1:h₁.IsCell cc (some (.ref p)):=by
    obtain ⟨o,ho,r⟩:=hcell
    exact ⟨o,kp _ _ ho,r⟩
  have nameY:∀ {tk:Nat} {pos:Pos} {Q E:Value → Shared → Prop},Q (.ref p) { s with heap:=h₁,toks:=tk } →
      wpAny (model prog w) (A.deeper (PySem.W.envX qual scope s.heap.objs.size f (.ref c') [(y,cc)])) (eval (.Name y pos) (PySem.W.envX qual scope s.heap.objs.size f (.ref c') [(y,cc)])) Q E { s with heap:=h₁,toks:=tk }:=fun {tk pos Q E} q =>
    wpAny_Name (PySem.wpAny_loadName_free (name:=y) (c:=cc) (v:=.ref p) sk ly (by simp [List.lookup]) cell1 q hyc) hyd
  have tupAt:IsTup h₁ p its.toArray:=by
    obtain ⟨o,ho,r⟩:=ht
    exact ⟨o,kp _ _ ho,r⟩
  have len:its.length = row.length:=hi.length
  obtain ⟨w0,hw,tkw,ew⟩:∃ w0,its[k.toNat]? = some w0 ∧ ∃ t,w0 = .int (row.getD k.toNat 0) t:=by
    have:∀ (its:List Value) (row:List Int) (j:Nat),IntsAre its row → j < row.length → ∃ w0,its[j]? = some w0 ∧ ∃ t,w0 = .int (row.getD j 0) t:=fun its row j h=>by
      induction h generalizing j with
      | nil=>intro hj; exact absurd hj (Nat.not_lt_zero _)
      | cons n t h ih =>
        intro hj
        cases j with
        | zero=>exact ⟨_,rfl,_,rfl⟩
        | succ j=>exact ih j (Nat.lt_of_succ_lt_succ hj)
    exact this its row k.toNat hi (by omega)
  show wpAny _ _ (spliced ((false,eval (.UnaryOp .USub (.Subscript (.Name y q1) (.Name x q2) q3) q0) (PySem.W.envX qual scope s.heap.objs.size f (.ref c') [(y,cc)])) :: backTo q5 (starEach [.Name x q4] (PySem.W.envX qual scope s.heap.objs.size f (.ref c') [(y,cc)])))) _ _ _
  refine Calls.spliced_cons ?_
  refine wpAny_UnaryOp (wpAny_Subscript_Name (T := "tuple") (PyProof.Rows.slot_tuple_getitem.lookup) (nameY (name ⟨tupAt.typeIs,?_⟩)))
  refine PyProof.Rows.getItem_tuple tupAt (by omega) (by omega) (k:=k) (j:=k.toNat) ?_ (by simpa using hw) ?_
  · rw [List.size_toArray,len]
    exact PySem.StrLaws.seqIndex_nonneg k1 k2
  subst ew
  refine PyProof.Rows.neg_int ?_
  show wpAny _ _ (spliced ((false,eval (.Name x q4) (PySem.W.envX qual scope s.heap.objs.size f (.ref c') [(y,cc)])) :: backTo q5 (starEach [] (PySem.W.envX qual scope s.heap.objs.size f (.ref c') [(y,cc)])))) _ _ _
  refine Calls.spliced_cons (name (Calls.spliced_nil ⟨by rw [sizeLine_eq]; exact Nat.le_of_ble_eq_true rfl,?_⟩))
  exact ⟨_,_,rfl,fun b o e=>Heap.get?_push_of_some _ (kp _ _ e),.tuple (as:=[]) (Heap.get?_push_size _ rfl) rfl rfl (.cons (as:=[]) (bs:=[]) (.int _ _) (.cons (as:=[]) (bs:=[]) (.int _ _) .nil))⟩
theorem x_sortKN {X:Cx} {P:Pm} {k k0:Nat} {a:Expr} {ma:EM} {c Pt:Addr} {x y:Str} {params:Arguments} {scope:Scope} {p pos kpos lpos q0 q1 q2 q3 q4 q5:Pos} (ct:Ct X P k) (i:Nat) (hms:X.mg "sorted" = none)
    (TB:LamX.TabB X.base X.mg c Pt) (hcode:X.env.code = .ref c) (hm:(Pt,X.env.qual ++ "<lambda>") ∈ Tbs.T) (hu:∀ p ∈ Tbs.T,p.1 = Pt → p.2 = X.env.qual ++ "<lambda>") (hN:X.N[i]? = some y) (hv:X.env.kindOf y = some .cell) (ha:SE X P a ma)
    (hdef:defaultsOf params X.env = ([],[]):=by rfl) (clo:∀ (cells:List (Str × Addr)) (cc:Addr),cells.lookup y = some cc → cloFrom cells scope.names [] = [(y,cc)]:=by intro cells cc h; simp [cloFrom,h]) (fr:∀ z ∈ scope.names,z.2 = NameKind.free → z.1 = y:=by decide +kernel)
    (sk:scope.kind = .function:=by rfl) (sc:scope.isCoroutine = false:=by rfl) (sg:scope.isGenerator = false:=by rfl) (nc:∀ y ∈ scope.names,y.2 ≠ NameKind.cell:=by decide +kernel) (lx:scope.names.lookup x = some .local:=by rfl) (ly:scope.names.lookup y = some .free:=by rfl)
    (hxd:(x == ("__debug__" : Str)) = false:=by decide) (hyd:(y == ("__debug__" : Str)) = false:=by decide) (hyc:(y == ("__classdict__" : Str)) = false:=by decide)
    (bd:∀ (qual:Str) (cc:Addr) (pm cv ctv v:Value),bindArgs (PySem.W.kla_fn "<lambda>" qual params (.Tuple [.UnaryOp .USub (.Subscript (.Name y q1) (.Name x q2) q3) q0,.Name x q4] k0 q5) scope [(y,cc)] pm cv ctv) ⟨[v],[]⟩ = pure [(x,v)]:=by intro _ _ _ _ _ _; rfl)
    (hg:Gl X "sorted" := by rfl) (he0:starEach [a] X.env = (false,eval a X.env) :: starEach [] X.env:=by rfl)
    (he:backTo pos (starEach [a] X.env) = (false,eval a X.env) :: backTo pos (starEach [] X.env):=by rfl) (hpl:(backTo pos (starEach [a] X.env)).any (·.1) = false:=by rfl)
    (hall:(backToKw pos (keywordEach [⟨some "key",.Lambda params (.Tuple [.UnaryOp .USub (.Subscript (.Name y q1) (.Name x q2) q3) q0,.Name x q4] k0 q5) scope lpos,kpos⟩] X.env)).all (·.1.isSome) = true:=by rfl)
    (hnone:(backToKw pos (keywordEach [⟨some "key",.Lambda params (.Tuple [.UnaryOp .USub (.Subscript (.Name y q1) (.Name x q2) q3) q0,.Name x q4] k0 q5) scope lpos,kpos⟩] X.env)).any (·.1.isNone) = false:=by rfl)
    (hks:(backToKw pos (keywordEach [⟨some "key",.Lambda params (.Tuple [.UnaryOp .USub (.Subscript (.Name y q1) (.Name x q2) q3) q0,.Name x q4] k0 q5) scope lpos,kpos⟩] X.env)).filterMap (·.1) = [("key" : Str)]:=by rfl)
    (hev:(backToKw pos (keywordEach [⟨some "key",.Lambda params (.Tuple [.UnaryOp .USub (.Subscript (.Name y q1) (.Name x q2) q3) q0,.Name x q4] k0 q5) scope lpos,kpos⟩] X.env)).map (·.2) = [do let v ← eval (.Lambda params (.Tuple [.UnaryOp .USub (.Subscript (.Name y q1) (.Name x q2) q3) q0,.Name x q4] k0 q5) scope lpos) X.env; standAt pos; pure v]:=by rfl) :
    SE X P (.Call (.Name "sorted" p) [a] [⟨some "key",.Lambda params (.Tuple [.UnaryOp .USub (.Subscript (.Name y q1) (.Name x q2) q3) q0,.Name x q4] k0 q5) scope lpos,kpos⟩] pos) (mSortKN i ma):=by
  constructor
  rintro pins s σ H Q I ⟨As,F,G,t,R,q⟩
  have q:PostE P As F H σ Q (mSortKN i ma G t):=q
  unfold mSortKN at q
  split at q
  · rename_i ds eG
    cases ed:dInts ds with
    | none=>rw [ed] at q; exact q.elim
    | some row =>
      rw [ed] at q
      simp only at q
      have eds:=dInts_eq ed
      subst eds
      obtain ⟨vy,evy,dy⟩:=R.slot i _ eG
      refine wpAny_Call_Name_kw (ld_blt I hg hms (u:=.builtin "sorted") rfl ?_ (by decide) (by decide))
      have W:∃ Q1:VK,teM P (fun G t=>(ma G t).fz) σ H Q1 ∧ ∀ v H1,Q1 v H1 → ∃ As1 F1 t1 r1,Rel P.K P.xi As1 F1 G t1 σ H1 ∧ VOk P.K As1 F1 H1 v r1 ∧ PostE P As1 F1 H1 σ Q (match r1.items.bind dInts with
          | some ks=>if ks.length ≤ 16777216 ∧ row.length ≤ 16777216 ∧ (ks.all fun k=>decide (0 ≤ k) && decide (k < (row.length:Int))) = true then .ok (.l ((srtKN row ks).map .int)) t1 else .stuck
          | none=>.stuck):=
        ⟨fun v H1=>∃ As1 F1 t1 r1,Rel P.K P.xi As1 F1 G t1 σ H1 ∧ VOk P.K As1 F1 H1 v r1 ∧ PostE P As1 F1 H1 σ Q (match r1.items.bind dInts with
          | some ks=>if ks.length ≤ 16777216 ∧ row.length ≤ 16777216 ∧ (ks.all fun k=>decide (0 ≤ k) && decide (k < (row.length:Int))) = true then .ok (.l ((srtKN row ks).map .int)) t1 else .stuck
          | none=>.stuck),⟨As,F,G,t,R,bindEE R q fun As1 F1 H1 v1 r1 t1 _ g1 R1 x1 p1=>⟨As1,F1,t1,r1,R1,x1,p1⟩⟩,fun _ _ h=>h⟩
      obtain ⟨Q1,w1,w2⟩:=W
      have pa:=pa_cons (X:=X) ha.fz pa_nil he0
      refine PyProof.Rows.callWith_kw (thn (pa.run pos pins s σ H (fun vs H1=>∃ v,vs = [v] ∧ Q1 v H1) I ?_) fun us s1 ⟨vs,H1,I1,r1,v,ev,q1⟩=>?_) he hpl hall hnone
      · obtain ⟨As',F',G',t',R',p'⟩:=w1
        refine ⟨As',F',G',t',R',?_⟩
        have p':PostE P As' F' H σ Q1 (ma G' t').fz:=p'
        cases e:(ma G' t').fz with
        | ok r t2 =>
          rw [e] at p'
          show PostE P As' F' H σ _ (ma G' t').fz
          rw [e]
          exact fun As2 F2 H2 v2 g2 s2 x2 f2=>⟨v2,rfl,p' As2 F2 H2 v2 g2 s2 x2 f2⟩
        | ex c fs t2 =>
          show PostE P As' F' H σ _ (ma G' t').fz
          rw [e] at p' ⊢; exact p'
        | stuck=>rw [e] at p'; exact p'.elim
      · subst ev
        obtain ⟨As1,F1,t1,r,R1,x1,p1⟩:=w2 v H1 q1
        rw [hks,hev]
        cases er:r.items with
        | none=>rw [er] at p1; exact p1.elim
        | some ds =>
          rw [er] at p1
          cases en:dInts ds with
          | none=>simp only [Option.bind_some,en] at p1; exact p1.elim
          | some ks =>
            simp only [Option.bind_some,en] at p1
            by_cases hz:ks.length ≤ 16777216 ∧ row.length ≤ 16777216 ∧ (ks.all fun k=>decide (0 ≤ k) && decide (k < (row.length:Int))) = true
            · rw [if_pos hz] at p1
              obtain ⟨hz,hr,hall2⟩:=hz
              have eds:=dInts_eq en
              subst eds
              have cells1:∃ cc,X.env.cells.lookup y = some cc:=by
                obtain ⟨m,hn,hl⟩:=I1.loc
                obtain ⟨u,_,l⟩:=hl i y vy hN evy (.inr (.inl hv))
                rcases l with ⟨hk,_⟩ | ⟨_,cc,hc,_⟩
                · rw [hv] at hk; cases hk
                · exact ⟨cc,hc⟩
              refine wpAny_evalAll_cons (wpAny_bind (lam_make I1 TB hcode hm hu R1.st.ok.1 hdef (fun z hz e=>by rw [fr z hz e]; exact cells1) fun f c' pm ctv H2 s2 I2 same nP hT hf rec=>?_))
              refine wpAny_bind (wpAny_standAt (wpAny_pure (wpAny_evalAll_nil ?_)))
              obtain ⟨g,st⟩:=lam_grow R1.st R1.sub hm same nP hT
              obtain ⟨pl,ws,rfl,hs,hda⟩:=(x1.mono g).items g.fh er
              have ew:=ints_dp hda
              subst ew
              obtain ⟨vy1,evy1,dy1⟩:=R1.slot i _ eG
              rw [evy] at evy1
              cases evy1
              cases dy1 with
              | @tup py wy _ sqy aly =>
                have ewy:=ints_dp aly
                subst ewy
                obtain ⟨m2,hn2,hl2⟩:=I2.loc
                obtain ⟨u2,ru2,l2⟩:=hl2 i y (.ref py) hN evy (.inr (.inl hv))
                obtain rfl:u2 = Value.ref py:=ru2
                obtain ⟨cc,hcc,hcell⟩:∃ cc,X.env.cells.lookup y = some cc ∧ s2.heap.IsCell cc (some (.ref py)):=by
                  rcases l2 with ⟨hk,_⟩ | ⟨_,cc,hc,h⟩
                  · rw [hv] at hk; cases hk
                  · exact ⟨cc,hc,h⟩
                rw [ct.hK] at sqy
                obtain ⟨jts,rjv,htup,_⟩:=I2.tuple (Same.seqT g.fh sqy)
                cases r1 with
                | @cons _ u0 _ ur h0 h1 =>
                  cases h1
                  cases (show u0 = Value.ref pl from h0)
                  rw [ct.hK] at hs
                  obtain ⟨its,rv,hl,_⟩:=I2.list hs
                  have dp:X.A.in1.in1.depth = X.A.depth:=rfl
                  show wpAny _ _ (call (.builtin "sorted") [.ref pl] [(("key" : Str),.ref f)]) _ _ _
                  refine PySem.W.sorted_key_data (b:=false) (R:=IntAt) (bs:=ks) (keyKN row) hl.isList (ints_each rv) (PySem.W.AllAlike.of fun a b=>alikeKN row a b) (PySem.W.Sortable.tuples fun k=>⟨_,_,rfl⟩) (by rw [sizeLine_eq]; exact hz) (fun k _=>?_) (ksk_s1 _ _) (fun _=>ksk_l1 _ _) (fun x=>ksk_t1 f x) (fun v k hr' hk h tk up=>?_) (fun out cc h' tk up fresh at_ lo each=>?_)
                  · have:=depthKN row k
                    have:=ct.r.un
                    omega
                  · obtain ⟨tk0,rfl⟩:=hr'
                    have hb:=List.all_eq_true.mp hall2 k hk
                    rw [Bool.and_eq_true,decide_eq_true_eq,decide_eq_true_eq] at hb
                    have I3:L2.Inv X pins σ H2 { s2 with heap:=h,toks:=tk }:=I2.kept up
                    rw [clo _ _ hcc] at hf
                    obtain ⟨o,ho,r⟩:=htup
                    obtain ⟨oc,hoc,rc⟩:=hcell
                    refine key_runN (s:={ s2 with heap:=h,toks:=tk }) (its:=jts) (row:=row) (p:=py) (cc:=cc) (by rw [dp]; exact ct.r.depth) (up _ _ hf) ?_ I3.nolimit sk sc sg nc lx ly hxd hyd hyc (fun v=>bd _ _ _ _ _ v) ⟨oc,up _ _ hoc,rc⟩ ⟨o,up _ _ ho,r⟩ rjv.ints hb.1 hb.2 hr
                    obtain ⟨c2,oc,us2,t2,e1,e2,e3,e4⟩:=rec
                    exact ⟨c2,oc,us2,t2,e1,up _ _ e2,e3,e4⟩
                  · have ro:=each_ints each
                    have sz:((srtKN row ks).map V.int).length ≤ sizeLine:=by
                      unfold srtKN
                      rw [List.length_map,List.length_mergeSort,sizeLine_eq]
                      exact hz
                    have nl:H2 (s2.heap.objs.size + 1) = none:=I2.hok.fresh (Nat.le_succ _)
                    obtain ⟨⟨g3,s3⟩,_⟩:=alloc (o:=.lst ((srtKN row ks).map V.int)) st g.fh nl
                    refine ⟨.ref (s2.heap.objs.size + 1),upd H2 (s2.heap.objs.size + 1) (.lst ((srtKN row ks).map V.int)),I2.laid (t':=tk) up (Nat.le_succ _) (show ObjOk X.prog X.w _ h' _ (.lst ((srtKN row ks).map V.int)) from ⟨sz,out,cc,ro,at_⟩),rfl,?_⟩
                    exact p1 As1 F1 _ _ (g.trans g3) s3 ⟨_,(srtKN row ks).map V.int,rfl,fun z=>st.ok.there _ z nl,g.fh.free nl,upd_same,dp_ints _⟩ ⟨_,rfl,g.nw nl⟩
            · rw [if_neg hz] at p1; exact p1.elim
  · exact q.elim
end DL
end
section
namespace DL
open PySem PySem.Spec PyProof.Rows L2
variable [Tbs]
def mDct:EM:=fun _ t=>.ok (.d (.dict [])) t
theorem x_dct {X:Cx} {P:Pm} {pos:Pos}:SE X P (.Dict [] [] pos) mDct:=by
  refine L2.PE.imp pe_newI fun σ H Q ⟨As,F,G,t,R,q⟩ p hp=>?_
  obtain ⟨g,s'⟩:=(alloc (o:=DTO p []) R.st R.sub hp).2 trivial
  exact q _ _ _ _ g s' (Dp.dct upd_same) trivial
end DL
end
section
namespace DL
open PySem PySem.Spec PyProof.Rows L2
variable [Tbs]
def noRef:D → Bool
  | .tuple xs=>xs.all flatD
  | x=>flatD x
def mFrzE (i:Nat) (m:EM):EM:=fun G t=>match G[i]? with
  | some (.l xs)=>(match m (G.set i (.d (.list xs))) t with
    | .ok (.d x) t=>if noRef x = true then .ok (.d x) t else .stuck
    | _=>.stuck)
  | _=>m G t
theorem dp_noRef {K:PySem.W.Frag} {F:Hp} {q:Addr} {vs:List V} (hq:F q = some (.lst vs)) {x:D} {v:V} (hx:noRef x = true) (h:Dp K F v x):Dp K (fun a=>if a = q then none else F a) v x:=by
  have flat:∀ {x:D} {v:V},flatD x = true → Dp K F v x → Dp K (fun a=>if a = q then none else F a) v x:=fun {x v} hf h=>by
    rw [flat_eq hf h]
    exact flat_dp hf
  cases x with
  | tuple xs =>
    cases h with
    | @tup a ws _ hs ha =>
      have hall:xs.all flatD = true:=hx
      have nq:∀ {o:HO},F a = some o → (∀ ys,o ≠ .lst ys) → a ≠ q:=fun {o} e n z=>by
        rw [z,hq] at e
        cases e
        exact n _ rfl
      have hw:=flats_eq hall ha
      subst hw
      refine Dp.tup ?_ (flats_dp hall)
      rcases hs with (e | ⟨o,e⟩) | e
      · refine .inl (.inl ?_)
        show (if a = q then none else F a) = _
        rw [if_neg (nq e fun ys z=>by cases z)]
        exact e
      · refine .inl (.inr ⟨o,?_⟩)
        show (if a = q then none else F a) = _
        rw [if_neg (nq e fun ys z=>by cases z)]
        exact e
      · exact .inr e
  | none=>exact flat hx h
  | bool _=>exact flat hx h
  | int _=>exact flat hx h
  | str _=>exact flat hx h
  | list _=>exact flat hx h
  | dict _=>exact flat hx h
theorem se_frz {X:Cx} {P:Pm} {a:Expr} {m:EM} {i:Nat} (h:SE X P a m):SE X P a (mFrzE i m):=by
  refine L2.PE.imp h fun σ H Q ⟨As,F,G,t,R,p⟩=>?_
  unfold mFrzE at p
  split at p
  · rename_i xs e
    obtain ⟨q,vs,b1,b2,k,R1⟩:=Rel.frz R e
    refine ⟨As,_,_,t,R1,?_⟩
    cases hm:m (G.set i (.d (.list xs))) t with
    | ok r t' =>
      rw [hm] at p
      cases r with
      | d x =>
        by_cases hx:noRef x = true
        · simp only [hx,if_true] at p
          intro As' F' H' v g s vx fr
          have sub:∀ a o,(if a = q then none else F' a) = some o → F' a = some o:=fun a o z=>by
            by_cases ha:a = q
            · rw [if_pos ha] at z; cases z
            · rw [if_neg ha] at z; exact z
          have non:∀ a,F' a = none → (if a = q then none else F' a) = none:=fun a z=>by
            by_cases ha:a = q
            · rw [if_pos ha]
            · rw [if_neg ha]; exact z
          refine p As' (fun a=>if a = q then none else F' a) H' v ⟨fun a o z=>?_,fun a o z=>g.fh a o (sub a o z),g.hh,fun a z w=>?_,g.dd,g.ss,g.ll⟩ ⟨s.ok.mono (fun a xs z=>by
            have ne:a ≠ q:=fun y=>by
              have e1:=g.ff q (.lst vs) upd_same
              rcases z with z | ⟨o,z⟩ <;> rw [y,e1] at z <;> cases z
            rcases z with z | ⟨o,z⟩
            · exact .inl (by show (if a = q then none else F' a) = _; rw [if_neg ne]; exact z)
            · exact .inr ⟨o,by show (if a = q then none else F' a) = _; rw [if_neg ne]; exact z⟩),fun r hr=>non r (s.sf r hr),fun a u z=>s.tn a u (sub a u z)⟩ (dp_noRef (g.ff q (.lst vs) upd_same) hx vx) fr
          · show (if a = q then none else F' a) = some o
            rw [if_neg (fun y=>by rw [y,b1] at z; cases z)]
            exact g.ff a o (k a o z)
          · show (if a = q then none else F' a) = none
            by_cases ha:a = q
            · rw [if_pos ha]
            · rw [if_neg ha]
              exact g.nn a (by rw [upd_ne ha]; exact z) w
        · simp only [hx,if_false] at p; exact p.elim
      | l _=>exact p.elim
      | b _=>exact p.elim
      | a _=>exact p.elim
      | s=>exact p.elim
    | ex _ _ _=>rw [hm] at p; exact p.elim
    | stuck=>rw [hm] at p; exact p.elim
  · exact ⟨As,F,G,t,R,p⟩
omit [Tbs] in
theorem frzE_l {i:Nat} {m:EM} {G:Gm} {t t':Option DS} {xs:List D} {x:D} (h:G[i]? = some (.l xs)) (e:m (G.set i (.d (.list xs))) t = .ok (.d x) t') (hx:noRef x = true):mFrzE i m G t = .ok (.d x) t':=by
  simp only [mFrzE,h,e,hx,if_true]
end DL
end
section
namespace G
open PySem PySem.Spec PyProof.Rows L2 DL C8
variable [Tbs]
abbrev Tx (K:PySem.W.Frag) (mg:Str → Option Value) (base:Heap):Prop:=TxG fa fn es tab cs xs tf K mg base
end G
end
section
namespace G
open PySem PySem.Spec PyProof.Rows L2 DL C8
variable [Tbs]
theorem tab_ok {K:PySem.W.Frag} {mg:Str → Option Value} {base:Heap} (T:Tx K mg base):TabOk K mg tab:=by
  refine T.tabOk (fun c x b h=>?_) fun c h=>?_
  · unfold tab tabU at h
    split at h
    · rename_i z
      rw [Bool.and_eq_true,decide_eq_true_eq,decide_eq_true_eq] at z
      exact z
    · cases h
  · unfold cs xs at h
    simp only [List.mem_cons,List.mem_nil_iff,or_false] at h
    rcases h with h | h
    · rcases h with rfl | rfl | rfl | rfl | rfl
      · exact T.glo 54
      · exact T.glo 53
      · exact T.glo 52
      · exact T.glo 49
      · exact T.glo 50
    · rcases h with rfl | rfl | rfl | rfl | rfl
      · exact T.glo 49
      · exact T.glo 50
      · exact T.glo 54
      · exact T.glo 53
      · exact T.glo 52
theorem ft_ok {K:PySem.W.Frag} {mg:Str → Option Value} {base:Heap} (T:Tx K mg base):FtOk K mg ft:=by
  intro c C f h hm
  have key:∀ fl,es.lookup c = some fl → f ∈ fl → mg c = some (.ref (He.ga K c)) → XfC K C ∧ PySem.W.findIn K (.ref C) f = some none:=fun fl e hf g=>by
    obtain ⟨i,hi⟩:=lookup_ix e
    obtain ⟨_,h2,h3,_,_⟩:=err_parts (T.err i hi)
    have z:=g.symm.trans hm
    cases z
    exact ⟨h2,h3 f hf⟩
  unfold ft at h
  cases e:es.lookup c with
  | none=>rw [e] at h; cases h
  | some fl =>
    rw [e] at h
    have hf:f ∈ fl:=List.elem_iff.mp h
    have hc:c ∈ es.map (·.1):=lookup_mem1 e
    refine key fl e hf ?_
    unfold es at hc
    simp only [List.map_cons,List.map_nil,List.mem_cons,List.mem_nil_iff,or_false] at hc
    rcases hc with rfl | rfl | rfl | rfl | rfl
    · exact T.glo 54
    · exact T.glo 53
    · exact T.glo 52
    · exact T.glo 49
    · exact T.glo 50
theorem x_BadMany {P:Program} {w:World} {K:PySem.W.Frag} {mg:Str → Option Value} {base:Heap} (T:Tx K mg base):ExcR P w K mg base 1 "BadMany" ["value"] (He.ga K "BadMany"):=by
  obtain ⟨fd,F⟩:=T.c.def_ 41 rfl
  exact excR1 (m := "not a number of names") (N:=["self", "value"]) (T.glo 54) (T.err 0) F ⟨rfl,rfl,rfl,by decide +kernel,rfl,by decide +kernel,by decide +kernel⟩ rfl (pss_cons (ps_expr (pe_uinit (T.base (T.glo 62)) rfl (pa_cons (pv 0) (pa_cons pe_str pa_nil)))) (pss_cons (ps_ost (pv 0) (pv 1)) pss_nil)) (fun _ _ _ _ _ _ us hl=>match us,hl with | [_,_],_=>rfl)
theorem x_BadContent {P:Program} {w:World} {K:PySem.W.Frag} {mg:Str → Option Value} {base:Heap} (T:Tx K mg base):ExcR P w K mg base 1 "BadContent" ["value"] (He.ga K "BadContent"):=by
  obtain ⟨fd,F⟩:=T.c.def_ 42 rfl
  exact excR1 (m := "not a content that fits") (N:=["self", "value"]) (T.glo 53) (T.err 1) F ⟨rfl,rfl,rfl,by decide +kernel,rfl,by decide +kernel,by decide +kernel⟩ rfl (pss_cons (ps_expr (pe_uinit (T.base (T.glo 62)) rfl (pa_cons (pv 0) (pa_cons pe_str pa_nil)))) (pss_cons (ps_ost (pv 0) (pv 1)) pss_nil)) (fun _ _ _ _ _ _ us hl=>match us,hl with | [_,_],_=>rfl)
theorem x_BadTotal {P:Program} {w:World} {K:PySem.W.Frag} {mg:Str → Option Value} {base:Heap} (T:Tx K mg base):ExcR P w K mg base 1 "BadTotal" ["value"] (He.ga K "BadTotal"):=by
  obtain ⟨fd,F⟩:=T.c.def_ 43 rfl
  exact excR1 (m := "not a total that fits") (N:=["self", "value"]) (T.glo 52) (T.err 2) F ⟨rfl,rfl,rfl,by decide +kernel,rfl,by decide +kernel,by decide +kernel⟩ rfl (pss_cons (ps_expr (pe_uinit (T.base (T.glo 62)) rfl (pa_cons (pv 0) (pa_cons pe_str pa_nil)))) (pss_cons (ps_ost (pv 0) (pv 1)) pss_nil)) (fun _ _ _ _ _ _ us hl=>match us,hl with | [_,_],_=>rfl)
theorem x_BadWay {P:Program} {w:World} {K:PySem.W.Frag} {mg:Str → Option Value} {base:Heap} (T:Tx K mg base):ExcR P w K mg base 1 "BadWay" ["place"] (He.ga K "BadWay"):=by
  obtain ⟨fd,F⟩:=T.c.def_ 44 rfl
  exact excR1 (m := "not a way") (N:=["self", "place"]) (T.glo 49) (T.err 3) F ⟨rfl,rfl,rfl,by decide +kernel,rfl,by decide +kernel,by decide +kernel⟩ rfl (pss_cons (ps_expr (pe_uinit (T.base (T.glo 62)) rfl (pa_cons (pv 0) (pa_cons pe_str pa_nil)))) (pss_cons (ps_ost (pv 0) (pv 1)) pss_nil)) (fun _ _ _ _ _ _ us hl=>match us,hl with | [_,_],_=>rfl)
theorem x_BadStep {P:Program} {w:World} {K:PySem.W.Frag} {mg:Str → Option Value} {base:Heap} (T:Tx K mg base):ExcR P w K mg base 1 "BadStep" ["place"] (He.ga K "BadStep"):=by
  obtain ⟨fd,F⟩:=T.c.def_ 45 rfl
  exact excR1 (m := "a step is refused") (N:=["self", "place"]) (T.glo 50) (T.err 4) F ⟨rfl,rfl,rfl,by decide +kernel,rfl,by decide +kernel,by decide +kernel⟩ rfl (pss_cons (ps_expr (pe_uinit (T.base (T.glo 62)) rfl (pa_cons (pv 0) (pa_cons pe_str pa_nil)))) (pss_cons (ps_ost (pv 0) (pv 1)) pss_nil)) (fun _ _ _ _ _ _ us hl=>match us,hl with | [_,_],_=>rfl)
def m_is_from:SM:=sSeq (sRet (mAnd (mIsi "int" (mVar 0)) (mAnd (mNot (mIsi "bool" (mVar 0))) (mChain (fCm iLe) (fCm iLe) (mVar 1) (mVar 0) (mVar 2))))) (sSkip)
def f_is_from:FM:=runM m_is_from 3
theorem c_is_from {P:Program} {w:World} {K:PySem.W.Frag} {mg:Str → Option Value} {base:Heap} (T:Tx K mg base):CalM P w K mg base 1 3 "is_from" f_is_from []:=
  calM (N:=["value", "least", "most"]) (ps:=["value", "least", "most"]) (m:=m_is_from) (T.c.def_ 0 rfl) (T.glo 3) ⟨rfl,rfl,rfl,by decide +kernel,rfl,by decide +kernel,by decide +kernel⟩ (by decide) (fun _ _ _ _ _ _ us hl=>match us,hl with | [_,_,_],_=>rfl) (fun c ca=>ss_cons (ss_ret (x_and c (x_isi c (T := "int") (T.free 0) (T.free 1) rfl (x_v c 0 (.inl rfl))) (x_and c (x_not c (x_isi c (T := "bool") (T.free 0) (T.free 2) rfl (x_v c 0 (.inl rfl)))) (se_one (x_lele c (x_v c 1 (.inl rfl)) (x_v c 0 (.inl rfl)) (x_v c 2 (.inl rfl))))))) (ss_nil))
def m_falling:SM:=sSeq (sRet (mSortRv (mCallB fList (mCons (mVar 0) (mNil))))) (sSkip)
def f_falling:FM:=runM m_falling 1
omit [Tbs] in theorem u_falling (rs:List Rv) (t:Option DS):f_falling rs t = runM m_falling 1 rs t:=rfl
theorem c_falling {P:Program} {w:World} {K:PySem.W.Frag} {mg:Str → Option Value} {base:Heap} (T:Tx K mg base):CalM P w K mg base 1 1 "falling" f_falling []:=
  calM (N:=["row"]) (ps:=["row"]) (m:=m_falling) (T.c.def_ 4 rfl) (T.glo 6) ⟨rfl,rfl,rfl,by decide +kernel,rfl,by decide +kernel,by decide +kernel⟩ (by decide) (fun _ _ _ _ _ _ us hl=>match us,hl with | [_],_=>rfl) (fun c ca=>ss_cons (ss_ret (x_sortRv c (T.free 5) (x_list c (T.free 4) (a_cons c (x_v c 0 (.inl rfl)) (sa_nil))))) (ss_nil))
def m_is_name:SM:=sSeq (sRet (mAnd (mIsi "int" (mVar 1)) (mAnd (mNot (mIsi "bool" (mVar 1))) (mChain (fCm iLe) (fCm iLt) (mC (.int 0)) (mVar 1) (mVar 0))))) (sSkip)
def f_is_name:FM:=runM m_is_name 2
omit [Tbs] in theorem u_is_name (rs:List Rv) (t:Option DS):f_is_name rs t = runM m_is_name 2 rs t:=rfl
theorem c_is_name {P:Program} {w:World} {K:PySem.W.Frag} {mg:Str → Option Value} {base:Heap} (T:Tx K mg base):CalM P w K mg base 1 2 "is_name" f_is_name []:=
  calM (N:=["many", "value"]) (ps:=["many", "value"]) (m:=m_is_name) (T.c.def_ 7 rfl) (T.glo 7) ⟨rfl,rfl,rfl,by decide +kernel,rfl,by decide +kernel,by decide +kernel⟩ (by decide) (fun _ _ _ _ _ _ us hl=>match us,hl with | [_,_],_=>rfl) (fun c ca=>ss_cons (ss_ret (x_and c (x_isi c (T := "int") (T.free 0) (T.free 1) rfl (x_v c 1 (.inl rfl))) (x_and c (x_not c (x_isi c (T := "bool") (T.free 0) (T.free 2) rfl (x_v c 1 (.inl rfl)))) (se_one (x_lelt c (se_int) (x_v c 1 (.inl rfl)) (x_v c 0 (.inl rfl))))))) (ss_nil))
def m_row_behind:SM:=sSeq (sTgt (.tup [2,3,4]) (mVar 1)) (sSeq (sSet 5 (mCallB fList (mCons (mVar 0) (mNil)))) (sSeq (sIf (mCmpB fEq (mVar 2) (mC (.str "exchange"))) (sSeq (sPut 5 (mVar 3) (mBin fIx (mVar 0) (mVar 4))) (sSeq (sPut 5 (mVar 4) (mBin fIx (mVar 0) (mVar 3))) (sSkip))) (sSeq (sIf (mCmpB (fCm iLe) (mBin fIx (mVar 0) (mVar 3)) (mBin fIx (mVar 0) (mVar 4))) (sSeq (sRet (mC .none)) (sSkip)) (sSeq (sAug 5 (mVar 3) (mC (.int 1)) (fun x y=>x - y)) (sSeq (sAug 5 (mVar 4) (mC (.int 1)) (fun x y=>x + y)) (sSkip)))) (sSkip))) (sSeq (sRet (mCallB fTuple (mCons (mVar 5) (mNil)))) (sSkip))))
def f_row_behind:FM:=runM m_row_behind 6
omit [Tbs] in theorem u_row_behind (rs:List Rv) (t:Option DS):f_row_behind rs t = runM m_row_behind 6 rs t:=rfl
theorem c_row_behind {P:Program} {w:World} {K:PySem.W.Frag} {mg:Str → Option Value} {base:Heap} (T:Tx K mg base):CalM P w K mg base 1 2 "row_behind" f_row_behind []:=
  calM (N:=["row", "deed", "word", "one", "other", "found"]) (ps:=["row", "deed"]) (m:=m_row_behind) (T.c.def_ 9 rfl) (T.glo 9) ⟨rfl,rfl,rfl,by decide +kernel,rfl,by decide +kernel,by decide +kernel⟩ (by decide) (fun _ _ _ _ _ _ us hl=>match us,hl with | [_,_],_=>rfl) (fun c ca=>ss_cons (s_tgt c (g_tup c (.cons rfl (.inl rfl) (.inl rfl) (.cons rfl (.inl rfl) (.inl rfl) (.cons rfl (.inl rfl) (.inl rfl) .nil)))) (x_v c 1 (.inl rfl))) (ss_cons (s_set c 5 (.inl rfl) (x_list c (T.free 4) (a_cons c (x_v c 0 (.inl rfl)) (sa_nil)))) (ss_cons (ss_if (b_eq c (x_v c 2 (.inl rfl)) (se_str)) (ss_cons (s_put c 5 (.inl rfl) (x_v c 3 (.inl rfl)) (x_ix c (x_v c 0 (.inl rfl)) (x_v c 4 (.inl rfl)))) (ss_cons (s_put c 5 (.inl rfl) (x_v c 4 (.inl rfl)) (x_ix c (x_v c 0 (.inl rfl)) (x_v c 3 (.inl rfl)))) (ss_nil))) (ss_cons (ss_if (b_le c (x_ix c (x_v c 0 (.inl rfl)) (x_v c 3 (.inl rfl))) (x_ix c (x_v c 0 (.inl rfl)) (x_v c 4 (.inl rfl)))) (ss_cons (ss_ret (se_none)) (ss_nil)) (ss_cons (s_augSub c 5 (.inl rfl) (x_v c 3 (.inl rfl)) (se_int)) (ss_cons (s_augAdd c 5 (.inl rfl) (x_v c 4 (.inl rfl)) (se_int)) (ss_nil)))) (ss_nil))) (ss_cons (ss_ret (x_tuple c (T.free 8) (a_cons c (x_v c 5 (.inl rfl)) (sa_nil)))) (ss_nil)))))
def m_next_places:SM:=sSeq (sSet 2 (mC (.int 0))) (sSeq (whileL (mCmpB (fCm iGe) (mBin fIx (mVar 0) (mVar 2)) (mBin fIx (mVar 1) (mVar 2))) (sSeq (sAugN 2 (mC (.int 1)) (fun x y=>x + y)) (sSkip)) 64) (sSeq (sSet 3 (mBin fSub (mVar 2) (mC (.int 1)))) (sSeq (whileL (mCmpB (fCm iLe) (mBin fIx (mVar 0) (mVar 3)) (mBin fIx (mVar 1) (mVar 3))) (sSeq (sAugN 3 (mC (.int 1)) (fun x y=>x - y)) (sSkip)) 64) (sSeq (sRet (mTup (mCons (mVar 3) (mCons (mVar 2) (mNil))))) (sSkip)))))
def f_next_places:FM:=runM m_next_places 4
omit [Tbs] in theorem u_next_places (rs:List Rv) (t:Option DS):f_next_places rs t = runM m_next_places 4 rs t:=rfl
theorem c_next_places {P:Program} {w:World} {K:PySem.W.Frag} {mg:Str → Option Value} {base:Heap} (T:Tx K mg base):CalM P w K mg base 1 2 "next_places" f_next_places []:=
  calM (N:=["row", "aim", "under", "over"]) (ps:=["row", "aim"]) (m:=m_next_places) (T.c.def_ 13 rfl) (T.glo 10) ⟨rfl,rfl,rfl,by decide +kernel,rfl,by decide +kernel,by decide +kernel⟩ (by decide) (fun _ _ _ _ _ _ us hl=>match us,hl with | [_,_],_=>rfl) (fun c ca=>ss_cons (s_set c 2 (.inl rfl) (se_int)) (ss_cons (s_while c 64 (b_ge c (x_ix c (x_v c 0 (.inl rfl)) (x_v c 2 (.inl rfl))) (x_ix c (x_v c 1 (.inl rfl)) (x_v c 2 (.inl rfl)))) (ss_cons (s_augNAdd c 2 (.inl rfl) (se_int)) (ss_nil))) (ss_cons (s_set c 3 (.inl rfl) (x_sub c (x_v c 2 (.inl rfl)) (se_int))) (ss_cons (s_while c 64 (b_le c (x_ix c (x_v c 0 (.inl rfl)) (x_v c 3 (.inl rfl))) (x_ix c (x_v c 1 (.inl rfl)) (x_v c 3 (.inl rfl)))) (ss_cons (s_augNSub c 3 (.inl rfl) (se_int)) (ss_nil))) (ss_cons (ss_ret (se_tup (a_cons c (x_v c 3 (.inl rfl)) (a_cons c (x_v c 2 (.inl rfl)) (sa_nil))))) (ss_nil))))))
abbrev L_sorting_deeds_0:SM:=sSeq (sIf (mCmpB fNe (mBin fIx (mVar 3) (mVar 4)) (mBin fIx (mVar 1) (mVar 4))) (sSeq (sSet 5 (mBin fAdd (mVar 4) (mC (.int 1)))) (sSeq (whileL (mCmpB fNe (mBin fIx (mVar 3) (mVar 5)) (mBin fIx (mVar 1) (mVar 4))) (sSeq (sAugN 5 (mC (.int 1)) (fun x y=>x + y)) (sSkip)) 64) (sSeq (sPut 3 (mVar 5) (mBin fIx (mVar 3) (mVar 4))) (sSeq (sPut 3 (mVar 4) (mBin fIx (mVar 1) (mVar 4))) (sSeq (sFrz 5 (sApp 2 (mTup (mCons (mC (.str "exchange")) (mCons (mVar 4) (mCons (mVar 5) (mNil))))))) (sSkip)))))) (sSkip)) (sSkip)
def m_sorting_deeds:SM:=sSeq (sSet 2 (mLst (mNil))) (sSeq (sSet 3 (mCallB fList (mCons (mVar 0) (mNil)))) (sSeq (sFor (mRange1 (mCallB (f1 gLen) (mCons (mVar 1) (mNil)))) (.nm 4) (L_sorting_deeds_0)) (sSeq (sFrz 2 (sRet (mVar 2))) (sSkip))))
def f_sorting_deeds:FM:=runM m_sorting_deeds 6
omit [Tbs] in theorem u_sorting_deeds (rs:List Rv) (t:Option DS):f_sorting_deeds rs t = runM m_sorting_deeds 6 rs t:=rfl
theorem c_sorting_deeds {P:Program} {w:World} {K:PySem.W.Frag} {mg:Str → Option Value} {base:Heap} (T:Tx K mg base):CalM P w K mg base 1 2 "sorting_deeds" f_sorting_deeds []:=
  calM (N:=["now", "goal", "deeds", "row", "name", "other"]) (ps:=["now", "goal"]) (m:=m_sorting_deeds) (T.c.def_ 15 rfl) (T.glo 13) ⟨rfl,rfl,rfl,by decide +kernel,rfl,by decide +kernel,by decide +kernel⟩ (by decide) (fun _ _ _ _ _ _ us hl=>match us,hl with | [_,_],_=>rfl) (fun c ca=>ss_cons (s_set c 2 (.inl rfl) (se_lst (sa_nil))) (ss_cons (s_set c 3 (.inl rfl) (x_list c (T.free 4) (a_cons c (x_v c 0 (.inl rfl)) (sa_nil)))) (ss_cons (s_for c (i_r1 c (T.free 12) (x_len c (T.free 11) (a_cons c (x_v c 1 (.inl rfl)) (sa_nil)))) (g_nm c 4 (.inl rfl) (.inl rfl)) (ss_cons (ss_if (b_ne c (x_ix c (x_v c 3 (.inl rfl)) (x_v c 4 (.inl rfl))) (x_ix c (x_v c 1 (.inl rfl)) (x_v c 4 (.inl rfl)))) (ss_cons (s_set c 5 (.inl rfl) (x_add c (x_v c 4 (.inl rfl)) (se_int))) (ss_cons (s_while c 64 (b_ne c (x_ix c (x_v c 3 (.inl rfl)) (x_v c 5 (.inl rfl))) (x_ix c (x_v c 1 (.inl rfl)) (x_v c 4 (.inl rfl)))) (ss_cons (s_augNAdd c 5 (.inl rfl) (se_int)) (ss_nil))) (ss_cons (s_put c 3 (.inl rfl) (x_v c 5 (.inl rfl)) (x_ix c (x_v c 3 (.inl rfl)) (x_v c 4 (.inl rfl)))) (ss_cons (s_put c 3 (.inl rfl) (x_v c 4 (.inl rfl)) (x_ix c (x_v c 1 (.inl rfl)) (x_v c 4 (.inl rfl)))) (ss_cons (ss_frz (i:=5) (s_app c 2 (.inl rfl) (se_tup (a_cons c (se_str) (a_cons c (x_v c 4 (.inl rfl)) (a_cons c (x_v c 5 (.inl rfl)) (sa_nil))))))) (ss_nil)))))) (ss_nil)) (ss_nil))) (ss_cons (ss_frz (i:=2) (ss_ret (x_v c 2 (.inl rfl)))) (ss_nil)))))
def m__law_mixed:SM:=sSeq (sSet 0 (mBin fMod (mCallB (f1 gInt) (mCons (mVar 0) (mNil))) (mC (.int 2147483647)))) (sSeq (sRet (mBin fMod (mBin fMul (mBin fMod (mBin fAdd (mBin fAdd (mBin fMul (mVar 0) (mBin fAdd (mC (.int 48271)) (mBin fMul (mBin fMul (mC (.int 2)) (mVar 1)) (mVar 1)))) (mBin fMul (mC (.int 69621)) (mVar 1))) (mC (.int 11))) (mC (.int 2147483647))) (mC (.int 69621))) (mC (.int 2147483629)))) (sSkip))
def f__law_mixed:FM:=runM m__law_mixed 2
theorem c__law_mixed {P:Program} {w:World} {K:PySem.W.Frag} {mg:Str → Option Value} {base:Heap} (T:Tx K mg base):CalM P w K mg base 1 2 "_law_mixed" f__law_mixed []:=
  calM (N:=["_law_cell", "_law_k"]) (ps:=["_law_cell", "_law_k"]) (m:=m__law_mixed) (T.c.def_ 18 rfl) (T.glo 14) ⟨rfl,rfl,rfl,by decide +kernel,rfl,by decide +kernel,by decide +kernel⟩ (by decide) (fun _ _ _ _ _ _ us hl=>match us,hl with | [_,_],_=>rfl) (fun c ca=>ss_cons (s_set c 0 (.inl rfl) (x_mod c (x_int c (T.free 1) (a_cons c (x_v c 0 (.inl rfl)) (sa_nil))) (se_int))) (ss_cons (ss_ret (x_mod c (x_mul c (x_mod c (x_add c (x_add c (x_mul c (x_v c 0 (.inl rfl)) (x_add c (se_int) (x_mul c (x_mul c (se_int) (x_v c 1 (.inl rfl))) (x_v c 1 (.inl rfl))))) (x_mul c (se_int) (x_v c 1 (.inl rfl)))) (se_int)) (se_int)) (se_int)) (se_int))) (ss_nil)))
def f__law_begin:FM:=fBegin
theorem c__law_begin {P:Program} {w:World} {K:PySem.W.Frag} {mg:Str → Option Value} {base:Heap} (T:Tx K mg base):CalM P w K mg base 1 1 "_law_begin" f__law_begin []:=
  calBegin (N:=["_law_script", "_law_cells_so", "_law_cell"]) (T.c.def_ 19 rfl) (T.glo 15) ⟨rfl,rfl,rfl,by decide +kernel,rfl,by decide +kernel,by decide +kernel⟩ rfl (fun _ _ _ _ _ _ us hl=>match us,hl with | [_],_=>rfl) (fun c ca=>pss_cons (show SS _ _ _ (sSet 1 mBeg1) from s_set c 1 (.inl rfl) (se_if (b_ne c (x_v c 0 (.inl rfl)) (se_lst (sa_nil))) (x_list c (T.free 4) (a_cons c (x_v c 0 (.inl rfl)) (sa_nil))) (se_lst (a_cons c (se_int) (sa_nil))))) (pss_one (ps_mkSt (i:=1) rfl (.inl rfl) (by decide) (by decide) (show SE _ _ _ (mBeg2 2) from x_lc c [("_law_cell",2)] (i_seq c (x_v c 1 (.inl rfl))) (blk_of (by rfl)) (fun s H C cl fp c=>⟨g_nm c 2 (.inl rfl) (.inr rfl),pts_nil,se_if (b_ge c (x_v c 2 (.inl rfl)) (x_pow c (se_int) (se_int))) (x_v c 2 (.inl rfl)) (se_int)⟩)))))
def m__law_like:SM:=sSeq (sRet (mBin fEq (mCallB (f1 gRepr) (mCons (mVar 0) (mNil))) (mCallB (f1 gRepr) (mCons (mVar 1) (mNil))))) (sSkip)
def f__law_like:FM:=runM m__law_like 2
omit [Tbs] in theorem u__law_like (rs:List Rv) (t:Option DS):f__law_like rs t = runM m__law_like 2 rs t:=rfl
theorem c__law_like {P:Program} {w:World} {K:PySem.W.Frag} {mg:Str → Option Value} {base:Heap} (T:Tx K mg base):CalM P w K mg base 1 2 "_law_like" f__law_like []:=
  calM (N:=["_law_got", "_law_due"]) (ps:=["_law_got", "_law_due"]) (m:=m__law_like) (T.c.def_ 23 rfl) (T.glo 17) ⟨rfl,rfl,rfl,by decide +kernel,rfl,by decide +kernel,by decide +kernel⟩ (by decide) (fun _ _ _ _ _ _ us hl=>match us,hl with | [_,_],_=>rfl) (fun c ca=>ss_cons (ss_ret (x_eq c (x_repr c (T.free 16) (a_cons c (x_v c 0 (.inl rfl)) (sa_nil))) (x_repr c (T.free 16) (a_cons c (x_v c 1 (.inl rfl)) (sa_nil))))) (ss_nil))
def m__law_row_behind:SM:=sSeq (sSet 2 (mCallB fList (mCons (mVar 0) (mNil)))) (sSeq (sIf (mCmpB fEq (mBin fIx (mVar 1) (mC (.int 0))) (mC (.str "transfer"))) (sSeq (sPut 2 (mBin fIx (mVar 1) (mC (.int 1))) (mBin fSub (mBin fIx (mVar 2) (mBin fIx (mVar 1) (mC (.int 1)))) (mC (.int 1)))) (sSeq (sPut 2 (mBin fIx (mVar 1) (mC (.int 2))) (mBin fAdd (mBin fIx (mVar 2) (mBin fIx (mVar 1) (mC (.int 2)))) (mC (.int 1)))) (sSkip))) (sSeq (sSwp 2 (mTup (mCons (mBin fIx (mVar 0) (mBin fIx (mVar 1) (mC (.int 2)))) (mCons (mBin fIx (mVar 0) (mBin fIx (mVar 1) (mC (.int 1)))) (mNil)))) (mBin fIx (mVar 1) (mC (.int 1))) (mBin fIx (mVar 1) (mC (.int 2)))) (sSkip))) (sSeq (sRet (mCallB fTuple (mCons (mVar 2) (mNil)))) (sSkip)))
def f__law_row_behind:FM:=runM m__law_row_behind 3
omit [Tbs] in theorem u__law_row_behind (rs:List Rv) (t:Option DS):f__law_row_behind rs t = runM m__law_row_behind 3 rs t:=rfl
theorem c__law_row_behind {P:Program} {w:World} {K:PySem.W.Frag} {mg:Str → Option Value} {base:Heap} (T:Tx K mg base):CalM P w K mg base 1 2 "_law_row_behind" f__law_row_behind []:=
  calM (N:=["_law_row_here", "_law_deed", "_law_found"]) (ps:=["_law_row_here", "_law_deed"]) (m:=m__law_row_behind) (T.c.def_ 24 rfl) (T.glo 18) ⟨rfl,rfl,rfl,by decide +kernel,rfl,by decide +kernel,by decide +kernel⟩ (by decide) (fun _ _ _ _ _ _ us hl=>match us,hl with | [_,_],_=>rfl) (fun c ca=>ss_cons (s_set c 2 (.inl rfl) (x_list c (T.free 4) (a_cons c (x_v c 0 (.inl rfl)) (sa_nil)))) (ss_cons (ss_if (b_eq c (x_ix c (x_v c 1 (.inl rfl)) (se_int)) (se_str)) (ss_cons (s_put c 2 (.inl rfl) (x_ix c (x_v c 1 (.inl rfl)) (se_int)) (x_sub c (x_ix c (x_v c 2 (.inl rfl)) (x_ix c (x_v c 1 (.inl rfl)) (se_int))) (se_int))) (ss_cons (s_put c 2 (.inl rfl) (x_ix c (x_v c 1 (.inl rfl)) (se_int)) (x_add c (x_ix c (x_v c 2 (.inl rfl)) (x_ix c (x_v c 1 (.inl rfl)) (se_int))) (se_int))) (ss_nil))) (ss_cons (s_swp c 2 (.inl rfl) (se_tup (a_cons c (x_ix c (x_v c 0 (.inl rfl)) (x_ix c (x_v c 1 (.inl rfl)) (se_int))) (a_cons c (x_ix c (x_v c 0 (.inl rfl)) (x_ix c (x_v c 1 (.inl rfl)) (se_int))) (sa_nil)))) (x_ix c (x_v c 1 (.inl rfl)) (se_int)) (x_ix c (x_v c 1 (.inl rfl)) (se_int))) (ss_nil))) (ss_cons (ss_ret (x_tuple c (T.free 8) (a_cons c (x_v c 2 (.inl rfl)) (sa_nil)))) (ss_nil))))
abbrev L__law_tops_0:SM:=sSeq (sApp 1 (mBin fAdd (mBin fIx (mVar 1) (mNeg (mC (.int 1)))) (mVar 2))) (sSkip)
def m__law_tops:SM:=sSeq (sSet 1 (mLst (mCons (mC (.int 0)) (mNil)))) (sSeq (sFor (mSeq (mSortRv (mVar 0))) (.nm 2) (L__law_tops_0)) (sSeq (sRet (mCallB fTuple (mCons (mVar 1) (mNil)))) (sSkip)))
def f__law_tops:FM:=runM m__law_tops 3
omit [Tbs] in theorem u__law_tops (rs:List Rv) (t:Option DS):f__law_tops rs t = runM m__law_tops 3 rs t:=rfl
theorem c__law_tops {P:Program} {w:World} {K:PySem.W.Frag} {mg:Str → Option Value} {base:Heap} (T:Tx K mg base):CalM P w K mg base 1 1 "_law_tops" f__law_tops []:=
  calM (N:=["_law_row_here", "_law_found", "_law_item"]) (ps:=["_law_row_here"]) (m:=m__law_tops) (T.c.def_ 29 rfl) (T.glo 19) ⟨rfl,rfl,rfl,by decide +kernel,rfl,by decide +kernel,by decide +kernel⟩ (by decide) (fun _ _ _ _ _ _ us hl=>match us,hl with | [_],_=>rfl) (fun c ca=>ss_cons (s_set c 1 (.inl rfl) (se_lst (a_cons c (se_int) (sa_nil)))) (ss_cons (s_for c (i_seq c (x_sortRv c (T.free 5) (x_v c 0 (.inl rfl)))) (g_nm c 2 (.inl rfl) (.inl rfl)) (ss_cons (s_app c 1 (.inl rfl) (x_add c (x_ix c (x_v c 1 (.inl rfl)) (se_neg (se_int))) (x_v c 2 (.inl rfl)))) (ss_nil))) (ss_cons (ss_ret (x_tuple c (T.free 8) (a_cons c (x_v c 1 (.inl rfl)) (sa_nil)))) (ss_nil))))
abbrev L__law_is_deed_0:SM:=sSeq (sIf (mOrB (mNotB (mTru (mIsi "int" (mVar 2)))) (mOrB (mTru (mIsi "bool" (mVar 2))) (mNotB (mBl (mChain (fCm iLe) (fCm iLt) (mC (.int 0)) (mVar 2) (mVar 0)))))) (sSeq (sRet (mC (.bool false))) (sSkip)) (sSkip)) (sSkip)
def m__law_is_deed:SM:=sSeq (sIf (mOrB (mNotB (mTru (mIsi "tuple" (mVar 1)))) (mOrB (mCmpB fNe (mCallB (f1 gLen) (mCons (mVar 1) (mNil))) (mC (.int 3))) (mNotB (mTru (mIsi "str" (mBin fIx (mVar 1) (mC (.int 0)))))))) (sSeq (sRet (mC (.bool false))) (sSkip)) (sSkip)) (sSeq (sFor (mSeq (mSl (mVar 1) (some (mC (.int 1))) none)) (.nm 2) (L__law_is_deed_0)) (sSeq (sRet (mAnd (mBin fIn (mBin fIx (mVar 1) (mC (.int 0))) (mTup (mCons (mC (.str "transfer")) (mCons (mC (.str "exchange")) (mNil))))) (mBin fNe (mBin fIx (mVar 1) (mC (.int 1))) (mBin fIx (mVar 1) (mC (.int 2)))))) (sSkip)))
def f__law_is_deed:FM:=runM m__law_is_deed 3
omit [Tbs] in theorem u__law_is_deed (rs:List Rv) (t:Option DS):f__law_is_deed rs t = runM m__law_is_deed 3 rs t:=rfl
theorem c__law_is_deed {P:Program} {w:World} {K:PySem.W.Frag} {mg:Str → Option Value} {base:Heap} (T:Tx K mg base):CalM P w K mg base 1 2 "_law_is_deed" f__law_is_deed []:=
  calM (N:=["_law_n", "_law_deed", "_law_item"]) (ps:=["_law_n", "_law_deed"]) (m:=m__law_is_deed) (T.c.def_ 31 rfl) (T.glo 21) ⟨rfl,rfl,rfl,by decide +kernel,rfl,by decide +kernel,by decide +kernel⟩ (by decide) (fun _ _ _ _ _ _ us hl=>match us,hl with | [_,_],_=>rfl) (fun c ca=>ss_cons (ss_if (SW.sb (sw_or (sb_not (b_tr c (x_isi c (T := "tuple") (T.free 0) (T.free 8) rfl (x_v c 1 (.inl rfl))))) (sw_or (b_ne c (x_len c (T.free 11) (a_cons c (x_v c 1 (.inl rfl)) (sa_nil))) (se_int)) (sw_or1 (sb_not (b_tr c (x_isi c (T := "str") (T.free 0) (T.free 20) rfl (x_ix c (x_v c 1 (.inl rfl)) (se_int))))))))) (ss_cons (ss_ret (se_bool)) (ss_nil)) (ss_nil)) (ss_cons (s_for c (i_seq c (x_sl c (x_v c 1 (.inl rfl)) (show SO _ _ (some _) (some (mC (.int 1))) from se_int) (show SO _ _ none none from trivial))) (g_nm c 2 (.inl rfl) (.inl rfl)) (ss_cons (ss_if (SW.sb (sw_or (sb_not (b_tr c (x_isi c (T := "int") (T.free 0) (T.free 1) rfl (x_v c 2 (.inl rfl))))) (sw_or (b_tr c (x_isi c (T := "bool") (T.free 0) (T.free 2) rfl (x_v c 2 (.inl rfl)))) (sw_or1 (sb_not (b_lelt c (se_int) (x_v c 2 (.inl rfl)) (x_v c 0 (.inl rfl)))))))) (ss_cons (ss_ret (se_bool)) (ss_nil)) (ss_nil)) (ss_nil))) (ss_cons (ss_ret (x_and c (x_in c (x_ix c (x_v c 1 (.inl rfl)) (se_int)) (se_tup (a_cons c (se_str) (a_cons c (se_str) (sa_nil))))) (se_one (x_ne c (x_ix c (x_v c 1 (.inl rfl)) (se_int)) (x_ix c (x_v c 1 (.inl rfl)) (se_int)))))) (ss_nil))))
abbrev L_top_sums_0:SM:=sSeq (sApp 1 (mBin fAdd (mBin fIx (mVar 1) (mNeg (mC (.int 1)))) (mVar 2))) (sSkip)
def m_top_sums:SM:=sSeq (sSet 1 (mLst (mCons (mC (.int 0)) (mNil)))) (sSeq (sFor (mSeq (mCall 1 f_falling [] (mCons (mVar 0) (mNil)))) (.nm 2) (L_top_sums_0)) (sSeq (sFrz 1 (sRet (mVar 1))) (sSkip)))
def f_top_sums:FM:=runM m_top_sums 3
omit [Tbs] in theorem u_top_sums (rs:List Rv) (t:Option DS):f_top_sums rs t = runM m_top_sums 3 rs t:=rfl
theorem c_top_sums {P:Program} {w:World} {K:PySem.W.Frag} {mg:Str → Option Value} {base:Heap} (T:Tx K mg base):CalM P w K mg base 2 1 "top_sums" f_top_sums []:=
  calM (N:=["row", "found", "mark"]) (ps:=["row"]) (m:=m_top_sums) (T.c.def_ 5 rfl) (T.glo 22) ⟨rfl,rfl,rfl,by decide +kernel,rfl,by decide +kernel,by decide +kernel⟩ (by decide) (fun _ _ _ _ _ _ us hl=>match us,hl with | [_],_=>rfl) (fun c ca=>ss_cons (s_set c 1 (.inl rfl) (se_lst (a_cons c (se_int) (sa_nil)))) (ss_cons (s_for c (i_seq c (x_call c (c_falling T) (by decide) (a_cons c (x_v c 0 (.inl rfl)) (sa_nil)))) (g_nm c 2 (.inl rfl) (.inl rfl)) (ss_cons (s_app c 1 (.inl rfl) (x_add c (x_ix c (x_v c 1 (.inl rfl)) (se_neg (se_int))) (x_v c 2 (.inl rfl)))) (ss_nil))) (ss_cons (ss_frz (i:=1) (ss_ret (x_v c 1 (.inl rfl)))) (ss_nil))))
def m_is_deed:SM:=sSeq (sIf (mOrB (mNotB (mTru (mIsi "tuple" (mVar 1)))) (mOrB (mCmpB fNe (mCallB (f1 gLen) (mCons (mVar 1) (mNil))) (mC (.int 3))) (mNotB (mTru (mIsi "str" (mBin fIx (mVar 1) (mC (.int 0)))))))) (sSeq (sRet (mC (.bool false))) (sSkip)) (sSkip)) (sSeq (sIf (mCmpB fNotIn (mBin fIx (mVar 1) (mC (.int 0))) (mTup (mCons (mC (.str "transfer")) (mCons (mC (.str "exchange")) (mNil))))) (sSeq (sRet (mC (.bool false))) (sSkip)) (sSkip)) (sSeq (sRet (mAnd (mCall 2 f_is_name [] (mCons (mVar 0) (mCons (mBin fIx (mVar 1) (mC (.int 1))) (mNil)))) (mAnd (mCall 2 f_is_name [] (mCons (mVar 0) (mCons (mBin fIx (mVar 1) (mC (.int 2))) (mNil)))) (mBin fNe (mBin fIx (mVar 1) (mC (.int 1))) (mBin fIx (mVar 1) (mC (.int 2))))))) (sSkip)))
def f_is_deed:FM:=runM m_is_deed 2
omit [Tbs] in theorem u_is_deed (rs:List Rv) (t:Option DS):f_is_deed rs t = runM m_is_deed 2 rs t:=rfl
theorem c_is_deed {P:Program} {w:World} {K:PySem.W.Frag} {mg:Str → Option Value} {base:Heap} (T:Tx K mg base):CalM P w K mg base 2 2 "is_deed" f_is_deed []:=
  calM (N:=["many", "value"]) (ps:=["many", "value"]) (m:=m_is_deed) (T.c.def_ 8 rfl) (T.glo 23) ⟨rfl,rfl,rfl,by decide +kernel,rfl,by decide +kernel,by decide +kernel⟩ (by decide) (fun _ _ _ _ _ _ us hl=>match us,hl with | [_,_],_=>rfl) (fun c ca=>ss_cons (ss_if (SW.sb (sw_or (sb_not (b_tr c (x_isi c (T := "tuple") (T.free 0) (T.free 8) rfl (x_v c 1 (.inl rfl))))) (sw_or (b_ne c (x_len c (T.free 11) (a_cons c (x_v c 1 (.inl rfl)) (sa_nil))) (se_int)) (sw_or1 (sb_not (b_tr c (x_isi c (T := "str") (T.free 0) (T.free 20) rfl (x_ix c (x_v c 1 (.inl rfl)) (se_int))))))))) (ss_cons (ss_ret (se_bool)) (ss_nil)) (ss_nil)) (ss_cons (ss_if (b_nin c (x_ix c (x_v c 1 (.inl rfl)) (se_int)) (se_tup (a_cons c (se_str) (a_cons c (se_str) (sa_nil))))) (ss_cons (ss_ret (se_bool)) (ss_nil)) (ss_nil)) (ss_cons (ss_ret (x_and c (x_call c (c_is_name T) (by decide) (a_cons c (x_v c 0 (.inl rfl)) (a_cons c (x_ix c (x_v c 1 (.inl rfl)) (se_int)) (sa_nil)))) (x_and c (x_call c (c_is_name T) (by decide) (a_cons c (x_v c 0 (.inl rfl)) (a_cons c (x_ix c (x_v c 1 (.inl rfl)) (se_int)) (sa_nil)))) (se_one (x_ne c (x_ix c (x_v c 1 (.inl rfl)) (se_int)) (x_ix c (x_v c 1 (.inl rfl)) (se_int))))))) (ss_nil))))
abbrev L_evening_deeds_0:SM:=sSeq (sIf (mCmpB fEq (mVar 4) (mVar 2)) (sSeq (sBreak) (sSkip)) (sSkip)) (sSeq (sTgt (.tup [6,7]) (mFrzE 4 (mCall 2 f_next_places [] (mCons (mVar 4) (mCons (mVar 2) (mNil)))))) (sSeq (sAug 4 (mVar 6) (mC (.int 1)) (fun x y=>x - y)) (sSeq (sAug 4 (mVar 7) (mC (.int 1)) (fun x y=>x + y)) (sSeq (sApp 3 (mTup (mCons (mC (.str "transfer")) (mCons (mBin fIx (mVar 0) (mVar 6)) (mCons (mBin fIx (mVar 0) (mVar 7)) (mNil)))))) (sSkip)))))
def m_evening_deeds:SM:=sSeq (sSet 3 (mLst (mNil))) (sSeq (sSet 4 (mCallB fList (mCons (mVar 1) (mNil)))) (sSeq (sFor (mRange1 (mCallB (f1 gSum) (mCons (mVar 1) (mNil)))) (.nm 5) (L_evening_deeds_0)) (sSeq (sFrz 3 (sRet (mVar 3))) (sSkip))))
def f_evening_deeds:FM:=runM m_evening_deeds 8
omit [Tbs] in theorem u_evening_deeds (rs:List Rv) (t:Option DS):f_evening_deeds rs t = runM m_evening_deeds 8 rs t:=rfl
theorem c_evening_deeds {P:Program} {w:World} {K:PySem.W.Frag} {mg:Str → Option Value} {base:Heap} (T:Tx K mg base):CalM P w K mg base 2 3 "evening_deeds" f_evening_deeds []:=
  calM (N:=["names", "row", "aim", "deeds", "now", "step", "over", "under"]) (ps:=["names", "row", "aim"]) (m:=m_evening_deeds) (T.c.def_ 14 rfl) (T.glo 25) ⟨rfl,rfl,rfl,by decide +kernel,rfl,by decide +kernel,by decide +kernel⟩ (by decide) (fun _ _ _ _ _ _ us hl=>match us,hl with | [_,_,_],_=>rfl) (fun c ca=>ss_cons (s_set c 3 (.inl rfl) (se_lst (sa_nil))) (ss_cons (s_set c 4 (.inl rfl) (x_list c (T.free 4) (a_cons c (x_v c 1 (.inl rfl)) (sa_nil)))) (ss_cons (s_for c (i_r1 c (T.free 12) (x_sum c (T.free 24) (a_cons c (x_v c 1 (.inl rfl)) (sa_nil)))) (g_nm c 5 (.inl rfl) (.inl rfl)) (ss_cons (ss_if (b_eq c (x_v c 4 (.inl rfl)) (x_v c 2 (.inl rfl))) (ss_cons (ss_break) (ss_nil)) (ss_nil)) (ss_cons (s_tgt c (g_tup c (.cons rfl (.inl rfl) (.inl rfl) (.cons rfl (.inl rfl) (.inl rfl) .nil))) (se_frz (i:=4) (x_call c (c_next_places T) (by decide) (a_cons c (x_v c 4 (.inl rfl)) (a_cons c (x_v c 2 (.inl rfl)) (sa_nil)))))) (ss_cons (s_augSub c 4 (.inl rfl) (x_v c 6 (.inl rfl)) (se_int)) (ss_cons (s_augAdd c 4 (.inl rfl) (x_v c 7 (.inl rfl)) (se_int)) (ss_cons (s_app c 3 (.inl rfl) (se_tup (a_cons c (se_str) (a_cons c (x_ix c (x_v c 0 (.inl rfl)) (x_v c 6 (.inl rfl))) (a_cons c (x_ix c (x_v c 0 (.inl rfl)) (x_v c 7 (.inl rfl))) (sa_nil)))))) (ss_nil))))))) (ss_cons (ss_frz (i:=3) (ss_ret (x_v c 3 (.inl rfl)))) (ss_nil)))))
def m__law_draw:SM:=sSeq (sSet 2 (mStAt 0)) (sSeq (sStAt 0 (mBin fAdd (mVar 2) (mC (.int 1)))) (sSeq (sSet 3 (mBin fMod (mCallB (f1 gInt) (mCons (mVar 2) (mNil))) (mStLen 0 0))) (sSeq (sSet 4 (mStIx 1 0 (mVar 3))) (sSeq (sIf (mCmpB (fCm iGt) (mVar 4) (mC (.int 0))) (sSeq (sStPut 0 (mVar 3) (mBin fDiv (mVar 4) (mVar 1))) (sSeq (sRet (mBin fMod (mCallB (f1 gInt) (mCons (mVar 4) (mNil))) (mVar 1))) (sSkip))) (sSkip)) (sSeq (sSet 5 (mCall 2 f__law_mixed [] (mCons (mCall 2 f__law_mixed [] (mCons (mStIx 0 0 (mVar 3)) (mCons (mVar 2) (mNil)))) (mCons (mBin fAdd (mC (.int 40)) (mVar 2)) (mNil))))) (sSeq (sRet (mBin fMod (mBin fDiv (mCallB (f1 gInt) (mCons (mBin fAdd (mBin fMul (mVar 5) (mC (.int 2147483647))) (mCall 2 f__law_mixed [] (mCons (mVar 5) (mCons (mBin fAdd (mC (.int 7)) (mVar 2)) (mNil))))) (mNil))) (mC (.int 64))) (mVar 1))) (sSkip)))))))
def f__law_draw:FM:=runM m__law_draw 6
theorem c__law_draw {P:Program} {w:World} {K:PySem.W.Frag} {mg:Str → Option Value} {base:Heap} (T:Tx K mg base):CalM P w K mg base 2 2 "_law_draw" f__law_draw []:=
  calM (N:=["_law_state", "_law_limit", "_law_at", "_law_place", "_law_left", "_law_number"]) (ps:=["_law_state", "_law_limit"]) (m:=m__law_draw) (T.c.def_ 20 rfl) (T.glo 26) ⟨rfl,rfl,rfl,by decide +kernel,rfl,by decide +kernel,by decide +kernel⟩ (by decide) (fun _ _ _ _ _ _ us hl=>match us,hl with | [_,_],_=>rfl) (fun c ca=>ss_cons (s_set c 2 (.inl rfl) (se_stAt c.u1 (x := "_law_state") (i:=0) rfl (.inl rfl) (by decide) (by decide) (by intro _ _; rfl))) (ss_cons (ss_stAt c.u1 (x := "_law_state") (i:=0) rfl (.inl rfl) (by decide) (by decide) (x_add c (x_v c 2 (.inl rfl)) (se_int)) rfl) (ss_cons (s_set c 3 (.inl rfl) (x_mod c (x_int c (T.free 1) (a_cons c (x_v c 2 (.inl rfl)) (sa_nil))) (se_stLen (k:=0) c.u1 (x := "_law_state") (i:=0) rfl (.inl rfl) (by decide) (by decide) (by intro _ _; rfl) rfl (T.free 11) rfl rfl))) (ss_cons (s_set c 4 (.inl rfl) (se_stIx (k:=1) c.u1 (x := "_law_state") (i:=0) rfl (.inl rfl) (by decide) (by decide) (by intro _ _; rfl) (x_v c 3 (.inl rfl)) (by intro _ _; rfl))) (ss_cons (ss_if (b_gt c (x_v c 4 (.inl rfl)) (se_int)) (ss_cons (ss_stPut c.u1 (x := "_law_state") (i:=0) rfl (.inl rfl) (by decide) (by decide) (by intro _ _; rfl) (x_v c 3 (.inl rfl)) (x_div c (x_v c 4 (.inl rfl)) (x_v c 1 (.inl rfl))) (by intro _; rfl) rfl rfl rfl) (ss_cons (ss_ret (x_mod c (x_int c (T.free 1) (a_cons c (x_v c 4 (.inl rfl)) (sa_nil))) (x_v c 1 (.inl rfl)))) (ss_nil))) (ss_nil)) (ss_cons (s_set c 5 (.inl rfl) (x_call c (c__law_mixed T) (by decide) (a_cons c (x_call c (c__law_mixed T) (by decide) (a_cons c (se_stIx (k:=0) c.u1 (x := "_law_state") (i:=0) rfl (.inl rfl) (by decide) (by decide) (by intro _ _; rfl) (x_v c 3 (.inl rfl)) (by intro _ _; rfl)) (a_cons c (x_v c 2 (.inl rfl)) (sa_nil)))) (a_cons c (x_add c (se_int) (x_v c 2 (.inl rfl))) (sa_nil))))) (ss_cons (ss_ret (x_mod c (x_div c (x_int c (T.free 1) (a_cons c (x_add c (x_mul c (x_v c 5 (.inl rfl)) (se_int)) (x_call c (c__law_mixed T) (by decide) (a_cons c (x_v c 5 (.inl rfl)) (a_cons c (x_add c (se_int) (x_v c 2 (.inl rfl))) (sa_nil))))) (sa_nil))) (se_int)) (x_v c 1 (.inl rfl)))) (ss_nil))))))))
abbrev L__law_rows_on_0:SM:=sSeq (sApp 2 (mCall 2 f__law_row_behind [] (mCons (mBin fIx (mVar 2) (mNeg (mC (.int 1)))) (mCons (mVar 3) (mNil))))) (sSkip)
def m__law_rows_on:SM:=sSeq (sSet 2 (mLst (mCons (mVar 0) (mNil)))) (sSeq (sFor (mSeq (mVar 1)) (.nm 3) (L__law_rows_on_0)) (sSeq (sFrz 2 (sRet (mVar 2))) (sSkip)))
def f__law_rows_on:FM:=runM m__law_rows_on 4
omit [Tbs] in theorem u__law_rows_on (rs:List Rv) (t:Option DS):f__law_rows_on rs t = runM m__law_rows_on 4 rs t:=rfl
theorem c__law_rows_on {P:Program} {w:World} {K:PySem.W.Frag} {mg:Str → Option Value} {base:Heap} (T:Tx K mg base):CalM P w K mg base 2 2 "_law_rows_on" f__law_rows_on []:=
  calM (N:=["_law_row_here", "_law_deeds", "_law_found", "_law_deed"]) (ps:=["_law_row_here", "_law_deeds"]) (m:=m__law_rows_on) (T.c.def_ 26 rfl) (T.glo 27) ⟨rfl,rfl,rfl,by decide +kernel,rfl,by decide +kernel,by decide +kernel⟩ (by decide) (fun _ _ _ _ _ _ us hl=>match us,hl with | [_,_],_=>rfl) (fun c ca=>ss_cons (s_set c 2 (.inl rfl) (se_lst (a_cons c (x_v c 0 (.inl rfl)) (sa_nil)))) (ss_cons (s_for c (i_seq c (x_v c 1 (.inl rfl))) (g_nm c 3 (.inl rfl) (.inl rfl)) (ss_cons (s_app c 2 (.inl rfl) (x_call c (c__law_row_behind T) (by decide) (a_cons c (x_ix c (x_v c 2 (.inl rfl)) (se_neg (se_int))) (a_cons c (x_v c 3 (.inl rfl)) (sa_nil))))) (ss_nil))) (ss_cons (ss_frz (i:=2) (ss_ret (x_v c 2 (.inl rfl)))) (ss_nil))))
abbrev M__law_evener_0:EM:=mLc (mZip (mVar 2) (mVar 3)) (.tup [4,5]) (some (mCmpB (fCm iGt) (mVar 4) (mVar 5))) (mC (.int 1)) [4,5]
def m__law_evener:SM:=sSeq (sPar 2 3 (mCall 1 f__law_tops [] (mCons (mVar 0) (mNil))) (mCall 1 f__law_tops [] (mCons (mVar 1) (mNil)))) (sSeq (sRet (mAnd (mBin fEq (mBin fIx (mVar 2) (mNeg (mC (.int 1)))) (mBin fIx (mVar 3) (mNeg (mC (.int 1))))) (mBin fEq (M__law_evener_0) (mLst (mNil))))) (sSkip))
def f__law_evener:FM:=runM m__law_evener 6
omit [Tbs] in theorem u__law_evener (rs:List Rv) (t:Option DS):f__law_evener rs t = runM m__law_evener 6 rs t:=rfl
theorem c__law_evener {P:Program} {w:World} {K:PySem.W.Frag} {mg:Str → Option Value} {base:Heap} (T:Tx K mg base):CalM P w K mg base 2 2 "_law_evener" f__law_evener []:=
  calM (N:=["_law_row_here", "_law_other", "_law_near", "_law_far", "_law_one", "_law_late"]) (ps:=["_law_row_here", "_law_other"]) (m:=m__law_evener) (T.c.def_ 30 rfl) (T.glo 29) ⟨rfl,rfl,rfl,by decide +kernel,rfl,by decide +kernel,by decide +kernel⟩ (by decide) (fun _ _ _ _ _ _ us hl=>match us,hl with | [_,_],_=>rfl) (fun c ca=>ss_cons (s_par c 2 3 rfl rfl (x_call c (c__law_tops T) (by decide) (a_cons c (x_v c 0 (.inl rfl)) (sa_nil))) (x_call c (c__law_tops T) (by decide) (a_cons c (x_v c 1 (.inl rfl)) (sa_nil)))) (ss_cons (ss_ret (x_and c (x_eq c (x_ix c (x_v c 2 (.inl rfl)) (se_neg (se_int))) (x_ix c (x_v c 3 (.inl rfl)) (se_neg (se_int)))) (se_one (x_eq c (x_lc c [("_law_one",4),("_law_late",5)] (i_zip c (T.free 28) (x_v c 2 (.inl rfl)) (x_v c 3 (.inl rfl))) (blk_of (by rfl)) (fun s H C cl fp c=>⟨g_tup c (.cons rfl (.inl rfl) (.inr rfl) (.cons rfl (.inl rfl) (.inr rfl) .nil)),pts_of (b_gt c (x_v c 4 (.inl rfl)) (x_v c 5 (.inl rfl))),se_int⟩)) (se_lst (sa_nil)))))) (ss_nil)))
abbrev L__law_way_error_0:SM:=sSeq (sIf (mAndB (mCmpB fEq (mBin fIx (mVar 4) (mC (.int 0))) (mC (.str "transfer"))) (mCmpB (fCm iLe) (mBin fIx (mVar 5) (mBin fIx (mVar 4) (mC (.int 1)))) (mBin fIx (mVar 5) (mBin fIx (mVar 4) (mC (.int 2)))))) (sSeq (sRet (mTup (mCons (mC (.str "step")) (mCons (mVar 3) (mNil))))) (sSkip)) (sSkip)) (sSeq (sFrz 5 (sSet 5 (mCall 2 f__law_row_behind [] (mCons (mVar 5) (mCons (mVar 4) (mNil)))))) (sSkip))
abbrev L__law_way_error_1:SM:=sSeq (sIf (mNotB (mTru (mCall 2 f__law_is_deed [] (mCons (mVar 0) (mCons (mVar 4) (mNil)))))) (sSeq (sRet (mTup (mCons (mC (.str "way")) (mCons (mVar 3) (mNil))))) (sSkip)) (sSkip)) (sSkip)
def m__law_way_error:SM:=sSeq (sIf (mOrB (mNotB (mTru (mIsi "tuple" (mVar 2)))) (mCmpB (fCm iGt) (mCallB (f1 gLen) (mCons (mVar 2) (mNil))) (mC (.int 60)))) (sSeq (sRet (mTup (mCons (mC (.str "way")) (mCons (mIf (mTru (mIsi "tuple" (mVar 2))) (mC (.int 60)) (mC (.int 0))) (mNil))))) (sSkip)) (sSkip)) (sSeq (sFor (mEnum (mVar 2)) (.tup [3,4]) (L__law_way_error_1)) (sSeq (sSet 5 (mVar 1)) (sSeq (sFor (mEnum (mVar 2)) (.tup [3,4]) (L__law_way_error_0)) (sSeq (sRet (mC .none)) (sSkip)))))
def f__law_way_error:FM:=runM m__law_way_error 6
omit [Tbs] in theorem u__law_way_error (rs:List Rv) (t:Option DS):f__law_way_error rs t = runM m__law_way_error 6 rs t:=rfl
theorem c__law_way_error {P:Program} {w:World} {K:PySem.W.Frag} {mg:Str → Option Value} {base:Heap} (T:Tx K mg base):CalM P w K mg base 2 3 "_law_way_error" f__law_way_error []:=
  calM (N:=["_law_n", "_law_row_here", "_law_way_here", "_law_at", "_law_deed", "_law_here"]) (ps:=["_law_n", "_law_row_here", "_law_way_here"]) (m:=m__law_way_error) (T.c.def_ 32 rfl) (T.glo 31) ⟨rfl,rfl,rfl,by decide +kernel,rfl,by decide +kernel,by decide +kernel⟩ (by decide) (fun _ _ _ _ _ _ us hl=>match us,hl with | [_,_,_],_=>rfl) (fun c ca=>ss_cons (ss_if (SW.sb (sw_or (sb_not (b_tr c (x_isi c (T := "tuple") (T.free 0) (T.free 8) rfl (x_v c 2 (.inl rfl))))) (sw_or1 (b_gt c (x_len c (T.free 11) (a_cons c (x_v c 2 (.inl rfl)) (sa_nil))) (se_int))))) (ss_cons (ss_ret (se_tup (a_cons c (se_str) (a_cons c (se_if (b_tr c (x_isi c (T := "tuple") (T.free 0) (T.free 8) rfl (x_v c 2 (.inl rfl)))) (se_int) (se_int)) (sa_nil))))) (ss_nil)) (ss_nil)) (ss_cons (s_for c (i_enum c (T.free 30) (x_v c 2 (.inl rfl))) (g_tup c (.cons rfl (.inl rfl) (.inl rfl) (.cons rfl (.inl rfl) (.inl rfl) .nil))) (ss_cons (ss_if (sb_not (b_tr c (x_call c (c__law_is_deed T) (by decide) (a_cons c (x_v c 0 (.inl rfl)) (a_cons c (x_v c 4 (.inl rfl)) (sa_nil)))))) (ss_cons (ss_ret (se_tup (a_cons c (se_str) (a_cons c (x_v c 3 (.inl rfl)) (sa_nil))))) (ss_nil)) (ss_nil)) (ss_nil))) (ss_cons (s_set c 5 (.inl rfl) (x_v c 1 (.inl rfl))) (ss_cons (s_for c (i_enum c (T.free 30) (x_v c 2 (.inl rfl))) (g_tup c (.cons rfl (.inl rfl) (.inl rfl) (.cons rfl (.inl rfl) (.inl rfl) .nil))) (ss_cons (ss_if (SW.sb (sw_and (b_eq c (x_ix c (x_v c 4 (.inl rfl)) (se_int)) (se_str)) (sw_and1 (b_le c (x_ix c (x_v c 5 (.inl rfl)) (x_ix c (x_v c 4 (.inl rfl)) (se_int))) (x_ix c (x_v c 5 (.inl rfl)) (x_ix c (x_v c 4 (.inl rfl)) (se_int))))))) (ss_cons (ss_ret (se_tup (a_cons c (se_str) (a_cons c (x_v c 3 (.inl rfl)) (sa_nil))))) (ss_nil)) (ss_nil)) (ss_cons (ss_frz (i:=5) (s_set c 5 (.inl rfl) (x_call c (c__law_row_behind T) (by decide) (a_cons c (x_v c 5 (.inl rfl)) (a_cons c (x_v c 4 (.inl rfl)) (sa_nil)))))) (ss_nil)))) (ss_cons (ss_ret (se_none)) (ss_nil))))))
def m_need_many:SM:=sSeq (sIf (mNotB (mTru (mCall 3 f_is_from [] (mCons (mVar 0) (mCons (mC (.int 2)) (mCons (mC (.int 5)) (mNil))))))) (sSeq (sRaise "BadMany" ["value"] (mCons (mVar 0) (mNil))) (sSkip)) (sSkip)) (sSeq (sRet (mVar 0)) (sSkip))
def f_need_many:FM:=runM m_need_many 1
theorem c_need_many {P:Program} {w:World} {K:PySem.W.Frag} {mg:Str → Option Value} {base:Heap} (T:Tx K mg base):CalM P w K mg base 3 1 "need_many" f_need_many []:=
  calM (N:=["value"]) (ps:=["value"]) (m:=m_need_many) (T.c.def_ 1 rfl) (T.glo 32) ⟨rfl,rfl,rfl,by decide +kernel,rfl,by decide +kernel,by decide +kernel⟩ (by decide) (fun _ _ _ _ _ _ us hl=>match us,hl with | [_],_=>rfl) (fun c ca=>ss_cons (ss_if (sb_not (b_tr c (x_call c (c_is_from T) (by decide) (a_cons c (x_v c 0 (.inl rfl)) (a_cons c (se_int) (a_cons c (se_int) (sa_nil))))))) (ss_cons (s_raise c (x_BadMany T) (by decide) (a_cons c (x_v c 0 (.inl rfl)) (sa_nil))) (ss_nil)) (ss_nil)) (ss_cons (ss_ret (x_v c 0 (.inl rfl))) (ss_nil)))
abbrev L_goes_under_0:SM:=sSeq (sIf (mCmpB (fCm iGt) (mBin fIx (mVar 2) (mVar 4)) (mBin fIx (mVar 3) (mVar 4))) (sSeq (sRet (mC (.bool false))) (sSkip)) (sSkip)) (sSkip)
def m_goes_under:SM:=sSeq (sSet 2 (mCall 1 f_top_sums [] (mCons (mVar 0) (mNil)))) (sSeq (sSet 3 (mCall 1 f_top_sums [] (mCons (mVar 1) (mNil)))) (sSeq (sIf (mCmpB fNe (mBin fIx (mVar 2) (mNeg (mC (.int 1)))) (mBin fIx (mVar 3) (mNeg (mC (.int 1))))) (sSeq (sRet (mC (.bool false))) (sSkip)) (sSkip)) (sSeq (sFor (mRange1 (mCallB (f1 gLen) (mCons (mVar 2) (mNil)))) (.nm 4) (L_goes_under_0)) (sSeq (sRet (mC (.bool true))) (sSkip)))))
def f_goes_under:FM:=runM m_goes_under 5
omit [Tbs] in theorem u_goes_under (rs:List Rv) (t:Option DS):f_goes_under rs t = runM m_goes_under 5 rs t:=rfl
theorem c_goes_under {P:Program} {w:World} {K:PySem.W.Frag} {mg:Str → Option Value} {base:Heap} (T:Tx K mg base):CalM P w K mg base 3 2 "goes_under" f_goes_under []:=
  calM (N:=["row", "other", "near", "far", "place"]) (ps:=["row", "other"]) (m:=m_goes_under) (T.c.def_ 6 rfl) (T.glo 33) ⟨rfl,rfl,rfl,by decide +kernel,rfl,by decide +kernel,by decide +kernel⟩ (by decide) (fun _ _ _ _ _ _ us hl=>match us,hl with | [_,_],_=>rfl) (fun c ca=>ss_cons (s_set c 2 (.inl rfl) (x_call c (c_top_sums T) (by decide) (a_cons c (x_v c 0 (.inl rfl)) (sa_nil)))) (ss_cons (s_set c 3 (.inl rfl) (x_call c (c_top_sums T) (by decide) (a_cons c (x_v c 1 (.inl rfl)) (sa_nil)))) (ss_cons (ss_if (b_ne c (x_ix c (x_v c 2 (.inl rfl)) (se_neg (se_int))) (x_ix c (x_v c 3 (.inl rfl)) (se_neg (se_int)))) (ss_cons (ss_ret (se_bool)) (ss_nil)) (ss_nil)) (ss_cons (s_for c (i_r1 c (T.free 12) (x_len c (T.free 11) (a_cons c (x_v c 2 (.inl rfl)) (sa_nil)))) (g_nm c 4 (.inl rfl) (.inl rfl)) (ss_cons (ss_if (b_gt c (x_ix c (x_v c 2 (.inl rfl)) (x_v c 4 (.inl rfl))) (x_ix c (x_v c 3 (.inl rfl)) (x_v c 4 (.inl rfl)))) (ss_cons (ss_ret (se_bool)) (ss_nil)) (ss_nil)) (ss_nil))) (ss_cons (ss_ret (se_bool)) (ss_nil))))))
abbrev L_need_way_0:SM:=sSeq (sSet 5 (mCall 2 f_row_behind [] (mCons (mBin fIx (mVar 4) (mNeg (mC (.int 1)))) (mCons (mBin fIx (mVar 2) (mVar 3)) (mNil))))) (sSeq (sIf (mCmpB fIs (mVar 5) (mC .none)) (sSeq (sRaise "BadStep" ["place"] (mCons (mVar 3) (mNil))) (sSkip)) (sSkip)) (sSeq (sApp 4 (mVar 5)) (sSkip)))
abbrev L_need_way_1:SM:=sSeq (sIf (mNotB (mTru (mCall 2 f_is_deed [] (mCons (mVar 0) (mCons (mBin fIx (mVar 2) (mVar 3)) (mNil)))))) (sSeq (sRaise "BadWay" ["place"] (mCons (mVar 3) (mNil))) (sSkip)) (sSkip)) (sSkip)
def m_need_way:SM:=sSeq (sIf (mNotB (mTru (mIsi "tuple" (mVar 2)))) (sSeq (sRaise "BadWay" ["place"] (mCons (mC (.int 0)) (mNil))) (sSkip)) (sSkip)) (sSeq (sIf (mCmpB (fCm iGt) (mCallB (f1 gLen) (mCons (mVar 2) (mNil))) (mC (.int 60))) (sSeq (sRaise "BadWay" ["place"] (mCons (mC (.int 60)) (mNil))) (sSkip)) (sSkip)) (sSeq (sFor (mRange1 (mCallB (f1 gLen) (mCons (mVar 2) (mNil)))) (.nm 3) (L_need_way_1)) (sSeq (sSet 4 (mLst (mCons (mVar 1) (mNil)))) (sSeq (sFor (mRange1 (mCallB (f1 gLen) (mCons (mVar 2) (mNil)))) (.nm 3) (L_need_way_0)) (sSeq (sFrz 4 (sRet (mVar 4))) (sSkip))))))
def f_need_way:FM:=runM m_need_way 6
omit [Tbs] in theorem u_need_way (rs:List Rv) (t:Option DS):f_need_way rs t = runM m_need_way 6 rs t:=rfl
theorem c_need_way {P:Program} {w:World} {K:PySem.W.Frag} {mg:Str → Option Value} {base:Heap} (T:Tx K mg base):CalM P w K mg base 3 3 "need_way" f_need_way []:=
  calM (N:=["many", "start", "way", "place", "rows", "row"]) (ps:=["many", "start", "way"]) (m:=m_need_way) (T.c.def_ 10 rfl) (T.glo 34) ⟨rfl,rfl,rfl,by decide +kernel,rfl,by decide +kernel,by decide +kernel⟩ (by decide) (fun _ _ _ _ _ _ us hl=>match us,hl with | [_,_,_],_=>rfl) (fun c ca=>ss_cons (ss_if (sb_not (b_tr c (x_isi c (T := "tuple") (T.free 0) (T.free 8) rfl (x_v c 2 (.inl rfl))))) (ss_cons (s_raise c (x_BadWay T) (by decide) (a_cons c (se_int) (sa_nil))) (ss_nil)) (ss_nil)) (ss_cons (ss_if (b_gt c (x_len c (T.free 11) (a_cons c (x_v c 2 (.inl rfl)) (sa_nil))) (se_int)) (ss_cons (s_raise c (x_BadWay T) (by decide) (a_cons c (se_int) (sa_nil))) (ss_nil)) (ss_nil)) (ss_cons (s_for c (i_r1 c (T.free 12) (x_len c (T.free 11) (a_cons c (x_v c 2 (.inl rfl)) (sa_nil)))) (g_nm c 3 (.inl rfl) (.inl rfl)) (ss_cons (ss_if (sb_not (b_tr c (x_call c (c_is_deed T) (by decide) (a_cons c (x_v c 0 (.inl rfl)) (a_cons c (x_ix c (x_v c 2 (.inl rfl)) (x_v c 3 (.inl rfl))) (sa_nil)))))) (ss_cons (s_raise c (x_BadWay T) (by decide) (a_cons c (x_v c 3 (.inl rfl)) (sa_nil))) (ss_nil)) (ss_nil)) (ss_nil))) (ss_cons (s_set c 4 (.inl rfl) (se_lst (a_cons c (x_v c 1 (.inl rfl)) (sa_nil)))) (ss_cons (s_for c (i_r1 c (T.free 12) (x_len c (T.free 11) (a_cons c (x_v c 2 (.inl rfl)) (sa_nil)))) (g_nm c 3 (.inl rfl) (.inl rfl)) (ss_cons (s_set c 5 (.inl rfl) (x_call c (c_row_behind T) (by decide) (a_cons c (x_ix c (x_v c 4 (.inl rfl)) (se_neg (se_int))) (a_cons c (x_ix c (x_v c 2 (.inl rfl)) (x_v c 3 (.inl rfl))) (sa_nil))))) (ss_cons (ss_if (b_is c (x_v c 5 (.inl rfl)) (se_none)) (ss_cons (s_raise c (x_BadStep T) (by decide) (a_cons c (x_v c 3 (.inl rfl)) (sa_nil))) (ss_nil)) (ss_nil)) (ss_cons (s_app c 4 (.inl rfl) (x_v c 5 (.inl rfl))) (ss_nil))))) (ss_cons (ss_frz (i:=4) (ss_ret (x_v c 4 (.inl rfl)))) (ss_nil)))))))
def m__law_of:SM:=sSeq (sRet (mBin fIx (mVar 1) (mCall 2 f__law_draw [] (mCons (mVar 0) (mCons (mCallB (f1 gLen) (mCons (mVar 1) (mNil))) (mNil)))))) (sSkip)
def f__law_of:FM:=runM m__law_of 2
theorem c__law_of {P:Program} {w:World} {K:PySem.W.Frag} {mg:Str → Option Value} {base:Heap} (T:Tx K mg base):CalM P w K mg base 3 2 "_law_of" f__law_of []:=
  calM (N:=["_law_state", "_law_some"]) (ps:=["_law_state", "_law_some"]) (m:=m__law_of) (T.c.def_ 21 rfl) (T.glo 35) ⟨rfl,rfl,rfl,by decide +kernel,rfl,by decide +kernel,by decide +kernel⟩ (by decide) (fun _ _ _ _ _ _ us hl=>match us,hl with | [_,_],_=>rfl) (fun c ca=>ss_cons (ss_ret (x_ix c (x_v c 1 (.inl rfl)) (x_call c (c__law_draw T) (by decide) (a_cons c (x_v c 0 (.inl rfl)) (a_cons c (x_len c (T.free 11) (a_cons c (x_v c 1 (.inl rfl)) (sa_nil))) (sa_nil)))))) (ss_nil))
def m__law_two:SM:=sSeq (sSet 2 (mCall 2 f__law_draw [] (mCons (mVar 0) (mCons (mVar 1) (mNil))))) (sSeq (sRet (mTup (mCons (mVar 2) (mCons (mBin fMod (mBin fAdd (mBin fAdd (mVar 2) (mC (.int 1))) (mCall 2 f__law_draw [] (mCons (mVar 0) (mCons (mBin fSub (mVar 1) (mC (.int 1))) (mNil))))) (mVar 1)) (mNil))))) (sSkip))
def f__law_two:FM:=runM m__law_two 3
omit [Tbs] in theorem u__law_two (rs:List Rv) (t:Option DS):f__law_two rs t = runM m__law_two 3 rs t:=rfl
theorem c__law_two {P:Program} {w:World} {K:PySem.W.Frag} {mg:Str → Option Value} {base:Heap} (T:Tx K mg base):CalM P w K mg base 3 2 "_law_two" f__law_two []:=
  calM (N:=["_law_state", "_law_n", "_law_one"]) (ps:=["_law_state", "_law_n"]) (m:=m__law_two) (T.c.def_ 22 rfl) (T.glo 36) ⟨rfl,rfl,rfl,by decide +kernel,rfl,by decide +kernel,by decide +kernel⟩ (by decide) (fun _ _ _ _ _ _ us hl=>match us,hl with | [_,_],_=>rfl) (fun c ca=>ss_cons (s_set c 2 (.inl rfl) (x_call c (c__law_draw T) (by decide) (a_cons c (x_v c 0 (.inl rfl)) (a_cons c (x_v c 1 (.inl rfl)) (sa_nil))))) (ss_cons (ss_ret (se_tup (a_cons c (x_v c 2 (.inl rfl)) (a_cons c (x_mod c (x_add c (x_add c (x_v c 2 (.inl rfl)) (se_int)) (x_call c (c__law_draw T) (by decide) (a_cons c (x_v c 0 (.inl rfl)) (a_cons c (x_sub c (x_v c 1 (.inl rfl)) (se_int)) (sa_nil))))) (x_v c 1 (.inl rfl))) (sa_nil))))) (ss_nil)))
abbrev M__law_row_0:EM:=mLc (mRange1 (mVar 1)) (.nm 6) none (mCall 2 f__law_draw [] (mCons (mVar 0) (mCons (mVar 3) (mNil)))) [6]
abbrev M__law_row_1:EM:=mLc (mRange1 (mVar 1)) (.nm 6) none (mBin fIx (mLst (mCons (mVar 4) (mCons (mVar 5) (mNil)))) (mCall 2 f__law_draw [] (mCons (mVar 0) (mCons (mC (.int 2)) (mNil))))) [6]
abbrev M__law_row_2:EM:=mLc (mRange1 (mVar 1)) (.nm 6) none (mCall 2 f__law_draw [] (mCons (mVar 0) (mCons (mC (.int 25)) (mNil)))) [6]
def m__law_row:SM:=sSeq (sSet 2 (mCall 2 f__law_draw [] (mCons (mVar 0) (mCons (mC (.int 5)) (mNil))))) (sSeq (sIf (mCmpB fEq (mVar 2) (mC (.int 0))) (sSeq (sRet (mCallB fTuple (mCons (M__law_row_2) (mNil)))) (sSkip)) (sSkip)) (sSeq (sSet 3 (mIf (mCmpB fEq (mVar 2) (mC (.int 1))) (mC (.int 24)) (mIf (mCmpB (fCm iLt) (mVar 2) (mC (.int 4))) (mC (.int 3)) (mC (.int 6))))) (sSeq (sTgt (.tup [4,5]) (mTup (mCons (mCall 2 f__law_draw [] (mCons (mVar 0) (mCons (mBin fAdd (mVar 3) (mC (.int 1))) (mNil)))) (mCons (mCall 2 f__law_draw [] (mCons (mVar 0) (mCons (mBin fAdd (mVar 3) (mC (.int 1))) (mNil)))) (mNil))))) (sSeq (sIf (mCmpB fEq (mVar 2) (mC (.int 1))) (sSeq (sRet (mCallB fTuple (mCons (M__law_row_1) (mNil)))) (sSkip)) (sSkip)) (sSeq (sRet (mCallB fTuple (mCons (M__law_row_0) (mNil)))) (sSkip))))))
def f__law_row:FM:=runM m__law_row 7
omit [Tbs] in theorem u__law_row (rs:List Rv) (t:Option DS):f__law_row rs t = runM m__law_row 7 rs t:=rfl
theorem c__law_row {P:Program} {w:World} {K:PySem.W.Frag} {mg:Str → Option Value} {base:Heap} (T:Tx K mg base):CalM P w K mg base 3 2 "_law_row" f__law_row []:=
  calM (N:=["_law_state", "_law_n", "_law_pick", "_law_top", "_law_one", "_law_far", "_law_name"]) (ps:=["_law_state", "_law_n"]) (m:=m__law_row) (T.c.def_ 27 rfl) (T.glo 37) ⟨rfl,rfl,rfl,by decide +kernel,rfl,by decide +kernel,by decide +kernel⟩ (by decide) (fun _ _ _ _ _ _ us hl=>match us,hl with | [_,_],_=>rfl) (fun c ca=>ss_cons (s_set c 2 (.inl rfl) (x_call c (c__law_draw T) (by decide) (a_cons c (x_v c 0 (.inr (.inl rfl))) (a_cons c (se_int) (sa_nil))))) (ss_cons (ss_if (b_eq c (x_v c 2 (.inl rfl)) (se_int)) (ss_cons (ss_ret (x_tuple c (T.free 8) (a_cons c (x_lc c [("_law_name",6)] (i_r1 c (T.free 12) (x_v c 1 (.inl rfl))) (blk_of (by rfl)) (fun s H C cl fp c=>⟨g_nm c 6 (.inl rfl) (.inr rfl),pts_nil,x_call c (c__law_draw T) (by decide) (a_cons c (x_v c 0 (.inr (.inl rfl))) (a_cons c (se_int) (sa_nil)))⟩)) (sa_nil)))) (ss_nil)) (ss_nil)) (ss_cons (s_set c 3 (.inr rfl) (se_if (b_eq c (x_v c 2 (.inl rfl)) (se_int)) (se_int) (se_if (b_lt c (x_v c 2 (.inl rfl)) (se_int)) (se_int) (se_int)))) (ss_cons (s_tgt c (g_tup c (.cons rfl (.inr rfl) (.inl rfl) (.cons rfl (.inr rfl) (.inl rfl) .nil))) (se_tup (a_cons c (x_call c (c__law_draw T) (by decide) (a_cons c (x_v c 0 (.inr (.inl rfl))) (a_cons c (x_add c (x_v c 3 (.inr (.inl rfl))) (se_int)) (sa_nil)))) (a_cons c (x_call c (c__law_draw T) (by decide) (a_cons c (x_v c 0 (.inr (.inl rfl))) (a_cons c (x_add c (x_v c 3 (.inr (.inl rfl))) (se_int)) (sa_nil)))) (sa_nil))))) (ss_cons (ss_if (b_eq c (x_v c 2 (.inl rfl)) (se_int)) (ss_cons (ss_ret (x_tuple c (T.free 8) (a_cons c (x_lc c [("_law_name",6)] (i_r1 c (T.free 12) (x_v c 1 (.inl rfl))) (blk_of (by rfl)) (fun s H C cl fp c=>⟨g_nm c 6 (.inl rfl) (.inr rfl),pts_nil,x_ix c (se_lst (a_cons c (x_v c 4 (.inr (.inl rfl))) (a_cons c (x_v c 5 (.inr (.inl rfl))) (sa_nil)))) (x_call c (c__law_draw T) (by decide) (a_cons c (x_v c 0 (.inr (.inl rfl))) (a_cons c (se_int) (sa_nil))))⟩)) (sa_nil)))) (ss_nil)) (ss_nil)) (ss_cons (ss_ret (x_tuple c (T.free 8) (a_cons c (x_lc c [("_law_name",6)] (i_r1 c (T.free 12) (x_v c 1 (.inl rfl))) (blk_of (by rfl)) (fun s H C cl fp c=>⟨g_nm c 6 (.inl rfl) (.inr rfl),pts_nil,x_call c (c__law_draw T) (by decide) (a_cons c (x_v c 0 (.inr (.inl rfl))) (a_cons c (x_v c 3 (.inr (.inl rfl))) (sa_nil)))⟩)) (sa_nil)))) (ss_nil)))))))
def m__law_leads:SM:=sSeq (sRet (mAnd (mBin fIs (mCall 3 f__law_way_error [] (mCons (mVar 0) (mCons (mVar 1) (mCons (mVar 3) (mNil))))) (mC .none)) (mBin fEq (mBin fIx (mCall 2 f__law_rows_on [] (mCons (mVar 1) (mCons (mVar 3) (mNil)))) (mNeg (mC (.int 1)))) (mVar 2)))) (sSkip)
def f__law_leads:FM:=runM m__law_leads 4
omit [Tbs] in theorem u__law_leads (rs:List Rv) (t:Option DS):f__law_leads rs t = runM m__law_leads 4 rs t:=rfl
theorem c__law_leads {P:Program} {w:World} {K:PySem.W.Frag} {mg:Str → Option Value} {base:Heap} (T:Tx K mg base):CalM P w K mg base 3 4 "_law_leads" f__law_leads []:=
  calM (N:=["_law_n", "_law_row_here", "_law_goal", "_law_way_here"]) (ps:=["_law_n", "_law_row_here", "_law_goal", "_law_way_here"]) (m:=m__law_leads) (T.c.def_ 33 rfl) (T.glo 38) ⟨rfl,rfl,rfl,by decide +kernel,rfl,by decide +kernel,by decide +kernel⟩ (by decide) (fun _ _ _ _ _ _ us hl=>match us,hl with | [_,_,_,_],_=>rfl) (fun c ca=>ss_cons (ss_ret (x_and c (x_is c (x_call c (c__law_way_error T) (by decide) (a_cons c (x_v c 0 (.inl rfl)) (a_cons c (x_v c 1 (.inl rfl)) (a_cons c (x_v c 3 (.inl rfl)) (sa_nil))))) (se_none)) (se_one (x_eq c (x_ix c (x_call c (c__law_rows_on T) (by decide) (a_cons c (x_v c 1 (.inl rfl)) (a_cons c (x_v c 3 (.inl rfl)) (sa_nil)))) (se_neg (se_int))) (x_v c 2 (.inl rfl)))))) (ss_nil))
abbrev L_is_content_0:SM:=sSeq (sIf (mNotB (mTru (mCall 3 f_is_from [] (mCons (mVar 2) (mCons (mC (.int 0)) (mCons (mC (.int 24)) (mNil))))))) (sSeq (sRet (mC (.bool false))) (sSkip)) (sSkip)) (sSkip)
def m_is_content:SM:=sSeq (sExpr (mCall 1 f_need_many [] (mCons (mVar 0) (mNil)))) (sSeq (sIf (mOrB (mNotB (mTru (mIsi "tuple" (mVar 1)))) (mCmpB fNe (mCallB (f1 gLen) (mCons (mVar 1) (mNil))) (mVar 0))) (sSeq (sRet (mC (.bool false))) (sSkip)) (sSkip)) (sSeq (sFor (mSeq (mVar 1)) (.nm 2) (L_is_content_0)) (sSeq (sRet (mC (.bool true))) (sSkip))))
def f_is_content:FM:=runM m_is_content 3
omit [Tbs] in theorem u_is_content (rs:List Rv) (t:Option DS):f_is_content rs t = runM m_is_content 3 rs t:=rfl
theorem c_is_content {P:Program} {w:World} {K:PySem.W.Frag} {mg:Str → Option Value} {base:Heap} (T:Tx K mg base):CalM P w K mg base 4 2 "is_content" f_is_content []:=
  calM (N:=["many", "value", "number"]) (ps:=["many", "value"]) (m:=m_is_content) (T.c.def_ 2 rfl) (T.glo 40) ⟨rfl,rfl,rfl,by decide +kernel,rfl,by decide +kernel,by decide +kernel⟩ (by decide) (fun _ _ _ _ _ _ us hl=>match us,hl with | [_,_],_=>rfl) (fun c ca=>ss_cons (s_expr c (x_call c (c_need_many T) (by decide) (a_cons c (x_v c 0 (.inl rfl)) (sa_nil)))) (ss_cons (ss_if (SW.sb (sw_or (sb_not (b_tr c (x_isi c (T := "tuple") (T.free 0) (T.free 8) rfl (x_v c 1 (.inl rfl))))) (sw_or1 (b_ne c (x_len c (T.free 11) (a_cons c (x_v c 1 (.inl rfl)) (sa_nil))) (x_v c 0 (.inl rfl)))))) (ss_cons (ss_ret (se_bool)) (ss_nil)) (ss_nil)) (ss_cons (s_for c (i_seq c (x_v c 1 (.inl rfl))) (g_nm c 2 (.inl rfl) (.inl rfl)) (ss_cons (ss_if (sb_not (b_tr c (x_call c (c_is_from T) (by decide) (a_cons c (x_v c 2 (.inl rfl)) (a_cons c (se_int) (a_cons c (x_gi c (T.int 39)) (sa_nil))))))) (ss_cons (ss_ret (se_bool)) (ss_nil)) (ss_nil)) (ss_nil))) (ss_cons (ss_ret (se_bool)) (ss_nil)))))
abbrev L__law_way_0:SM:=sSeq (sTgt (.tup [7,8]) (mCall 2 f__law_two [] (mCons (mVar 0) (mCons (mVar 1) (mNil))))) (sSeq (sSet 9 (mCall 2 f__law_draw [] (mCons (mVar 0) (mCons (mC (.int 4)) (mNil))))) (sSeq (sSet 10 (mTup (mCons (mC (.str "exchange")) (mCons (mVar 7) (mCons (mVar 8) (mNil)))))) (sSeq (sIf (mAndB (mCmpB (fCm iGt) (mBin fIx (mVar 5) (mVar 7)) (mBin fIx (mVar 5) (mVar 8))) (mCmpB (fCm iGt) (mVar 9) (mC (.int 0)))) (sSeq (sSet 10 (mTup (mCons (mC (.str "transfer")) (mCons (mVar 7) (mCons (mVar 8) (mNil)))))) (sSkip)) (sSkip)) (sSeq (sIf (mAndB (mCmpB (fCm iGt) (mBin fIx (mVar 5) (mVar 8)) (mBin fIx (mVar 5) (mVar 7))) (mCmpB (fCm iGt) (mVar 9) (mC (.int 1)))) (sSeq (sSet 10 (mTup (mCons (mC (.str "transfer")) (mCons (mVar 8) (mCons (mVar 7) (mNil)))))) (sSkip)) (sSkip)) (sSeq (sFrz 5 (sSet 5 (mCall 2 f__law_row_behind [] (mCons (mVar 5) (mCons (mVar 10) (mNil)))))) (sSeq (sSet 4 (mBin fAdd (mVar 4) (mTup (mCons (mVar 10) (mNil))))) (sSkip)))))))
def m__law_way:SM:=sSeq (sParL 4 5 (mTup (mNil)) (mVar 2)) (sSeq (sFor (mRange1 (mVar 3)) (.nm 6) (L__law_way_0)) (sSeq (sFrz 4 (sRet (mVar 4))) (sSkip)))
def f__law_way:FM:=runM m__law_way 11
omit [Tbs] in theorem u__law_way (rs:List Rv) (t:Option DS):f__law_way rs t = runM m__law_way 11 rs t:=rfl
theorem c__law_way {P:Program} {w:World} {K:PySem.W.Frag} {mg:Str → Option Value} {base:Heap} (T:Tx K mg base):CalM P w K mg base 4 4 "_law_way" f__law_way []:=
  calM (N:=["_law_state", "_law_n", "_law_row_here", "_law_many_so", "_law_deeds", "_law_here", "_law_step", "_law_one", "_law_other", "_law_pick", "_law_deed"]) (ps:=["_law_state", "_law_n", "_law_row_here", "_law_many_so"]) (m:=m__law_way) (T.c.def_ 25 rfl) (T.glo 41) ⟨rfl,rfl,rfl,by decide +kernel,rfl,by decide +kernel,by decide +kernel⟩ (by decide) (fun _ _ _ _ _ _ us hl=>match us,hl with | [_,_,_,_],_=>rfl) (fun c ca=>ss_cons (s_parL c 4 5 rfl rfl (se_tup (sa_nil)) (x_v c 2 (.inl rfl))) (ss_cons (s_for c (i_r1 c (T.free 12) (x_v c 3 (.inl rfl))) (g_nm c 6 (.inl rfl) (.inl rfl)) (ss_cons (s_tgt c (g_tup c (.cons rfl (.inl rfl) (.inl rfl) (.cons rfl (.inl rfl) (.inl rfl) .nil))) (x_call c (c__law_two T) (by decide) (a_cons c (x_v c 0 (.inl rfl)) (a_cons c (x_v c 1 (.inl rfl)) (sa_nil))))) (ss_cons (s_set c 9 (.inl rfl) (x_call c (c__law_draw T) (by decide) (a_cons c (x_v c 0 (.inl rfl)) (a_cons c (se_int) (sa_nil))))) (ss_cons (s_set c 10 (.inl rfl) (se_tup (a_cons c (se_str) (a_cons c (x_v c 7 (.inl rfl)) (a_cons c (x_v c 8 (.inl rfl)) (sa_nil)))))) (ss_cons (ss_if (SW.sb (sw_and (b_gt c (x_ix c (x_v c 5 (.inl rfl)) (x_v c 7 (.inl rfl))) (x_ix c (x_v c 5 (.inl rfl)) (x_v c 8 (.inl rfl)))) (sw_and1 (b_gt c (x_v c 9 (.inl rfl)) (se_int))))) (ss_cons (s_set c 10 (.inl rfl) (se_tup (a_cons c (se_str) (a_cons c (x_v c 7 (.inl rfl)) (a_cons c (x_v c 8 (.inl rfl)) (sa_nil)))))) (ss_nil)) (ss_nil)) (ss_cons (ss_if (SW.sb (sw_and (b_gt c (x_ix c (x_v c 5 (.inl rfl)) (x_v c 8 (.inl rfl))) (x_ix c (x_v c 5 (.inl rfl)) (x_v c 7 (.inl rfl)))) (sw_and1 (b_gt c (x_v c 9 (.inl rfl)) (se_int))))) (ss_cons (s_set c 10 (.inl rfl) (se_tup (a_cons c (se_str) (a_cons c (x_v c 8 (.inl rfl)) (a_cons c (x_v c 7 (.inl rfl)) (sa_nil)))))) (ss_nil)) (ss_nil)) (ss_cons (ss_frz (i:=5) (s_set c 5 (.inl rfl) (x_call c (c__law_row_behind T) (by decide) (a_cons c (x_v c 5 (.inl rfl)) (a_cons c (x_v c 10 (.inl rfl)) (sa_nil)))))) (ss_cons (s_set c 4 (.inl rfl) (x_add c (x_v c 4 (.inl rfl)) (se_tup (a_cons c (x_v c 10 (.inl rfl)) (sa_nil))))) (ss_nil))))))))) (ss_cons (ss_frz (i:=4) (ss_ret (x_v c 4 (.inl rfl)))) (ss_nil))))
abbrev L__law_near_row_0:SM:=sSeq (sTgt (.tup [5,6]) (mCall 2 f__law_two [] (mCons (mVar 0) (mCons (mVar 1) (mNil))))) (sSeq (sIf (mCmpB fEq (mCall 2 f__law_draw [] (mCons (mVar 0) (mCons (mC (.int 4)) (mNil)))) (mC (.int 0))) (sSeq (sSwp 3 (mTup (mCons (mBin fIx (mVar 3) (mVar 6)) (mCons (mBin fIx (mVar 3) (mVar 5)) (mNil)))) (mVar 5) (mVar 6)) (sSkip)) (sSeq (sIf (mAndB (mCmpB (fCm iGt) (mBin fIx (mVar 3) (mVar 5)) (mC (.int 0))) (mCmpB (fCm iLt) (mBin fIx (mVar 3) (mVar 6)) (mC (.int 24)))) (sSeq (sPut 3 (mVar 5) (mBin fSub (mBin fIx (mVar 3) (mVar 5)) (mC (.int 1)))) (sSeq (sPut 3 (mVar 6) (mBin fAdd (mBin fIx (mVar 3) (mVar 6)) (mC (.int 1)))) (sSkip))) (sSkip)) (sSkip))) (sSkip))
def m__law_near_row:SM:=sSeq (sSet 3 (mCallB fList (mCons (mVar 2) (mNil)))) (sSeq (sFor (mRange1 (mBin fAdd (mC (.int 1)) (mCall 2 f__law_draw [] (mCons (mVar 0) (mCons (mC (.int 4)) (mNil)))))) (.nm 4) (L__law_near_row_0)) (sSeq (sIf (mAndB (mCmpB fEq (mCall 2 f__law_draw [] (mCons (mVar 0) (mCons (mC (.int 8)) (mNil)))) (mC (.int 0))) (mCmpB (fCm iLt) (mBin fIx (mVar 3) (mC (.int 0))) (mC (.int 24)))) (sSeq (sPut 3 (mC (.int 0)) (mBin fAdd (mBin fIx (mVar 3) (mC (.int 0))) (mC (.int 1)))) (sSkip)) (sSkip)) (sSeq (sRet (mCallB fTuple (mCons (mVar 3) (mNil)))) (sSkip))))
def f__law_near_row:FM:=runM m__law_near_row 7
omit [Tbs] in theorem u__law_near_row (rs:List Rv) (t:Option DS):f__law_near_row rs t = runM m__law_near_row 7 rs t:=rfl
theorem c__law_near_row {P:Program} {w:World} {K:PySem.W.Frag} {mg:Str → Option Value} {base:Heap} (T:Tx K mg base):CalM P w K mg base 4 3 "_law_near_row" f__law_near_row []:=
  calM (N:=["_law_state", "_law_n", "_law_row_here", "_law_found", "_law_turn", "_law_one", "_law_other"]) (ps:=["_law_state", "_law_n", "_law_row_here"]) (m:=m__law_near_row) (T.c.def_ 28 rfl) (T.glo 42) ⟨rfl,rfl,rfl,by decide +kernel,rfl,by decide +kernel,by decide +kernel⟩ (by decide) (fun _ _ _ _ _ _ us hl=>match us,hl with | [_,_,_],_=>rfl) (fun c ca=>ss_cons (s_set c 3 (.inl rfl) (x_list c (T.free 4) (a_cons c (x_v c 2 (.inl rfl)) (sa_nil)))) (ss_cons (s_for c (i_r1 c (T.free 12) (x_add c (se_int) (x_call c (c__law_draw T) (by decide) (a_cons c (x_v c 0 (.inl rfl)) (a_cons c (se_int) (sa_nil)))))) (g_nm c 4 (.inl rfl) (.inl rfl)) (ss_cons (s_tgt c (g_tup c (.cons rfl (.inl rfl) (.inl rfl) (.cons rfl (.inl rfl) (.inl rfl) .nil))) (x_call c (c__law_two T) (by decide) (a_cons c (x_v c 0 (.inl rfl)) (a_cons c (x_v c 1 (.inl rfl)) (sa_nil))))) (ss_cons (ss_if (b_eq c (x_call c (c__law_draw T) (by decide) (a_cons c (x_v c 0 (.inl rfl)) (a_cons c (se_int) (sa_nil)))) (se_int)) (ss_cons (s_swp c 3 (.inl rfl) (se_tup (a_cons c (x_ix c (x_v c 3 (.inl rfl)) (x_v c 6 (.inl rfl))) (a_cons c (x_ix c (x_v c 3 (.inl rfl)) (x_v c 5 (.inl rfl))) (sa_nil)))) (x_v c 5 (.inl rfl)) (x_v c 6 (.inl rfl))) (ss_nil)) (ss_cons (ss_if (SW.sb (sw_and (b_gt c (x_ix c (x_v c 3 (.inl rfl)) (x_v c 5 (.inl rfl))) (se_int)) (sw_and1 (b_lt c (x_ix c (x_v c 3 (.inl rfl)) (x_v c 6 (.inl rfl))) (se_int))))) (ss_cons (s_put c 3 (.inl rfl) (x_v c 5 (.inl rfl)) (x_sub c (x_ix c (x_v c 3 (.inl rfl)) (x_v c 5 (.inl rfl))) (se_int))) (ss_cons (s_put c 3 (.inl rfl) (x_v c 6 (.inl rfl)) (x_add c (x_ix c (x_v c 3 (.inl rfl)) (x_v c 6 (.inl rfl))) (se_int))) (ss_nil))) (ss_nil)) (ss_nil))) (ss_nil)))) (ss_cons (ss_if (SW.sb (sw_and (b_eq c (x_call c (c__law_draw T) (by decide) (a_cons c (x_v c 0 (.inl rfl)) (a_cons c (se_int) (sa_nil)))) (se_int)) (sw_and1 (b_lt c (x_ix c (x_v c 3 (.inl rfl)) (se_int)) (se_int))))) (ss_cons (s_put c 3 (.inl rfl) (se_int) (x_add c (x_ix c (x_v c 3 (.inl rfl)) (se_int)) (se_int))) (ss_nil)) (ss_nil)) (ss_cons (ss_ret (x_tuple c (T.free 8) (a_cons c (x_v c 3 (.inl rfl)) (sa_nil)))) (ss_nil)))))
def m__law_bent_way:SM:=sSeq (sIf (mCmpB fEq (mVar 2) (mTup (mNil))) (sSeq (sRet (mIf (mCmpB fEq (mCall 2 f__law_draw [] (mCons (mVar 0) (mCons (mC (.int 2)) (mNil)))) (mC (.int 0))) (mTup (mCons (mTup (mCons (mC (.str "transfer")) (mCons (mC (.int 0)) (mCons (mC (.int 1)) (mNil))))) (mNil))) (mCallB fList (mCons (mVar 2) (mNil))))) (sSkip)) (sSkip)) (sSeq (sPar 3 4 (mCall 2 f__law_draw [] (mCons (mVar 0) (mCons (mCallB (f1 gLen) (mCons (mVar 2) (mNil))) (mNil)))) (mCall 2 f__law_draw [] (mCons (mVar 0) (mCons (mC (.int 6)) (mNil))))) (sSeq (sSet 5 (mBin fIx (mVar 2) (mVar 3))) (sSeq (sIf (mCmpB fEq (mVar 4) (mC (.int 0))) (sSeq (sRet (mBin fAdd (mSl (mVar 2) none (some (mVar 3))) (mSl (mVar 2) (some (mBin fAdd (mVar 3) (mC (.int 1)))) none))) (sSkip)) (sSkip)) (sSeq (sIf (mCmpB fEq (mVar 4) (mC (.int 1))) (sSeq (sRet (mBin fAdd (mBin fAdd (mSl (mVar 2) none (some (mVar 3))) (mTup (mCons (mVar 5) (mCons (mVar 5) (mNil))))) (mSl (mVar 2) (some (mBin fAdd (mVar 3) (mC (.int 1)))) none))) (sSkip)) (sSkip)) (sSeq (sIf (mCmpB fEq (mVar 4) (mC (.int 2))) (sSeq (sSet 5 (mTup (mCons (mBin fIx (mVar 5) (mC (.int 0))) (mCons (mBin fIx (mVar 5) (mC (.int 2))) (mCons (mBin fIx (mVar 5) (mC (.int 1))) (mNil)))))) (sSkip)) (sSkip)) (sSeq (sIf (mCmpB fEq (mVar 4) (mC (.int 3))) (sSeq (sSet 5 (mTup (mCons (mIf (mCmpB fEq (mBin fIx (mVar 5) (mC (.int 0))) (mC (.str "transfer"))) (mC (.str "exchange")) (mC (.str "transfer"))) (mCons (mBin fIx (mVar 5) (mC (.int 1))) (mCons (mBin fIx (mVar 5) (mC (.int 2))) (mNil)))))) (sSkip)) (sSkip)) (sSeq (sIf (mCmpB fEq (mVar 4) (mC (.int 4))) (sSeq (sSet 5 (mCall 2 f__law_of [] (mCons (mVar 0) (mCons (mLst (mCons (mC .none) (mCons (mTup (mCons (mC (.str "transfer")) (mCons (mC (.int 0)) (mNil)))) (mCons (mLst (mCons (mC (.str "transfer")) (mCons (mC (.int 0)) (mCons (mC (.int 1)) (mNil))))) (mCons (mTup (mCons (mC (.str "exchange")) (mCons (mVar 1) (mCons (mC (.int 0)) (mNil))))) (mCons (mTup (mCons (mC (.str "swap")) (mCons (mC (.int 0)) (mCons (mC (.int 1)) (mNil))))) (mNil))))))) (mNil))))) (sSkip)) (sSkip)) (sSeq (sIf (mCmpB fEq (mVar 4) (mC (.int 5))) (sSeq (sSet 5 (mBin fAdd (mTup (mCons (mBin fIx (mVar 5) (mC (.int 0))) (mNil))) (mCall 2 f__law_two [] (mCons (mVar 0) (mCons (mVar 1) (mNil)))))) (sSkip)) (sSkip)) (sSeq (sRet (mBin fAdd (mBin fAdd (mSl (mVar 2) none (some (mVar 3))) (mTup (mCons (mVar 5) (mNil)))) (mSl (mVar 2) (some (mBin fAdd (mVar 3) (mC (.int 1)))) none))) (sSkip))))))))))
def f__law_bent_way:FM:=runM m__law_bent_way 6
omit [Tbs] in theorem u__law_bent_way (rs:List Rv) (t:Option DS):f__law_bent_way rs t = runM m__law_bent_way 6 rs t:=rfl
theorem c__law_bent_way {P:Program} {w:World} {K:PySem.W.Frag} {mg:Str → Option Value} {base:Heap} (T:Tx K mg base):CalM P w K mg base 4 3 "_law_bent_way" f__law_bent_way []:=
  calM (N:=["_law_state", "_law_n", "_law_way_here", "_law_at", "_law_pick", "_law_deed"]) (ps:=["_law_state", "_law_n", "_law_way_here"]) (m:=m__law_bent_way) (T.c.def_ 34 rfl) (T.glo 43) ⟨rfl,rfl,rfl,by decide +kernel,rfl,by decide +kernel,by decide +kernel⟩ (by decide) (fun _ _ _ _ _ _ us hl=>match us,hl with | [_,_,_],_=>rfl) (fun c ca=>ss_cons (ss_if (b_eq c (x_v c 2 (.inl rfl)) (se_tup (sa_nil))) (ss_cons (ss_ret (se_if (b_eq c (x_call c (c__law_draw T) (by decide) (a_cons c (x_v c 0 (.inl rfl)) (a_cons c (se_int) (sa_nil)))) (se_int)) (se_tup (a_cons c (se_tup (a_cons c (se_str) (a_cons c (se_int) (a_cons c (se_int) (sa_nil))))) (sa_nil))) (x_list c (T.free 4) (a_cons c (x_v c 2 (.inl rfl)) (sa_nil))))) (ss_nil)) (ss_nil)) (ss_cons (s_par c 3 4 rfl rfl (x_call c (c__law_draw T) (by decide) (a_cons c (x_v c 0 (.inl rfl)) (a_cons c (x_len c (T.free 11) (a_cons c (x_v c 2 (.inl rfl)) (sa_nil))) (sa_nil)))) (x_call c (c__law_draw T) (by decide) (a_cons c (x_v c 0 (.inl rfl)) (a_cons c (se_int) (sa_nil))))) (ss_cons (s_set c 5 (.inl rfl) (x_ix c (x_v c 2 (.inl rfl)) (x_v c 3 (.inl rfl)))) (ss_cons (ss_if (b_eq c (x_v c 4 (.inl rfl)) (se_int)) (ss_cons (ss_ret (x_add c (x_sl c (x_v c 2 (.inl rfl)) (show SO _ _ none none from trivial) (show SO _ _ (some _) (some (mVar 3)) from x_v c 3 (.inl rfl))) (x_sl c (x_v c 2 (.inl rfl)) (show SO _ _ (some _) (some (mBin fAdd (mVar 3) (mC (.int 1)))) from x_add c (x_v c 3 (.inl rfl)) (se_int)) (show SO _ _ none none from trivial)))) (ss_nil)) (ss_nil)) (ss_cons (ss_if (b_eq c (x_v c 4 (.inl rfl)) (se_int)) (ss_cons (ss_ret (x_add c (x_add c (x_sl c (x_v c 2 (.inl rfl)) (show SO _ _ none none from trivial) (show SO _ _ (some _) (some (mVar 3)) from x_v c 3 (.inl rfl))) (se_tup (a_cons c (x_v c 5 (.inl rfl)) (a_cons c (x_v c 5 (.inl rfl)) (sa_nil))))) (x_sl c (x_v c 2 (.inl rfl)) (show SO _ _ (some _) (some (mBin fAdd (mVar 3) (mC (.int 1)))) from x_add c (x_v c 3 (.inl rfl)) (se_int)) (show SO _ _ none none from trivial)))) (ss_nil)) (ss_nil)) (ss_cons (ss_if (b_eq c (x_v c 4 (.inl rfl)) (se_int)) (ss_cons (s_set c 5 (.inl rfl) (se_tup (a_cons c (x_ix c (x_v c 5 (.inl rfl)) (se_int)) (a_cons c (x_ix c (x_v c 5 (.inl rfl)) (se_int)) (a_cons c (x_ix c (x_v c 5 (.inl rfl)) (se_int)) (sa_nil)))))) (ss_nil)) (ss_nil)) (ss_cons (ss_if (b_eq c (x_v c 4 (.inl rfl)) (se_int)) (ss_cons (s_set c 5 (.inl rfl) (se_tup (a_cons c (se_if (b_eq c (x_ix c (x_v c 5 (.inl rfl)) (se_int)) (se_str)) (se_str) (se_str)) (a_cons c (x_ix c (x_v c 5 (.inl rfl)) (se_int)) (a_cons c (x_ix c (x_v c 5 (.inl rfl)) (se_int)) (sa_nil)))))) (ss_nil)) (ss_nil)) (ss_cons (ss_if (b_eq c (x_v c 4 (.inl rfl)) (se_int)) (ss_cons (s_set c 5 (.inl rfl) (x_call c (c__law_of T) (by decide) (a_cons c (x_v c 0 (.inl rfl)) (a_cons c (se_lst (a_cons c (se_none) (a_cons c (se_tup (a_cons c (se_str) (a_cons c (se_int) (sa_nil)))) (a_cons c (se_lst (a_cons c (se_str) (a_cons c (se_int) (a_cons c (se_int) (sa_nil))))) (a_cons c (se_tup (a_cons c (se_str) (a_cons c (x_v c 1 (.inl rfl)) (a_cons c (se_int) (sa_nil))))) (a_cons c (se_tup (a_cons c (se_str) (a_cons c (se_int) (a_cons c (se_int) (sa_nil))))) (sa_nil))))))) (sa_nil))))) (ss_nil)) (ss_nil)) (ss_cons (ss_if (b_eq c (x_v c 4 (.inl rfl)) (se_int)) (ss_cons (s_set c 5 (.inl rfl) (x_add c (se_tup (a_cons c (x_ix c (x_v c 5 (.inl rfl)) (se_int)) (sa_nil))) (x_call c (c__law_two T) (by decide) (a_cons c (x_v c 0 (.inl rfl)) (a_cons c (x_v c 1 (.inl rfl)) (sa_nil)))))) (ss_nil)) (ss_nil)) (ss_cons (ss_ret (x_add c (x_add c (x_sl c (x_v c 2 (.inl rfl)) (show SO _ _ none none from trivial) (show SO _ _ (some _) (some (mVar 3)) from x_v c 3 (.inl rfl))) (se_tup (a_cons c (x_v c 5 (.inl rfl)) (sa_nil)))) (x_sl c (x_v c 2 (.inl rfl)) (show SO _ _ (some _) (some (mBin fAdd (mVar 3) (mC (.int 1)))) from x_add c (x_v c 3 (.inl rfl)) (se_int)) (show SO _ _ none none from trivial)))) (ss_nil)))))))))))
def m_need_content:SM:=sSeq (sIf (mNotB (mTru (mCall 2 f_is_content [] (mCons (mVar 0) (mCons (mVar 1) (mNil)))))) (sSeq (sRaise "BadContent" ["value"] (mCons (mVar 1) (mNil))) (sSkip)) (sSkip)) (sSeq (sRet (mVar 1)) (sSkip))
def f_need_content:FM:=runM m_need_content 2
omit [Tbs] in theorem u_need_content (rs:List Rv) (t:Option DS):f_need_content rs t = runM m_need_content 2 rs t:=rfl
theorem c_need_content {P:Program} {w:World} {K:PySem.W.Frag} {mg:Str → Option Value} {base:Heap} (T:Tx K mg base):CalM P w K mg base 5 2 "need_content" f_need_content []:=
  calM (N:=["many", "value"]) (ps:=["many", "value"]) (m:=m_need_content) (T.c.def_ 3 rfl) (T.glo 44) ⟨rfl,rfl,rfl,by decide +kernel,rfl,by decide +kernel,by decide +kernel⟩ (by decide) (fun _ _ _ _ _ _ us hl=>match us,hl with | [_,_],_=>rfl) (fun c ca=>ss_cons (ss_if (sb_not (b_tr c (x_call c (c_is_content T) (by decide) (a_cons c (x_v c 0 (.inl rfl)) (a_cons c (x_v c 1 (.inl rfl)) (sa_nil)))))) (ss_cons (s_raise c (x_BadContent T) (by decide) (a_cons c (x_v c 1 (.inl rfl)) (sa_nil))) (ss_nil)) (ss_nil)) (ss_cons (ss_ret (x_v c 1 (.inl rfl))) (ss_nil)))
def m_rows_on:SM:=sSeq (sExpr (mCall 1 f_need_many [] (mCons (mVar 0) (mNil)))) (sSeq (sExpr (mCall 2 f_need_content [] (mCons (mVar 0) (mCons (mVar 1) (mNil))))) (sSeq (sRet (mCallB fTuple (mCons (mCall 3 f_need_way [] (mCons (mVar 0) (mCons (mVar 1) (mCons (mVar 2) (mNil))))) (mNil)))) (sSkip)))
def f_rows_on:FM:=runM m_rows_on 3
omit [Tbs] in theorem u_rows_on (rs:List Rv) (t:Option DS):f_rows_on rs t = runM m_rows_on 3 rs t:=rfl
theorem c_rows_on {P:Program} {w:World} {K:PySem.W.Frag} {mg:Str → Option Value} {base:Heap} (T:Tx K mg base):CalM P w K mg base 6 3 "rows_on" f_rows_on []:=
  calM (N:=["many", "start", "way"]) (ps:=["many", "start", "way"]) (m:=m_rows_on) (T.c.def_ 11 rfl) (T.glo 45) ⟨rfl,rfl,rfl,by decide +kernel,rfl,by decide +kernel,by decide +kernel⟩ (by decide) (fun _ _ _ _ _ _ us hl=>match us,hl with | [_,_,_],_=>rfl) (fun c ca=>ss_cons (s_expr c (x_call c (c_need_many T) (by decide) (a_cons c (x_v c 0 (.inl rfl)) (sa_nil)))) (ss_cons (s_expr c (x_call c (c_need_content T) (by decide) (a_cons c (x_v c 0 (.inl rfl)) (a_cons c (x_v c 1 (.inl rfl)) (sa_nil))))) (ss_cons (ss_ret (x_tuple c (T.free 8) (a_cons c (x_call c (c_need_way T) (by decide) (a_cons c (x_v c 0 (.inl rfl)) (a_cons c (x_v c 1 (.inl rfl)) (a_cons c (x_v c 2 (.inl rfl)) (sa_nil))))) (sa_nil)))) (ss_nil))))
abbrev M_units_0:EM:=mLc (mRange1 (mVar 0)) (.nm 5) none (mCallB (f1 gAbs) (mCons (mBin fSub (mBin fIx (mVar 3) (mVar 5)) (mBin fIx (mVar 4) (mVar 5))) (mNil))) [5]
def m_units:SM:=sSeq (sExpr (mCall 1 f_need_many [] (mCons (mVar 0) (mNil)))) (sSeq (sExpr (mCall 2 f_need_content [] (mCons (mVar 0) (mCons (mVar 1) (mNil))))) (sSeq (sExpr (mCall 2 f_need_content [] (mCons (mVar 0) (mCons (mVar 2) (mNil))))) (sSeq (sIf (mCmpB fNe (mCallB (f1 gSum) (mCons (mVar 1) (mNil))) (mCallB (f1 gSum) (mCons (mVar 2) (mNil)))) (sSeq (sRaise "BadTotal" ["value"] (mCons (mCallB (f1 gSum) (mCons (mVar 2) (mNil))) (mNil))) (sSkip)) (sSkip)) (sSeq (sSet 3 (mCall 1 f_falling [] (mCons (mVar 1) (mNil)))) (sSeq (sSet 4 (mCall 1 f_falling [] (mCons (mVar 2) (mNil)))) (sSeq (sRet (mBin fDiv (mCallB (f1 gSum) (mCons (M_units_0) (mNil))) (mC (.int 2)))) (sSkip)))))))
def f_units:FM:=runM m_units 6
omit [Tbs] in theorem u_units (rs:List Rv) (t:Option DS):f_units rs t = runM m_units 6 rs t:=rfl
theorem c_units {P:Program} {w:World} {K:PySem.W.Frag} {mg:Str → Option Value} {base:Heap} (T:Tx K mg base):CalM P w K mg base 6 3 "units" f_units []:=
  calM (N:=["many", "start", "goal", "near", "far", "place"]) (ps:=["many", "start", "goal"]) (m:=m_units) (T.c.def_ 12 rfl) (T.glo 47) ⟨rfl,rfl,rfl,by decide +kernel,rfl,by decide +kernel,by decide +kernel⟩ (by decide) (fun _ _ _ _ _ _ us hl=>match us,hl with | [_,_,_],_=>rfl) (fun c ca=>ss_cons (s_expr c (x_call c (c_need_many T) (by decide) (a_cons c (x_v c 0 (.inl rfl)) (sa_nil)))) (ss_cons (s_expr c (x_call c (c_need_content T) (by decide) (a_cons c (x_v c 0 (.inl rfl)) (a_cons c (x_v c 1 (.inl rfl)) (sa_nil))))) (ss_cons (s_expr c (x_call c (c_need_content T) (by decide) (a_cons c (x_v c 0 (.inl rfl)) (a_cons c (x_v c 2 (.inl rfl)) (sa_nil))))) (ss_cons (ss_if (b_ne c (x_sum c (T.free 24) (a_cons c (x_v c 1 (.inl rfl)) (sa_nil))) (x_sum c (T.free 24) (a_cons c (x_v c 2 (.inl rfl)) (sa_nil)))) (ss_cons (s_raise c (x_BadTotal T) (by decide) (a_cons c (x_sum c (T.free 24) (a_cons c (x_v c 2 (.inl rfl)) (sa_nil))) (sa_nil))) (ss_nil)) (ss_nil)) (ss_cons (s_set c 3 (.inr rfl) (x_call c (c_falling T) (by decide) (a_cons c (x_v c 1 (.inl rfl)) (sa_nil)))) (ss_cons (s_set c 4 (.inr rfl) (x_call c (c_falling T) (by decide) (a_cons c (x_v c 2 (.inl rfl)) (sa_nil)))) (ss_cons (ss_ret (x_div c (x_sum c (T.free 24) (a_cons c (x_lc c [("place",5)] (i_r1 c (T.free 12) (x_v c 0 (.inl rfl))) (blk_of (by rfl)) (fun s H C cl fp c=>⟨g_nm c 5 (.inl rfl) (.inr rfl),pts_nil,x_abs c (T.free 46) (a_cons c (x_sub c (x_ix c (x_v c 3 (.inr (.inl rfl))) (x_v c 5 (.inl rfl))) (x_ix c (x_v c 4 (.inr (.inl rfl))) (x_v c 5 (.inl rfl)))) (sa_nil))⟩)) (sa_nil))) (se_int))) (ss_nil))))))))
abbrev L_way_to_0:SM:=sSeq (sPut 5 (mBin fIx (mVar 3) (mVar 6)) (mBin fIx (mVar 4) (mVar 6))) (sSkip)
def m_way_to:SM:=sSeq (sExpr (mCall 1 f_need_many [] (mCons (mVar 0) (mNil)))) (sSeq (sExpr (mCall 2 f_need_content [] (mCons (mVar 0) (mCons (mVar 1) (mNil))))) (sSeq (sExpr (mCall 2 f_need_content [] (mCons (mVar 0) (mCons (mVar 2) (mNil))))) (sSeq (sIf (mNotB (mTru (mCall 2 f_goes_under [] (mCons (mVar 2) (mCons (mVar 1) (mNil)))))) (sSeq (sRet (mC .none)) (sSkip)) (sSkip)) (sSeq (sSet 3 (mSortKN 1 (mListR1 (mVar 0)))) (sSeq (sSet 4 (mCall 1 f_falling [] (mCons (mVar 2) (mNil)))) (sSeq (sSet 5 (mRep (mLst (mCons (mC (.int 0)) (mNil))) (mVar 0))) (sSeq (sFor (mRange1 (mVar 0)) (.nm 6) (L_way_to_0)) (sSeq (sFrz 5 (sFrz 3 (sRet (mCallB fTuple (mCons (mBin fAdd (mCall 3 f_evening_deeds [] (mCons (mVar 3) (mCons (mCall 1 f_falling [] (mCons (mVar 1) (mNil))) (mCons (mVar 4) (mNil))))) (mCall 2 f_sorting_deeds [] (mCons (mVar 5) (mCons (mVar 2) (mNil))))) (mNil)))))) (sSkip)))))))))
def f_way_to:FM:=runM m_way_to 7
omit [Tbs] in theorem u_way_to (rs:List Rv) (t:Option DS):f_way_to rs t = runM m_way_to 7 rs t:=rfl
theorem c_way_to {P:Program} {w:World} {K:PySem.W.Frag} {mg:Str → Option Value} {base:Heap} (T:Tx K mg base):CalM P w K mg base 6 3 "way_to" f_way_to []:=
  calM (N:=["many", "start", "goal", "names", "aim", "row", "place"]) (ps:=["many", "start", "goal"]) (m:=m_way_to) (T.c.def_ 16 rfl) (T.glo 48) ⟨rfl,rfl,rfl,by decide +kernel,rfl,by decide +kernel,by decide +kernel⟩ (by decide) (fun _ _ _ _ _ _ us hl=>match us,hl with | [_,_,_],_=>rfl) (fun c ca=>by
    obtain ⟨lc,lP,ec,TB,hlm,hlu⟩:=T.lam (p:=("way_to",none)) 0 ca
    exact (ss_cons (s_expr c (x_call c (c_need_many T) (by decide) (a_cons c (x_v c 0 (.inl rfl)) (sa_nil)))) (ss_cons (s_expr c (x_call c (c_need_content T) (by decide) (a_cons c (x_v c 0 (.inl rfl)) (a_cons c (x_v c 1 (.inr (.inl rfl))) (sa_nil))))) (ss_cons (s_expr c (x_call c (c_need_content T) (by decide) (a_cons c (x_v c 0 (.inl rfl)) (a_cons c (x_v c 2 (.inl rfl)) (sa_nil))))) (ss_cons (ss_if (sb_not (b_tr c (x_call c (c_goes_under T) (by decide) (a_cons c (x_v c 2 (.inl rfl)) (a_cons c (x_v c 1 (.inr (.inl rfl))) (sa_nil)))))) (ss_cons (ss_ret (se_none)) (ss_nil)) (ss_nil)) (ss_cons (s_set c 3 (.inl rfl) (x_sortKN c 1 (T.free 5) TB ec hlm hlu rfl rfl (x_listR1 c (T.free 4) (T.free 12) (x_v c 0 (.inl rfl))))) (ss_cons (s_set c 4 (.inl rfl) (x_call c (c_falling T) (by decide) (a_cons c (x_v c 2 (.inl rfl)) (sa_nil)))) (ss_cons (s_set c 5 (.inl rfl) (x_rep (se_lst (a_cons c (se_int) (sa_nil))) (x_v c 0 (.inl rfl)))) (ss_cons (s_for c (i_r1 c (T.free 12) (x_v c 0 (.inl rfl))) (g_nm c 6 (.inl rfl) (.inl rfl)) (ss_cons (s_put c 5 (.inl rfl) (x_ix c (x_v c 3 (.inl rfl)) (x_v c 6 (.inl rfl))) (x_ix c (x_v c 4 (.inl rfl)) (x_v c 6 (.inl rfl)))) (ss_nil))) (ss_cons (ss_frz (i:=5) (ss_frz (i:=3) (ss_ret (x_tuple c (T.free 8) (a_cons c (x_add c (x_call c (c_evening_deeds T) (by decide) (a_cons c (x_v c 3 (.inl rfl)) (a_cons c (x_call c (c_falling T) (by decide) (a_cons c (x_v c 1 (.inr (.inl rfl))) (sa_nil))) (a_cons c (x_v c 4 (.inl rfl)) (sa_nil))))) (x_call c (c_sorting_deeds T) (by decide) (a_cons c (x_v c 5 (.inl rfl)) (a_cons c (x_v c 2 (.inl rfl)) (sa_nil))))) (sa_nil)))))) (ss_nil)))))))))))
def m_is_way:SM:=sSeq (sExpr (mCall 1 f_need_many [] (mCons (mVar 0) (mNil)))) (sSeq (sExpr (mCall 2 f_need_content [] (mCons (mVar 0) (mCons (mVar 1) (mNil))))) (sSeq (sExpr (mCall 2 f_need_content [] (mCons (mVar 0) (mCons (mVar 2) (mNil))))) (sSeq (sTry tab (sSeq (sSet 4 (mCall 3 f_need_way [] (mCons (mVar 0) (mCons (mVar 1) (mCons (mVar 3) (mNil)))))) (sSkip)) [⟨"BadWay",none,sSeq (sRet (mC (.bool false))) (sSkip),some "BadStep"⟩]) (sSeq (sRet (mBin fEq (mBin fIx (mVar 4) (mNeg (mC (.int 1)))) (mVar 2))) (sSkip)))))
def f_is_way:FM:=runM m_is_way 5
omit [Tbs] in theorem u_is_way (rs:List Rv) (t:Option DS):f_is_way rs t = runM m_is_way 5 rs t:=rfl
theorem c_is_way {P:Program} {w:World} {K:PySem.W.Frag} {mg:Str → Option Value} {base:Heap} (T:Tx K mg base):CalM P w K mg base 6 4 "is_way" f_is_way []:=
  calM (N:=["many", "start", "goal", "way", "rows"]) (ps:=["many", "start", "goal", "way"]) (m:=m_is_way) (T.c.def_ 17 rfl) (T.glo 51) ⟨rfl,rfl,rfl,by decide +kernel,rfl,by decide +kernel,by decide +kernel⟩ (by decide) (fun _ _ _ _ _ _ us hl=>match us,hl with | [_,_,_,_],_=>rfl) (fun c ca=>ss_cons (s_expr c (x_call c (c_need_many T) (by decide) (a_cons c (x_v c 0 (.inl rfl)) (sa_nil)))) (ss_cons (s_expr c (x_call c (c_need_content T) (by decide) (a_cons c (x_v c 0 (.inl rfl)) (a_cons c (x_v c 1 (.inl rfl)) (sa_nil))))) (ss_cons (s_expr c (x_call c (c_need_content T) (by decide) (a_cons c (x_v c 0 (.inl rfl)) (a_cons c (x_v c 2 (.inl rfl)) (sa_nil))))) (ss_cons (s_try c (tab_ok T) (fun W pn xe c=>ss_cons (s_set c 4 (.inl rfl) (x_call c (c_need_way T) (by decide) (a_cons c (x_v c 0 (.inl rfl)) (a_cons c (x_v c 1 (.inl rfl)) (a_cons c (x_v c 3 (.inl rfl)) (sa_nil)))))) (ss_nil)) (.two rfl (by decide) (T.glo 49) rfl (by decide) (T.glo 50) (fun a oe d pn cn C' hmc hz hv=>ss_cons (ss_ret (se_bool)) (ss_nil)) .nil)) (ss_cons (ss_ret (x_eq c (x_ix c (x_v c 4 (.inl rfl)) (se_neg (se_int))) (x_v c 2 (.inl rfl)))) (ss_nil))))))
def m__law_heard:SM:=sSeq (sTry tab (sSeq (sRet (mLst (mCons (mAct 0) (mNil)))) (sSkip)) [⟨"BadMany",some 1,sSeq (sRet (mTup (mCons (mC (.str "many")) (mCons (mXf ft 1 "value") (mNil))))) (sSkip),none⟩,⟨"BadContent",some 1,sSeq (sRet (mTup (mCons (mC (.str "content")) (mCons (mXf ft 1 "value") (mNil))))) (sSkip),none⟩,⟨"BadTotal",some 1,sSeq (sRet (mTup (mCons (mC (.str "total")) (mCons (mXf ft 1 "value") (mNil))))) (sSkip),none⟩,⟨"BadWay",some 1,sSeq (sRet (mTup (mCons (mC (.str "way")) (mCons (mXf ft 1 "place") (mNil))))) (sSkip),none⟩,⟨"BadStep",some 1,sSeq (sRet (mTup (mCons (mC (.str "step")) (mCons (mXf ft 1 "place") (mNil))))) (sSkip),none⟩]) (sSkip)
def h__law_heard:Th → Option DS → Rs Rv:=heardF m__law_heard 2
theorem c__law_heard {P:Program} {w:World} {K:PySem.W.Frag} {mg:Str → Option Value} {base:Heap} (T:Tx K mg base):HeardM P w K mg base 7 "_law_heard" "_law_call" m__law_heard 2:=by
  obtain ⟨fd,F⟩:=T.c.def_ 35 rfl
  exact ⟨_,_,_,_,["_law_call", "e"],F,(T.glo 55),⟨rfl,rfl,rfl,by decide +kernel,rfl,by decide +kernel,by decide +kernel⟩,rfl,rfl,.inl rfl,(fun _ _ _ _ _ _ us hl=>match us,hl with | [_],_=>rfl),fun hx c ca hact=>ss_cons (s_try c (tab_ok T) (fun W pn xe c=>ss_cons (ss_ret (se_lst (a_cons c (hact _ _ _ _ _ c.tk) (sa_nil)))) (ss_nil)) (.named rfl (by decide) (T.glo 54) rfl rfl (fun a oe d pn cn C' hmc hz hv=>ss_cons (ss_ret (se_tup (z_cons (se_str) (z_cons (se_xf rfl (ft_ok T) hmc hz hv (i:=1) rfl (.inl rfl) (by decide) (by decide) rfl) (sa_nil))))) (ss_nil)) (.named rfl (by decide) (T.glo 53) rfl rfl (fun a oe d pn cn C' hmc hz hv=>ss_cons (ss_ret (se_tup (z_cons (se_str) (z_cons (se_xf rfl (ft_ok T) hmc hz hv (i:=1) rfl (.inl rfl) (by decide) (by decide) rfl) (sa_nil))))) (ss_nil)) (.named rfl (by decide) (T.glo 52) rfl rfl (fun a oe d pn cn C' hmc hz hv=>ss_cons (ss_ret (se_tup (z_cons (se_str) (z_cons (se_xf rfl (ft_ok T) hmc hz hv (i:=1) rfl (.inl rfl) (by decide) (by decide) rfl) (sa_nil))))) (ss_nil)) (.named rfl (by decide) (T.glo 49) rfl rfl (fun a oe d pn cn C' hmc hz hv=>ss_cons (ss_ret (se_tup (z_cons (se_str) (z_cons (se_xf rfl (ft_ok T) hmc hz hv (i:=1) rfl (.inl rfl) (by decide) (by decide) rfl) (sa_nil))))) (ss_nil)) (.named rfl (by decide) (T.glo 50) rfl rfl (fun a oe d pn cn C' hmc hz hv=>ss_cons (ss_ret (se_tup (z_cons (se_str) (z_cons (se_xf rfl (ft_ok T) hmc hz hv (i:=1) rfl (.inl rfl) (by decide) (by decide) rfl) (sa_nil))))) (ss_nil)) .nil)))))) (ss_nil)⟩
abbrev M__law_goal_right_0:EM:=mLc (mSeq (mVar 5)) (.nm 7) (some (mCmpB fEq (mBin fIx (mVar 7) (mC (.int 0))) (mC (.str "transfer")))) (mC (.int 1)) [7]
abbrev M__law_goal_right_1:EM:=mLc (mZip (mCallB fSortW (mCons (mVar 1) (mNil))) (mCallB fSortW (mCons (mVar 2) (mNil)))) (.tup [8,9]) none (mCallB (f1 gAbs) (mCons (mBin fSub (mVar 8) (mVar 9)) (mNil))) [8,9]
def m__law_goal_right:SM:=sSeq (sSet 3 (mBin fDiv (mCallB (f1 gSum) (mCons (M__law_goal_right_1) (mNil))) (mC (.int 2)))) (sSeq (sSet 4 (mHeard h__law_heard (mCall 3 f_units [] (mCons (mVar 0) (mCons (mVar 1) (mCons (mVar 2) (mNil))))))) (sSeq (sFrz 4 (sIf (mNotB (mTru (mCall 2 f__law_like [] (mCons (mVar 4) (mCons (mIf (mCmpB fEq (mCallB (f1 gSum) (mCons (mVar 1) (mNil))) (mCallB (f1 gSum) (mCons (mVar 2) (mNil)))) (mLst (mCons (mVar 3) (mNil))) (mTup (mCons (mC (.str "total")) (mCons (mCallB (f1 gSum) (mCons (mVar 2) (mNil))) (mNil))))) (mNil)))))) (sSeq (sRet (mC (.bool false))) (sSkip)) (sSkip))) (sSeq (sSet 5 (mCall 3 f_way_to [] (mCons (mVar 0) (mCons (mVar 1) (mCons (mVar 2) (mNil)))))) (sSeq (sIf (mNotB (mTru (mCall 2 f__law_evener [] (mCons (mVar 2) (mCons (mVar 1) (mNil)))))) (sSeq (sRet (mBin fIs (mVar 5) (mC .none))) (sSkip)) (sSkip)) (sSeq (sIf (mNotB (mTru (mCall 4 f__law_leads [] (mCons (mVar 0) (mCons (mVar 1) (mCons (mVar 2) (mCons (mVar 5) (mNil)))))))) (sSeq (sRet (mC (.bool false))) (sSkip)) (sSkip)) (sSeq (sSet 6 (mCallB (f1 gLen) (mCons (M__law_goal_right_0) (mNil)))) (sSeq (sIf (mOrB (mCmpB fNe (mVar 6) (mVar 3)) (mCmpB (fCm iGt) (mBin fSub (mCallB (f1 gLen) (mCons (mVar 5) (mNil))) (mVar 6)) (mBin fSub (mVar 0) (mC (.int 1))))) (sSeq (sRet (mC (.bool false))) (sSkip)) (sSkip)) (sSeq (sSet 4 (mLst (mCons (mCall 4 f_is_way [] (mCons (mVar 0) (mCons (mVar 1) (mCons (mVar 2) (mCons (mVar 5) (mNil)))))) (mCons (mCall 3 f_rows_on [] (mCons (mVar 0) (mCons (mVar 1) (mCons (mVar 5) (mNil))))) (mNil))))) (sSeq (sFrz 4 (sRet (mCall 2 f__law_like [] (mCons (mVar 4) (mCons (mLst (mCons (mC (.bool true)) (mCons (mCallB fTuple (mCons (mCall 2 f__law_rows_on [] (mCons (mVar 1) (mCons (mVar 5) (mNil)))) (mNil))) (mNil)))) (mNil)))))) (sSkip))))))))))
def f__law_goal_right:FM:=runM m__law_goal_right 10
omit [Tbs] in theorem u__law_goal_right (rs:List Rv) (t:Option DS):f__law_goal_right rs t = runM m__law_goal_right 10 rs t:=rfl
theorem c__law_goal_right {P:Program} {w:World} {K:PySem.W.Frag} {mg:Str → Option Value} {base:Heap} (T:Tx K mg base):CalM P w K mg base 9 3 "_law_goal_right" f__law_goal_right []:=
  calM (N:=["_law_n", "_law_start", "_law_goal", "_law_half", "_law_told", "_law_way_here", "_law_moves", "_law_deed", "_law_one", "_law_far"]) (ps:=["_law_n", "_law_start", "_law_goal"]) (m:=m__law_goal_right) (T.c.def_ 36 rfl) (T.glo 56) ⟨rfl,rfl,rfl,by decide +kernel,rfl,by decide +kernel,by decide +kernel⟩ (by decide) (fun _ _ _ _ _ _ us hl=>match us,hl with | [_,_,_],_=>rfl) (fun c ca=>by
    obtain ⟨lc,lP,ec,TB,hlm,hlu⟩:=T.lam (p:=("_law_goal_right",none)) 1 ca
    exact (ss_cons (s_set c 3 (.inl rfl) (x_div c (x_sum c (T.free 24) (a_cons c (x_lc c [("_law_one",8),("_law_far",9)] (i_zip c (T.free 28) (x_sortW c (T.free 5) (a_cons c (x_v c 1 (.inr (.inl rfl))) (sa_nil))) (x_sortW c (T.free 5) (a_cons c (x_v c 2 (.inr (.inl rfl))) (sa_nil)))) (blk_of (by rfl)) (fun s H C cl fp c=>⟨g_tup c (.cons rfl (.inl rfl) (.inr rfl) (.cons rfl (.inl rfl) (.inr rfl) .nil)),pts_nil,x_abs c (T.free 46) (a_cons c (x_sub c (x_v c 8 (.inl rfl)) (x_v c 9 (.inl rfl))) (sa_nil))⟩)) (sa_nil))) (se_int))) (ss_cons (s_set c 4 (.inl rfl) (x_heard (ow:=[]) (kl:=6) c (c__law_heard T) (by decide) (by decide) TB ec hlm hlu (lamN_by (by rfl)) (.inl ⟨rfl,rfl⟩) (bd0 (by intro _ _ _ _ _ _; rfl)) (fun A outer s H E f c' c=>x_call c (c_units T) (by decide) (a_cons c (x_v c 0 (.inr (.inr rfl))) (a_cons c (x_v c 1 (.inr (.inr rfl))) (a_cons c (x_v c 2 (.inr (.inr rfl))) (sa_nil))))))) (ss_cons (ss_frz (i:=4) (ss_if (sb_not (b_tr c (x_call c (c__law_like T) (by decide) (a_cons c (x_v c 4 (.inl rfl)) (a_cons c (se_if (b_eq c (x_sum c (T.free 24) (a_cons c (x_v c 1 (.inr (.inl rfl))) (sa_nil))) (x_sum c (T.free 24) (a_cons c (x_v c 2 (.inr (.inl rfl))) (sa_nil)))) (se_lst (a_cons c (x_v c 3 (.inl rfl)) (sa_nil))) (se_tup (a_cons c (se_str) (a_cons c (x_sum c (T.free 24) (a_cons c (x_v c 2 (.inr (.inl rfl))) (sa_nil))) (sa_nil))))) (sa_nil)))))) (ss_cons (ss_ret (se_bool)) (ss_nil)) (ss_nil))) (ss_cons (s_set c 5 (.inl rfl) (x_call c (c_way_to T) (by decide) (a_cons c (x_v c 0 (.inr (.inl rfl))) (a_cons c (x_v c 1 (.inr (.inl rfl))) (a_cons c (x_v c 2 (.inr (.inl rfl))) (sa_nil)))))) (ss_cons (ss_if (sb_not (b_tr c (x_call c (c__law_evener T) (by decide) (a_cons c (x_v c 2 (.inr (.inl rfl))) (a_cons c (x_v c 1 (.inr (.inl rfl))) (sa_nil)))))) (ss_cons (ss_ret (x_is c (x_v c 5 (.inl rfl)) (se_none))) (ss_nil)) (ss_nil)) (ss_cons (ss_if (sb_not (b_tr c (x_call c (c__law_leads T) (by decide) (a_cons c (x_v c 0 (.inr (.inl rfl))) (a_cons c (x_v c 1 (.inr (.inl rfl))) (a_cons c (x_v c 2 (.inr (.inl rfl))) (a_cons c (x_v c 5 (.inl rfl)) (sa_nil)))))))) (ss_cons (ss_ret (se_bool)) (ss_nil)) (ss_nil)) (ss_cons (s_set c 6 (.inl rfl) (x_len c (T.free 11) (a_cons c (x_lc c [("_law_deed",7)] (i_seq c (x_v c 5 (.inl rfl))) (blk_of (by rfl)) (fun s H C cl fp c=>⟨g_nm c 7 (.inl rfl) (.inr rfl),pts_of (b_eq c (x_ix c (x_v c 7 (.inl rfl)) (se_int)) (se_str)),se_int⟩)) (sa_nil)))) (ss_cons (ss_if (SW.sb (sw_or (b_ne c (x_v c 6 (.inl rfl)) (x_v c 3 (.inl rfl))) (sw_or1 (b_gt c (x_sub c (x_len c (T.free 11) (a_cons c (x_v c 5 (.inl rfl)) (sa_nil))) (x_v c 6 (.inl rfl))) (x_sub c (x_v c 0 (.inr (.inl rfl))) (se_int)))))) (ss_cons (ss_ret (se_bool)) (ss_nil)) (ss_nil)) (ss_cons (s_set c 4 (.inl rfl) (se_lst (a_cons c (x_call c (c_is_way T) (by decide) (a_cons c (x_v c 0 (.inr (.inl rfl))) (a_cons c (x_v c 1 (.inr (.inl rfl))) (a_cons c (x_v c 2 (.inr (.inl rfl))) (a_cons c (x_v c 5 (.inl rfl)) (sa_nil)))))) (a_cons c (x_call c (c_rows_on T) (by decide) (a_cons c (x_v c 0 (.inr (.inl rfl))) (a_cons c (x_v c 1 (.inr (.inl rfl))) (a_cons c (x_v c 5 (.inl rfl)) (sa_nil))))) (sa_nil))))) (ss_cons (ss_frz (i:=4) (ss_ret (x_call c (c__law_like T) (by decide) (a_cons c (x_v c 4 (.inl rfl)) (a_cons c (se_lst (a_cons c (se_bool) (a_cons c (x_tuple c (T.free 8) (a_cons c (x_call c (c__law_rows_on T) (by decide) (a_cons c (x_v c 1 (.inr (.inl rfl))) (a_cons c (x_v c 5 (.inl rfl)) (sa_nil)))) (sa_nil))) (sa_nil)))) (sa_nil)))))) (ss_nil))))))))))))
abbrev L__law_refused_right_0:SM:=sSeq (sSet 2 (mBin fAdd (mVar 2) (mLst (mCons (mHeard h__law_heard (mCall 3 f_units [] (mCons (mVar 0) (mCons (mVar 4) (mCons (mC .none) (mNil)))))) (mCons (mHeard h__law_heard (mCall 3 f_units [] (mCons (mVar 0) (mCons (mVar 1) (mCons (mVar 4) (mNil)))))) (mNil)))))) (sSeq (sSet 2 (mBin fAdd (mVar 2) (mLst (mCons (mHeard h__law_heard (mCall 3 f_way_to [] (mCons (mVar 0) (mCons (mVar 4) (mCons (mC .none) (mNil)))))) (mCons (mHeard h__law_heard (mCall 3 f_way_to [] (mCons (mVar 0) (mCons (mVar 1) (mCons (mVar 4) (mNil)))))) (mNil)))))) (sSeq (sSet 2 (mBin fAdd (mVar 2) (mLst (mCons (mHeard h__law_heard (mCall 4 f_is_way [] (mCons (mVar 0) (mCons (mVar 4) (mCons (mC (.int 1)) (mCons (mC (.int 1)) (mNil))))))) (mCons (mHeard h__law_heard (mCall 4 f_is_way [] (mCons (mVar 0) (mCons (mVar 1) (mCons (mVar 4) (mCons (mC (.int 1)) (mNil))))))) (mNil)))))) (sSeq (sApp 2 (mHeard h__law_heard (mCall 3 f_rows_on [] (mCons (mVar 0) (mCons (mVar 4) (mCons (mC .none) (mNil))))))) (sSeq (sSet 3 (mBin fAdd (mVar 3) (mRep (mLst (mCons (mTup (mCons (mC (.str "content")) (mCons (mVar 4) (mNil)))) (mNil))) (mC (.int 7))))) (sSkip)))))
def m__law_refused_right:SM:=sSeq (sSet 2 (mLst (mCons (mHeard h__law_heard (mCall 3 f_units [] (mCons (mC (.int 1)) (mCons (mC .none) (mCons (mC .none) (mNil)))))) (mCons (mHeard h__law_heard (mCall 3 f_way_to [] (mCons (mC (.int 6)) (mCons (mVar 1) (mCons (mVar 1) (mNil)))))) (mNil))))) (sSeq (sSet 2 (mBin fAdd (mVar 2) (mLst (mCons (mHeard h__law_heard (mCall 3 f_rows_on [] (mCons (mC (.bool true)) (mCons (mC .none) (mCons (mC .none) (mNil)))))) (mCons (mHeard h__law_heard (mCall 4 f_is_way [] (mCons (mC (.int 0)) (mCons (mC .none) (mCons (mC .none) (mCons (mC .none) (mNil))))))) (mNil)))))) (sSeq (sSet 3 (mLst (mCons (mTup (mCons (mC (.str "many")) (mCons (mC (.int 1)) (mNil)))) (mCons (mTup (mCons (mC (.str "many")) (mCons (mC (.int 6)) (mNil)))) (mCons (mTup (mCons (mC (.str "many")) (mCons (mC (.bool true)) (mNil)))) (mCons (mTup (mCons (mC (.str "many")) (mCons (mC (.int 0)) (mNil)))) (mNil))))))) (sSeq (sFor (mSeq (mTup (mCons (mCallB fList (mCons (mVar 1) (mNil))) (mCons (mBin fAdd (mVar 1) (mTup (mCons (mC (.int 0)) (mNil)))) (mCons (mSl (mVar 1) (some (mC (.int 1))) none) (mCons (mC .none) (mCons (mBin fMulT (mTup (mCons (mC (.int 25)) (mNil))) (mVar 0)) (mCons (mBin fAdd (mTup (mCons (mNeg (mC (.int 1))) (mNil))) (mSl (mVar 1) (some (mC (.int 1))) none)) (mCons (mBin fAdd (mTup (mCons (mC (.bool true)) (mNil))) (mSl (mVar 1) (some (mC (.int 1))) none)) (mNil)))))))))) (.nm 4) (L__law_refused_right_0)) (sSeq (sFrz 3 (sFrz 2 (sRet (mCall 2 f__law_like [] (mCons (mVar 2) (mCons (mVar 3) (mNil))))))) (sSkip)))))
def f__law_refused_right:FM:=runM m__law_refused_right 5
omit [Tbs] in theorem u__law_refused_right (rs:List Rv) (t:Option DS):f__law_refused_right rs t = runM m__law_refused_right 5 rs t:=rfl
theorem c__law_refused_right {P:Program} {w:World} {K:PySem.W.Frag} {mg:Str → Option Value} {base:Heap} (T:Tx K mg base):CalM P w K mg base 9 2 "_law_refused_right" f__law_refused_right []:=
  calM (N:=["_law_n", "_law_row_here", "_law_told", "_law_due", "_law_odd"]) (ps:=["_law_n", "_law_row_here"]) (m:=m__law_refused_right) (T.c.def_ 38 rfl) (T.glo 57) ⟨rfl,rfl,rfl,by decide +kernel,rfl,by decide +kernel,by decide +kernel⟩ (by decide) (fun _ _ _ _ _ _ us hl=>match us,hl with | [_,_],_=>rfl) (fun c ca=>by
    obtain ⟨lc,lP,ec,TB,hlm,hlu⟩:=T.lam (p:=("_law_refused_right",none)) 2 ca
    exact (ss_cons (s_set c 2 (.inl rfl) (se_lst (a_cons c (x_heard (ow:=[]) (kl:=6) c (c__law_heard T) (by decide) (by decide) TB ec hlm hlu (lamN_by (by rfl)) (.inl ⟨rfl,rfl⟩) (bd0 (by intro _ _ _ _ _ _; rfl)) (fun A outer s H E f c' c=>x_call c (c_units T) (by decide) (a_cons c (se_int) (a_cons c (se_none) (a_cons c (se_none) (sa_nil)))))) (a_cons c (x_heard (ow:=["_law_x"]) (kl:=6) c (c__law_heard T) (by decide) (by decide) TB ec hlm hlu (lamN_by (by rfl)) (.inr ⟨rfl,rfl,rfl,_,_,rfl⟩) (bd1 fun _ _ _ _ _ _ _=>⟨_,rfl,fun _=>rfl⟩) (fun A outer s H E f c' c=>x_call c (c_way_to T) (by decide) (a_cons c (se_int) (a_cons c (x_v c 1 (.inr (.inr rfl))) (a_cons c (x_v c 1 (.inr (.inr rfl))) (sa_nil)))))) (sa_nil))))) (ss_cons (s_set c 2 (.inl rfl) (x_add c (x_v c 2 (.inl rfl)) (se_lst (a_cons c (x_heard (ow:=[]) (kl:=6) c (c__law_heard T) (by decide) (by decide) TB ec hlm hlu (lamN_by (by rfl)) (.inl ⟨rfl,rfl⟩) (bd0 (by intro _ _ _ _ _ _; rfl)) (fun A outer s H E f c' c=>x_call c (c_rows_on T) (by decide) (a_cons c (se_bool) (a_cons c (se_none) (a_cons c (se_none) (sa_nil)))))) (a_cons c (x_heard (ow:=["_law_x"]) (kl:=6) c (c__law_heard T) (by decide) (by decide) TB ec hlm hlu (lamN_by (by rfl)) (.inr ⟨rfl,rfl,rfl,_,_,rfl⟩) (bd1 fun _ _ _ _ _ _ _=>⟨_,rfl,fun _=>rfl⟩) (fun A outer s H E f c' c=>x_call c (c_is_way T) (by decide) (a_cons c (se_int) (a_cons c (se_none) (a_cons c (se_none) (a_cons c (se_none) (sa_nil))))))) (sa_nil)))))) (ss_cons (s_set c 3 (.inl rfl) (se_lst (a_cons c (se_tup (a_cons c (se_str) (a_cons c (se_int) (sa_nil)))) (a_cons c (se_tup (a_cons c (se_str) (a_cons c (se_int) (sa_nil)))) (a_cons c (se_tup (a_cons c (se_str) (a_cons c (se_bool) (sa_nil)))) (a_cons c (se_tup (a_cons c (se_str) (a_cons c (se_int) (sa_nil)))) (sa_nil))))))) (ss_cons (s_for c (i_seq c (se_tup (a_cons c (x_list c (T.free 4) (a_cons c (x_v c 1 (.inr (.inl rfl))) (sa_nil))) (a_cons c (x_add c (x_v c 1 (.inr (.inl rfl))) (se_tup (a_cons c (se_int) (sa_nil)))) (a_cons c (x_sl c (x_v c 1 (.inr (.inl rfl))) (show SO _ _ (some _) (some (mC (.int 1))) from se_int) (show SO _ _ none none from trivial)) (a_cons c (se_none) (a_cons c (x_times c (se_tup (a_cons c (se_int) (sa_nil))) (x_v c 0 (.inr (.inl rfl)))) (a_cons c (x_add c (se_tup (a_cons c (se_neg (se_int)) (sa_nil))) (x_sl c (x_v c 1 (.inr (.inl rfl))) (show SO _ _ (some _) (some (mC (.int 1))) from se_int) (show SO _ _ none none from trivial))) (a_cons c (x_add c (se_tup (a_cons c (se_bool) (sa_nil))) (x_sl c (x_v c 1 (.inr (.inl rfl))) (show SO _ _ (some _) (some (mC (.int 1))) from se_int) (show SO _ _ none none from trivial))) (sa_nil)))))))))) (g_nm c 4 (.inr rfl) (.inl rfl)) (ss_cons (s_set c 2 (.inl rfl) (x_add c (x_v c 2 (.inl rfl)) (se_lst (a_cons c (x_heard (ow:=[]) (kl:=6) c (c__law_heard T) (by decide) (by decide) TB ec hlm hlu (lamN_by (by rfl)) (.inl ⟨rfl,rfl⟩) (bd0 (by intro _ _ _ _ _ _; rfl)) (fun A outer s H E f c' c=>x_call c (c_units T) (by decide) (a_cons c (x_v c 0 (.inr (.inr rfl))) (a_cons c (x_v c 4 (.inr (.inr rfl))) (a_cons c (se_none) (sa_nil)))))) (a_cons c (x_heard (ow:=["_law_x"]) (kl:=6) c (c__law_heard T) (by decide) (by decide) TB ec hlm hlu (lamN_by (by rfl)) (.inr ⟨rfl,rfl,rfl,_,_,rfl⟩) (bd1 fun _ _ _ _ _ _ _=>⟨_,rfl,fun _=>rfl⟩) (fun A outer s H E f c' c=>x_call c (c_units T) (by decide) (a_cons c (x_v c 0 (.inr (.inr rfl))) (a_cons c (x_v c 1 (.inr (.inr rfl))) (a_cons c (x_v c 4 (.inr (.inr rfl))) (sa_nil)))))) (sa_nil)))))) (ss_cons (s_set c 2 (.inl rfl) (x_add c (x_v c 2 (.inl rfl)) (se_lst (a_cons c (x_heard (ow:=[]) (kl:=6) c (c__law_heard T) (by decide) (by decide) TB ec hlm hlu (lamN_by (by rfl)) (.inl ⟨rfl,rfl⟩) (bd0 (by intro _ _ _ _ _ _; rfl)) (fun A outer s H E f c' c=>x_call c (c_way_to T) (by decide) (a_cons c (x_v c 0 (.inr (.inr rfl))) (a_cons c (x_v c 4 (.inr (.inr rfl))) (a_cons c (se_none) (sa_nil)))))) (a_cons c (x_heard (ow:=["_law_x"]) (kl:=6) c (c__law_heard T) (by decide) (by decide) TB ec hlm hlu (lamN_by (by rfl)) (.inr ⟨rfl,rfl,rfl,_,_,rfl⟩) (bd1 fun _ _ _ _ _ _ _=>⟨_,rfl,fun _=>rfl⟩) (fun A outer s H E f c' c=>x_call c (c_way_to T) (by decide) (a_cons c (x_v c 0 (.inr (.inr rfl))) (a_cons c (x_v c 1 (.inr (.inr rfl))) (a_cons c (x_v c 4 (.inr (.inr rfl))) (sa_nil)))))) (sa_nil)))))) (ss_cons (s_set c 2 (.inl rfl) (x_add c (x_v c 2 (.inl rfl)) (se_lst (a_cons c (x_heard (ow:=[]) (kl:=6) c (c__law_heard T) (by decide) (by decide) TB ec hlm hlu (lamN_by (by rfl)) (.inl ⟨rfl,rfl⟩) (bd0 (by intro _ _ _ _ _ _; rfl)) (fun A outer s H E f c' c=>x_call c (c_is_way T) (by decide) (a_cons c (x_v c 0 (.inr (.inr rfl))) (a_cons c (x_v c 4 (.inr (.inr rfl))) (a_cons c (se_int) (a_cons c (se_int) (sa_nil))))))) (a_cons c (x_heard (ow:=["_law_x"]) (kl:=6) c (c__law_heard T) (by decide) (by decide) TB ec hlm hlu (lamN_by (by rfl)) (.inr ⟨rfl,rfl,rfl,_,_,rfl⟩) (bd1 fun _ _ _ _ _ _ _=>⟨_,rfl,fun _=>rfl⟩) (fun A outer s H E f c' c=>x_call c (c_is_way T) (by decide) (a_cons c (x_v c 0 (.inr (.inr rfl))) (a_cons c (x_v c 1 (.inr (.inr rfl))) (a_cons c (x_v c 4 (.inr (.inr rfl))) (a_cons c (se_int) (sa_nil))))))) (sa_nil)))))) (ss_cons (s_app c 2 (.inl rfl) (x_heard (ow:=[]) (kl:=6) c (c__law_heard T) (by decide) (by decide) TB ec hlm hlu (lamN_by (by rfl)) (.inl ⟨rfl,rfl⟩) (bd0 (by intro _ _ _ _ _ _; rfl)) (fun A outer s H E f c' c=>x_call c (c_rows_on T) (by decide) (a_cons c (x_v c 0 (.inr (.inr rfl))) (a_cons c (x_v c 4 (.inr (.inr rfl))) (a_cons c (se_none) (sa_nil))))))) (ss_cons (s_set c 3 (.inl rfl) (x_add c (x_v c 3 (.inl rfl)) (x_rep (se_lst (a_cons c (se_tup (a_cons c (se_str) (a_cons c (x_v c 4 (.inr (.inl rfl))) (sa_nil)))) (sa_nil))) (se_int)))) (ss_nil))))))) (ss_cons (ss_frz (i:=3) (ss_frz (i:=2) (ss_ret (x_call c (c__law_like T) (by decide) (a_cons c (x_v c 2 (.inl rfl)) (a_cons c (x_v c 3 (.inl rfl)) (sa_nil))))))) (ss_nil)))))))
abbrev M__law_ways_right_0:EM:=mLc (mSeq (mVar 9)) (.nm 11) (some (mCmpB fIsNt (mCall 4 f_is_way [] (mCons (mVar 1) (mCons (mVar 2) (mCons (mVar 4) (mCons (mVar 11) (mNil)))))) (mC (.bool false)))) (mVar 11) [11]
abbrev L__law_ways_right_1:SM:=sSeq (sSet 6 (mIf (mCmpB fEq (mVar 5) (mC (.int 0))) (mVar 3) (mCall 3 f__law_bent_way [] (mCons (mVar 0) (mCons (mVar 1) (mCons (mVar 3) (mNil))))))) (sSeq (sFrz 6 (sSet 7 (mCall 3 f__law_way_error [] (mCons (mVar 1) (mCons (mVar 2) (mCons (mVar 6) (mNil))))))) (sSeq (sFrz 6 (sSet 8 (mIf (mCmpB fIs (mVar 7) (mC .none)) (mLst (mCons (mCallB fTuple (mCons (mCall 2 f__law_rows_on [] (mCons (mVar 2) (mCons (mVar 6) (mNil)))) (mNil))) (mNil))) (mVar 7)))) (sSeq (sFrz 8 (sFrz 6 (sIf (mNotB (mTru (mCall 2 f__law_like [] (mCons (mHeard h__law_heard (mCall 3 f_rows_on [] (mCons (mVar 1) (mCons (mVar 2) (mCons (mVar 6) (mNil)))))) (mCons (mVar 8) (mNil)))))) (sSeq (sRet (mC (.bool false))) (sSkip)) (sSkip)))) (sSeq (sFrz 6 (sIf (mNotB (mTru (mCall 2 f__law_like [] (mCons (mCall 4 f_is_way [] (mCons (mVar 1) (mCons (mVar 2) (mCons (mVar 4) (mCons (mVar 6) (mNil)))))) (mCons (mCall 4 f__law_leads [] (mCons (mVar 1) (mCons (mVar 2) (mCons (mVar 4) (mCons (mVar 6) (mNil)))))) (mNil)))))) (sSeq (sRet (mC (.bool false))) (sSkip)) (sSkip))) (sSkip)))))
def m__law_ways_right:SM:=sSeq (sSet 3 (mCall 4 f__law_way [] (mCons (mVar 0) (mCons (mVar 1) (mCons (mVar 2) (mCons (mCall 2 f__law_draw [] (mCons (mVar 0) (mCons (mC (.int 6)) (mNil)))) (mNil))))))) (sSeq (sSet 4 (mBin fIx (mCall 2 f__law_rows_on [] (mCons (mVar 2) (mCons (mVar 3) (mNil)))) (mNeg (mC (.int 1))))) (sSeq (sFor (mRange1 (mC (.int 4))) (.nm 5) (L__law_ways_right_1)) (sSeq (sSet 9 (mTup (mCons (mC .none) (mCons (mCallB fList (mCons (mVar 3) (mNil))) (mCons (mC (.str "")) (mCons (mC (.int 5)) (mCons (mTup (mCons (mC .none) (mNil))) (mCons (mBin fAdd (mVar 3) (mTup (mCons (mTup (mCons (mC (.str "transfer")) (mCons (mC (.int 0)) (mNil)))) (mNil)))) (mCons (mBin fMulT (mTup (mCons (mTup (mCons (mC (.str "exchange")) (mCons (mC (.int 0)) (mCons (mC (.int 1)) (mNil))))) (mNil))) (mC (.int 61))) (mCons (mDct) (mNil))))))))))) (sSeq (sSet 10 (M__law_ways_right_0)) (sSeq (sRet (mAnd (mBin fEq (mVar 10) (mLst (mNil))) (mCall 3 f__law_goal_right [] (mCons (mVar 1) (mCons (mVar 2) (mCons (mVar 4) (mNil))))))) (sSkip))))))
def f__law_ways_right:FM:=runM m__law_ways_right 12
omit [Tbs] in theorem u__law_ways_right (rs:List Rv) (t:Option DS):f__law_ways_right rs t = runM m__law_ways_right 12 rs t:=rfl
theorem c__law_ways_right {P:Program} {w:World} {K:PySem.W.Frag} {mg:Str → Option Value} {base:Heap} (T:Tx K mg base):CalM P w K mg base 10 3 "_law_ways_right" f__law_ways_right []:=
  calM (N:=["_law_state", "_law_n", "_law_start", "_law_way_here", "_law_goal", "_law_turn", "_law_bent", "_law_error", "_law_due", "_law_odds", "_law_wrong", "_law_odd"]) (ps:=["_law_state", "_law_n", "_law_start"]) (m:=m__law_ways_right) (T.c.def_ 37 rfl) (T.glo 58) ⟨rfl,rfl,rfl,by decide +kernel,rfl,by decide +kernel,by decide +kernel⟩ (by decide) (fun _ _ _ _ _ _ us hl=>match us,hl with | [_,_,_],_=>rfl) (fun c ca=>by
    obtain ⟨lc,lP,ec,TB,hlm,hlu⟩:=T.lam (p:=("_law_ways_right",none)) 3 ca
    exact (ss_cons (s_set c 3 (.inl rfl) (x_call c (c__law_way T) (by decide) (a_cons c (x_v c 0 (.inl rfl)) (a_cons c (x_v c 1 (.inr (.inl rfl))) (a_cons c (x_v c 2 (.inr (.inl rfl))) (a_cons c (x_call c (c__law_draw T) (by decide) (a_cons c (x_v c 0 (.inl rfl)) (a_cons c (se_int) (sa_nil)))) (sa_nil))))))) (ss_cons (s_set c 4 (.inr rfl) (x_ix c (x_call c (c__law_rows_on T) (by decide) (a_cons c (x_v c 2 (.inr (.inl rfl))) (a_cons c (x_v c 3 (.inl rfl)) (sa_nil)))) (se_neg (se_int)))) (ss_cons (s_for c (i_r1 c (T.free 12) (se_int)) (g_nm c 5 (.inl rfl) (.inl rfl)) (ss_cons (s_set c 6 (.inr rfl) (se_if (b_eq c (x_v c 5 (.inl rfl)) (se_int)) (x_v c 3 (.inl rfl)) (x_call c (c__law_bent_way T) (by decide) (a_cons c (x_v c 0 (.inl rfl)) (a_cons c (x_v c 1 (.inr (.inl rfl))) (a_cons c (x_v c 3 (.inl rfl)) (sa_nil))))))) (ss_cons (ss_frz (i:=6) (s_set c 7 (.inl rfl) (x_call c (c__law_way_error T) (by decide) (a_cons c (x_v c 1 (.inr (.inl rfl))) (a_cons c (x_v c 2 (.inr (.inl rfl))) (a_cons c (x_v c 6 (.inr (.inl rfl))) (sa_nil))))))) (ss_cons (ss_frz (i:=6) (s_set c 8 (.inl rfl) (se_if (b_is c (x_v c 7 (.inl rfl)) (se_none)) (se_lst (a_cons c (x_tuple c (T.free 8) (a_cons c (x_call c (c__law_rows_on T) (by decide) (a_cons c (x_v c 2 (.inr (.inl rfl))) (a_cons c (x_v c 6 (.inr (.inl rfl))) (sa_nil)))) (sa_nil))) (sa_nil))) (x_v c 7 (.inl rfl))))) (ss_cons (ss_frz (i:=8) (ss_frz (i:=6) (ss_if (sb_not (b_tr c (x_call c (c__law_like T) (by decide) (a_cons c (x_heard (ow:=[]) (kl:=6) c (c__law_heard T) (by decide) (by decide) TB ec hlm hlu (lamN_by (by rfl)) (.inl ⟨rfl,rfl⟩) (bd0 (by intro _ _ _ _ _ _; rfl)) (fun A outer s H E f c' c=>x_call c (c_rows_on T) (by decide) (a_cons c (x_v c 1 (.inr (.inr rfl))) (a_cons c (x_v c 2 (.inr (.inr rfl))) (a_cons c (x_v c 6 (.inr (.inr rfl))) (sa_nil)))))) (a_cons c (x_v c 8 (.inl rfl)) (sa_nil)))))) (ss_cons (ss_ret (se_bool)) (ss_nil)) (ss_nil)))) (ss_cons (ss_frz (i:=6) (ss_if (sb_not (b_tr c (x_call c (c__law_like T) (by decide) (a_cons c (x_call c (c_is_way T) (by decide) (a_cons c (x_v c 1 (.inr (.inl rfl))) (a_cons c (x_v c 2 (.inr (.inl rfl))) (a_cons c (x_v c 4 (.inr (.inl rfl))) (a_cons c (x_v c 6 (.inr (.inl rfl))) (sa_nil)))))) (a_cons c (x_call c (c__law_leads T) (by decide) (a_cons c (x_v c 1 (.inr (.inl rfl))) (a_cons c (x_v c 2 (.inr (.inl rfl))) (a_cons c (x_v c 4 (.inr (.inl rfl))) (a_cons c (x_v c 6 (.inr (.inl rfl))) (sa_nil)))))) (sa_nil)))))) (ss_cons (ss_ret (se_bool)) (ss_nil)) (ss_nil))) (ss_nil))))))) (ss_cons (s_set c 9 (.inl rfl) (se_tup (a_cons c (se_none) (a_cons c (x_list c (T.free 4) (a_cons c (x_v c 3 (.inl rfl)) (sa_nil))) (a_cons c (se_str) (a_cons c (se_int) (a_cons c (se_tup (a_cons c (se_none) (sa_nil))) (a_cons c (x_add c (x_v c 3 (.inl rfl)) (se_tup (a_cons c (se_tup (a_cons c (se_str) (a_cons c (se_int) (sa_nil)))) (sa_nil)))) (a_cons c (x_times c (se_tup (a_cons c (se_tup (a_cons c (se_str) (a_cons c (se_int) (a_cons c (se_int) (sa_nil))))) (sa_nil))) (se_int)) (a_cons c (x_dct) (sa_nil))))))))))) (ss_cons (s_setLc c 10 [("_law_odd",11)] rfl (i_seq c (x_v c 9 (.inl rfl))) (blk_of (by rfl)) (fun s H C cl fp c=>⟨g_nm c 11 (.inl rfl) (.inr rfl),pts_of (b_isn c (x_call c (c_is_way T) (by decide) (a_cons c (x_v c 1 (.inr (.inl rfl))) (a_cons c (x_v c 2 (.inr (.inl rfl))) (a_cons c (x_v c 4 (.inr (.inl rfl))) (a_cons c (x_v c 11 (.inl rfl)) (sa_nil)))))) (se_bool)),x_v c 11 (.inl rfl)⟩)) (ss_cons (ss_ret (x_and c (x_eq c (x_v c 10 (.inl rfl)) (se_lst (sa_nil))) (se_one (x_call c (c__law_goal_right T) (by decide) (a_cons c (x_v c 1 (.inr (.inl rfl))) (a_cons c (x_v c 2 (.inr (.inl rfl))) (a_cons c (x_v c 4 (.inr (.inl rfl))) (sa_nil)))))))) (ss_nil))))))))
def m__law_by_hand:SM:=sSeq (sSet 0 (mTup (mCons (mTup (mCons (mC (.str "transfer")) (mCons (mC (.int 0)) (mCons (mC (.int 2)) (mNil))))) (mCons (mTup (mCons (mC (.str "exchange")) (mCons (mC (.int 1)) (mCons (mC (.int 2)) (mNil))))) (mNil))))) (sSeq (sSet 1 (mLst (mCons (mCall 3 f_units [] (mCons (mC (.int 3)) (mCons (mTup (mCons (mC (.int 4)) (mCons (mC (.int 0)) (mCons (mC (.int 0)) (mNil))))) (mCons (mTup (mCons (mC (.int 1)) (mCons (mC (.int 1)) (mCons (mC (.int 2)) (mNil))))) (mNil))))) (mCons (mCall 3 f_rows_on [] (mCons (mC (.int 3)) (mCons (mTup (mCons (mC (.int 2)) (mCons (mC (.int 0)) (mCons (mC (.int 0)) (mNil))))) (mCons (mVar 0) (mNil))))) (mCons (mCall 3 f_units [] (mCons (mC (.int 5)) (mCons (mTup (mCons (mC (.int 24)) (mCons (mC (.int 24)) (mCons (mC (.int 0)) (mCons (mC (.int 0)) (mCons (mC (.int 0)) (mNil))))))) (mCons (mTup (mCons (mC (.int 9)) (mCons (mC (.int 9)) (mCons (mC (.int 10)) (mCons (mC (.int 10)) (mCons (mC (.int 10)) (mNil))))))) (mNil))))) (mNil)))))) (sSeq (sApp 1 (mHeard h__law_heard (mCall 3 f_rows_on [] (mCons (mC (.int 3)) (mCons (mTup (mCons (mC (.int 2)) (mCons (mC (.int 0)) (mCons (mC (.int 0)) (mNil))))) (mCons (mBin fAdd (mVar 0) (mTup (mCons (mTup (mCons (mC (.str "transfer")) (mCons (mC (.int 2)) (mCons (mC (.int 0)) (mNil))))) (mNil)))) (mNil))))))) (sSeq (sApp 1 (mHeard h__law_heard (mCall 3 f_rows_on [] (mCons (mC (.int 3)) (mCons (mTup (mCons (mC (.int 2)) (mCons (mC (.int 0)) (mCons (mC (.int 0)) (mNil))))) (mCons (mTup (mCons (mTup (mCons (mC (.str "transfer")) (mCons (mC (.int 1)) (mCons (mC (.int 2)) (mNil))))) (mCons (mTup (mCons (mC (.str "transfer")) (mCons (mC (.int 1)) (mCons (mC (.int 1)) (mNil))))) (mNil)))) (mNil))))))) (sSeq (sApp 1 (mHeard h__law_heard (mCall 3 f_rows_on [] (mCons (mC (.int 2)) (mCons (mTup (mCons (mC (.int 1)) (mCons (mC (.int 1)) (mNil)))) (mCons (mTup (mCons (mTup (mCons (mC (.str "transfer")) (mCons (mC (.int 0)) (mCons (mC (.int 1)) (mNil))))) (mNil))) (mNil))))))) (sSeq (sApp 1 (mHeard h__law_heard (mCall 3 f_rows_on [] (mCons (mC (.int 2)) (mCons (mTup (mCons (mC (.int 1)) (mCons (mC (.int 0)) (mNil)))) (mCons (mTup (mCons (mTup (mCons (mC (.str "exchange")) (mCons (mC (.int 0)) (mCons (mC (.int 1)) (mNil))))) (mCons (mTup (mCons (mC (.str "transfer")) (mCons (mC (.bool true)) (mCons (mC (.bool false)) (mNil))))) (mNil)))) (mNil))))))) (sSeq (sApp 1 (mCall 4 f_is_way [] (mCons (mC (.int 2)) (mCons (mTup (mCons (mC (.int 1)) (mCons (mC (.int 0)) (mNil)))) (mCons (mTup (mCons (mC (.int 0)) (mCons (mC (.int 1)) (mNil)))) (mCons (mTup (mCons (mTup (mCons (mC (.str "exchange")) (mCons (mC (.bool false)) (mCons (mC (.int 1)) (mNil))))) (mNil))) (mNil))))))) (sSeq (sApp 1 (mHeard h__law_heard (mCallB (f1 gLen) (mCons (mCall 3 f_rows_on [] (mCons (mC (.int 2)) (mCons (mTup (mCons (mC (.int 1)) (mCons (mC (.int 0)) (mNil)))) (mCons (mBin fMulT (mTup (mCons (mTup (mCons (mC (.str "exchange")) (mCons (mC (.int 1)) (mCons (mC (.int 0)) (mNil))))) (mNil))) (mC (.int 60))) (mNil))))) (mNil))))) (sSeq (sApp 1 (mHeard h__law_heard (mCall 3 f_rows_on [] (mCons (mC (.int 2)) (mCons (mTup (mCons (mC (.int 1)) (mCons (mC (.int 0)) (mNil)))) (mCons (mBin fMulT (mTup (mCons (mC .none) (mNil))) (mC (.int 61))) (mNil))))))) (sSeq (sSet 1 (mBin fAdd (mVar 1) (mLst (mCons (mBin fIs (mCall 3 f_way_to [] (mCons (mC (.int 2)) (mCons (mTup (mCons (mC (.int 3)) (mCons (mC (.int 1)) (mNil)))) (mCons (mTup (mCons (mC (.int 1)) (mCons (mC (.int 3)) (mNil)))) (mNil))))) (mC .none)) (mCons (mCall 3 f_units [] (mCons (mC (.int 2)) (mCons (mTup (mCons (mC (.int 0)) (mCons (mC (.int 24)) (mNil)))) (mCons (mTup (mCons (mC (.int 24)) (mCons (mC (.int 0)) (mNil)))) (mNil))))) (mCons (mCall 3 f_way_to [] (mCons (mC (.int 2)) (mCons (mTup (mCons (mC (.int 1)) (mCons (mC (.int 1)) (mNil)))) (mCons (mTup (mCons (mC (.int 2)) (mCons (mC (.int 0)) (mNil)))) (mNil))))) (mNil))))))) (sSeq (sSet 2 (mLst (mCons (mC (.int 2)) (mCons (mTup (mCons (mTup (mCons (mC (.int 2)) (mCons (mC (.int 0)) (mCons (mC (.int 0)) (mNil))))) (mCons (mTup (mCons (mC (.int 1)) (mCons (mC (.int 0)) (mCons (mC (.int 1)) (mNil))))) (mCons (mTup (mCons (mC (.int 1)) (mCons (mC (.int 1)) (mCons (mC (.int 0)) (mNil))))) (mNil))))) (mCons (mC (.int 28)) (mCons (mTup (mCons (mC (.str "step")) (mCons (mC (.int 2)) (mNil)))) (mCons (mTup (mCons (mC (.str "way")) (mCons (mC (.int 1)) (mNil)))) (mCons (mTup (mCons (mC (.str "step")) (mCons (mC (.int 0)) (mNil)))) (mCons (mTup (mCons (mC (.str "way")) (mCons (mC (.int 1)) (mNil)))) (mCons (mC (.bool false)) (mCons (mLst (mCons (mC (.int 61)) (mNil))) (mCons (mTup (mCons (mC (.str "way")) (mCons (mC (.int 60)) (mNil)))) (mNil))))))))))))) (sSeq (sSet 2 (mBin fAdd (mVar 2) (mLst (mCons (mC (.bool false)) (mCons (mC (.int 0)) (mCons (mC .none) (mNil))))))) (sSeq (sFrz 2 (sFrz 1 (sRet (mAnd (mCall 2 f__law_like [] (mCons (mVar 1) (mCons (mVar 2) (mNil)))) (mCall 3 f__law_goal_right [] (mCons (mC (.int 5)) (mCons (mTup (mCons (mC (.int 24)) (mCons (mC (.int 24)) (mCons (mC (.int 0)) (mCons (mC (.int 0)) (mCons (mC (.int 0)) (mNil))))))) (mCons (mTup (mCons (mC (.int 9)) (mCons (mC (.int 9)) (mCons (mC (.int 10)) (mCons (mC (.int 10)) (mCons (mC (.int 10)) (mNil))))))) (mNil))))))))) (sSkip)))))))))))))
def f__law_by_hand:FM:=runM m__law_by_hand 3
omit [Tbs] in theorem u__law_by_hand (rs:List Rv) (t:Option DS):f__law_by_hand rs t = runM m__law_by_hand 3 rs t:=rfl
theorem c__law_by_hand {P:Program} {w:World} {K:PySem.W.Frag} {mg:Str → Option Value} {base:Heap} (T:Tx K mg base):CalM P w K mg base 10 0 "_law_by_hand" f__law_by_hand []:=
  calM (N:=["_law_deeds", "_law_told", "_law_due"]) (ps:=[]) (m:=m__law_by_hand) (T.c.def_ 39 rfl) (T.glo 59) ⟨rfl,rfl,rfl,by decide +kernel,rfl,by decide +kernel,by decide +kernel⟩ (by decide) (fun _ _ _ _ _ _ us hl=>match us,hl with | [],_=>rfl) (fun c ca=>by
    obtain ⟨lc,lP,ec,TB,hlm,hlu⟩:=T.lam (p:=("_law_by_hand",none)) 4 ca
    exact (ss_cons (s_set c 0 (.inr rfl) (se_tup (a_cons c (se_tup (a_cons c (se_str) (a_cons c (se_int) (a_cons c (se_int) (sa_nil))))) (a_cons c (se_tup (a_cons c (se_str) (a_cons c (se_int) (a_cons c (se_int) (sa_nil))))) (sa_nil))))) (ss_cons (s_set c 1 (.inl rfl) (se_lst (a_cons c (x_call c (c_units T) (by decide) (a_cons c (se_int) (a_cons c (se_tup (a_cons c (se_int) (a_cons c (se_int) (a_cons c (se_int) (sa_nil))))) (a_cons c (se_tup (a_cons c (se_int) (a_cons c (se_int) (a_cons c (se_int) (sa_nil))))) (sa_nil))))) (a_cons c (x_call c (c_rows_on T) (by decide) (a_cons c (se_int) (a_cons c (se_tup (a_cons c (se_int) (a_cons c (se_int) (a_cons c (se_int) (sa_nil))))) (a_cons c (x_v c 0 (.inr (.inl rfl))) (sa_nil))))) (a_cons c (x_call c (c_units T) (by decide) (a_cons c (se_int) (a_cons c (se_tup (a_cons c (se_int) (a_cons c (se_int) (a_cons c (se_int) (a_cons c (se_int) (a_cons c (se_int) (sa_nil))))))) (a_cons c (se_tup (a_cons c (se_int) (a_cons c (se_int) (a_cons c (se_int) (a_cons c (se_int) (a_cons c (se_int) (sa_nil))))))) (sa_nil))))) (sa_nil)))))) (ss_cons (s_app c 1 (.inl rfl) (x_heard (ow:=[]) (kl:=6) c (c__law_heard T) (by decide) (by decide) TB ec hlm hlu (lamN_by (by rfl)) (.inl ⟨rfl,rfl⟩) (bd0 (by intro _ _ _ _ _ _; rfl)) (fun A outer s H E f c' c=>x_call c (c_rows_on T) (by decide) (a_cons c (se_int) (a_cons c (se_tup (a_cons c (se_int) (a_cons c (se_int) (a_cons c (se_int) (sa_nil))))) (a_cons c (x_add c (x_v c 0 (.inr (.inr rfl))) (se_tup (a_cons c (se_tup (a_cons c (se_str) (a_cons c (se_int) (a_cons c (se_int) (sa_nil))))) (sa_nil)))) (sa_nil))))))) (ss_cons (s_app c 1 (.inl rfl) (x_heard (ow:=[]) (kl:=6) c (c__law_heard T) (by decide) (by decide) TB ec hlm hlu (lamN_by (by rfl)) (.inl ⟨rfl,rfl⟩) (bd0 (by intro _ _ _ _ _ _; rfl)) (fun A outer s H E f c' c=>x_call c (c_rows_on T) (by decide) (a_cons c (se_int) (a_cons c (se_tup (a_cons c (se_int) (a_cons c (se_int) (a_cons c (se_int) (sa_nil))))) (a_cons c (se_tup (a_cons c (se_tup (a_cons c (se_str) (a_cons c (se_int) (a_cons c (se_int) (sa_nil))))) (a_cons c (se_tup (a_cons c (se_str) (a_cons c (se_int) (a_cons c (se_int) (sa_nil))))) (sa_nil)))) (sa_nil))))))) (ss_cons (s_app c 1 (.inl rfl) (x_heard (ow:=[]) (kl:=6) c (c__law_heard T) (by decide) (by decide) TB ec hlm hlu (lamN_by (by rfl)) (.inl ⟨rfl,rfl⟩) (bd0 (by intro _ _ _ _ _ _; rfl)) (fun A outer s H E f c' c=>x_call c (c_rows_on T) (by decide) (a_cons c (se_int) (a_cons c (se_tup (a_cons c (se_int) (a_cons c (se_int) (sa_nil)))) (a_cons c (se_tup (a_cons c (se_tup (a_cons c (se_str) (a_cons c (se_int) (a_cons c (se_int) (sa_nil))))) (sa_nil))) (sa_nil))))))) (ss_cons (s_app c 1 (.inl rfl) (x_heard (ow:=[]) (kl:=6) c (c__law_heard T) (by decide) (by decide) TB ec hlm hlu (lamN_by (by rfl)) (.inl ⟨rfl,rfl⟩) (bd0 (by intro _ _ _ _ _ _; rfl)) (fun A outer s H E f c' c=>x_call c (c_rows_on T) (by decide) (a_cons c (se_int) (a_cons c (se_tup (a_cons c (se_int) (a_cons c (se_int) (sa_nil)))) (a_cons c (se_tup (a_cons c (se_tup (a_cons c (se_str) (a_cons c (se_int) (a_cons c (se_int) (sa_nil))))) (a_cons c (se_tup (a_cons c (se_str) (a_cons c (se_bool) (a_cons c (se_bool) (sa_nil))))) (sa_nil)))) (sa_nil))))))) (ss_cons (s_app c 1 (.inl rfl) (x_call c (c_is_way T) (by decide) (a_cons c (se_int) (a_cons c (se_tup (a_cons c (se_int) (a_cons c (se_int) (sa_nil)))) (a_cons c (se_tup (a_cons c (se_int) (a_cons c (se_int) (sa_nil)))) (a_cons c (se_tup (a_cons c (se_tup (a_cons c (se_str) (a_cons c (se_bool) (a_cons c (se_int) (sa_nil))))) (sa_nil))) (sa_nil))))))) (ss_cons (s_app c 1 (.inl rfl) (x_heard (ow:=[]) (kl:=6) c (c__law_heard T) (by decide) (by decide) TB ec hlm hlu (lamN_by (by rfl)) (.inl ⟨rfl,rfl⟩) (bd0 (by intro _ _ _ _ _ _; rfl)) (fun A outer s H E f c' c=>x_len c (T.free 11) (a_cons c (x_call c (c_rows_on T) (by decide) (a_cons c (se_int) (a_cons c (se_tup (a_cons c (se_int) (a_cons c (se_int) (sa_nil)))) (a_cons c (x_times c (se_tup (a_cons c (se_tup (a_cons c (se_str) (a_cons c (se_int) (a_cons c (se_int) (sa_nil))))) (sa_nil))) (se_int)) (sa_nil))))) (sa_nil))))) (ss_cons (s_app c 1 (.inl rfl) (x_heard (ow:=[]) (kl:=6) c (c__law_heard T) (by decide) (by decide) TB ec hlm hlu (lamN_by (by rfl)) (.inl ⟨rfl,rfl⟩) (bd0 (by intro _ _ _ _ _ _; rfl)) (fun A outer s H E f c' c=>x_call c (c_rows_on T) (by decide) (a_cons c (se_int) (a_cons c (se_tup (a_cons c (se_int) (a_cons c (se_int) (sa_nil)))) (a_cons c (x_times c (se_tup (a_cons c (se_none) (sa_nil))) (se_int)) (sa_nil))))))) (ss_cons (s_set c 1 (.inl rfl) (x_add c (x_v c 1 (.inl rfl)) (se_lst (a_cons c (x_is c (x_call c (c_way_to T) (by decide) (a_cons c (se_int) (a_cons c (se_tup (a_cons c (se_int) (a_cons c (se_int) (sa_nil)))) (a_cons c (se_tup (a_cons c (se_int) (a_cons c (se_int) (sa_nil)))) (sa_nil))))) (se_none)) (a_cons c (x_call c (c_units T) (by decide) (a_cons c (se_int) (a_cons c (se_tup (a_cons c (se_int) (a_cons c (se_int) (sa_nil)))) (a_cons c (se_tup (a_cons c (se_int) (a_cons c (se_int) (sa_nil)))) (sa_nil))))) (a_cons c (x_call c (c_way_to T) (by decide) (a_cons c (se_int) (a_cons c (se_tup (a_cons c (se_int) (a_cons c (se_int) (sa_nil)))) (a_cons c (se_tup (a_cons c (se_int) (a_cons c (se_int) (sa_nil)))) (sa_nil))))) (sa_nil))))))) (ss_cons (s_set c 2 (.inl rfl) (se_lst (a_cons c (se_int) (a_cons c (se_tup (a_cons c (se_tup (a_cons c (se_int) (a_cons c (se_int) (a_cons c (se_int) (sa_nil))))) (a_cons c (se_tup (a_cons c (se_int) (a_cons c (se_int) (a_cons c (se_int) (sa_nil))))) (a_cons c (se_tup (a_cons c (se_int) (a_cons c (se_int) (a_cons c (se_int) (sa_nil))))) (sa_nil))))) (a_cons c (se_int) (a_cons c (se_tup (a_cons c (se_str) (a_cons c (se_int) (sa_nil)))) (a_cons c (se_tup (a_cons c (se_str) (a_cons c (se_int) (sa_nil)))) (a_cons c (se_tup (a_cons c (se_str) (a_cons c (se_int) (sa_nil)))) (a_cons c (se_tup (a_cons c (se_str) (a_cons c (se_int) (sa_nil)))) (a_cons c (se_bool) (a_cons c (se_lst (a_cons c (se_int) (sa_nil))) (a_cons c (se_tup (a_cons c (se_str) (a_cons c (se_int) (sa_nil)))) (sa_nil))))))))))))) (ss_cons (s_set c 2 (.inl rfl) (x_add c (x_v c 2 (.inl rfl)) (se_lst (a_cons c (se_bool) (a_cons c (se_int) (a_cons c (se_none) (sa_nil))))))) (ss_cons (ss_frz (i:=2) (ss_frz (i:=1) (ss_ret (x_and c (x_call c (c__law_like T) (by decide) (a_cons c (x_v c 1 (.inl rfl)) (a_cons c (x_v c 2 (.inl rfl)) (sa_nil)))) (se_one (x_call c (c__law_goal_right T) (by decide) (a_cons c (se_int) (a_cons c (se_tup (a_cons c (se_int) (a_cons c (se_int) (a_cons c (se_int) (a_cons c (se_int) (a_cons c (se_int) (sa_nil))))))) (a_cons c (se_tup (a_cons c (se_int) (a_cons c (se_int) (a_cons c (se_int) (a_cons c (se_int) (a_cons c (se_int) (sa_nil))))))) (sa_nil)))))))))) (ss_nil)))))))))))))))
abbrev s_law:Stmt:=top 53
abbrev M_law_0:EM:=mLc (mRange1 (mVar 3)) (.nm 6) none (mBin fAdd (mBin fDiv (mCallB (f1 gSum) (mCons (mVar 4) (mNil))) (mVar 3)) (mIf (mCmpB (fCm iLt) (mVar 6) (mBin fMod (mCallB (f1 gSum) (mCons (mVar 4) (mNil))) (mVar 3))) (mC (.int 1)) (mC (.int 0)))) [6]
abbrev L_law_1:SM:=sSeq (sSet 3 (mBin fAdd (mC (.int 2)) (mCall 2 f__law_draw [] (mCons (mVar 1) (mCons (mC (.int 4)) (mNil)))))) (sSeq (sSet 4 (mCall 2 f__law_row [] (mCons (mVar 1) (mCons (mVar 3) (mNil))))) (sSeq (sIf (mNotB (mTru (mCall 3 f__law_goal_right [] (mCons (mVar 3) (mCons (mVar 4) (mCons (mCall 3 f__law_near_row [] (mCons (mVar 1) (mCons (mVar 3) (mCons (mVar 4) (mNil))))) (mNil))))))) (sSeq (sRet (mC (.bool false))) (sSkip)) (sSkip)) (sSeq (sIf (mOrB (mNotB (mTru (mCall 3 f__law_goal_right [] (mCons (mVar 3) (mCons (mVar 4) (mCons (mCall 2 f__law_row [] (mCons (mVar 1) (mCons (mVar 3) (mNil)))) (mNil))))))) (mNotB (mTru (mCall 3 f__law_ways_right [] (mCons (mVar 1) (mCons (mVar 3) (mCons (mVar 4) (mNil)))))))) (sSeq (sRet (mC (.bool false))) (sSkip)) (sSkip)) (sSeq (sSet 5 (M_law_0)) (sSeq (sIf (mNotB (mTru (mCall 3 f__law_goal_right [] (mCons (mVar 3) (mCons (mVar 4) (mCons (mCallB fTuple (mCons (mVar 5) (mNil))) (mNil))))))) (sSeq (sRet (mC (.bool false))) (sSkip)) (sSkip)) (sSkip))))))
def m_law:SM:=sSeq (sSet 1 (mCall 1 f__law_begin [] (mCons (mVar 0) (mNil)))) (sSeq (sFor (mRange1 (mBin fAdd (mC (.int 2)) (mCallB (f2 gMin) (mCons (mCallB (f1 gLen) (mCons (mVar 0) (mNil))) (mCons (mC (.int 2)) (mNil)))))) (.nm 2) (L_law_1)) (sSeq (sRet (mAnd (mCall 2 f__law_refused_right [] (mCons (mVar 3) (mCons (mVar 4) (mNil)))) (mCall 0 f__law_by_hand [] mNil))) (sSkip)))
def f_law:FM:=runM m_law 7
omit [Tbs] in theorem u_law (rs:List Rv) (t:Option DS):f_law rs t = runM m_law 7 rs t:=rfl
theorem b_law {P:Program} {w:World} {K:PySem.W.Frag} {mg:Str → Option Value} {base:Heap} (T:Tx K mg base) {cdv:Value} {A:Around} {outer:List Env} {s:Shared} {H:Hp} {E:XK} (c:Ct (cxG P w K mg base ["_law_script", "_law_state", "_law_lap", "_law_n", "_law_start", "_law_level", "_law_item"] "law" (L2.defScope s_law) (He.ga K "law") cdv A outer s H E) (xP K mg E) 10) (ca:CodeAt K (He.ga K "law") cdv) :
    SSs (cxG P w K mg base ["_law_script", "_law_state", "_law_lap", "_law_n", "_law_start", "_law_level", "_law_item"] "law" (L2.defScope s_law) (He.ga K "law") cdv A outer s H E) (xP K mg E) (L2.defBody s_law) m_law:=
  (ss_cons (s_set c 1 (.inl rfl) (x_call c (c__law_begin T) (by decide) (a_cons c (x_v c 0 (.inl rfl)) (sa_nil)))) (ss_cons (s_for c (i_r1 c (T.free 12) (x_add c (se_int) (x_min c (T.free 60) (a_cons c (x_len c (T.free 11) (a_cons c (x_v c 0 (.inl rfl)) (sa_nil))) (a_cons c (se_int) (sa_nil)))))) (g_nm c 2 (.inl rfl) (.inl rfl)) (ss_cons (s_set c 3 (.inr rfl) (x_add c (se_int) (x_call c (c__law_draw T) (by decide) (a_cons c (x_v c 1 (.inl rfl)) (a_cons c (se_int) (sa_nil)))))) (ss_cons (s_set c 4 (.inr rfl) (x_call c (c__law_row T) (by decide) (a_cons c (x_v c 1 (.inl rfl)) (a_cons c (x_v c 3 (.inr (.inl rfl))) (sa_nil))))) (ss_cons (ss_if (sb_not (b_tr c (x_call c (c__law_goal_right T) (by decide) (a_cons c (x_v c 3 (.inr (.inl rfl))) (a_cons c (x_v c 4 (.inr (.inl rfl))) (a_cons c (x_call c (c__law_near_row T) (by decide) (a_cons c (x_v c 1 (.inl rfl)) (a_cons c (x_v c 3 (.inr (.inl rfl))) (a_cons c (x_v c 4 (.inr (.inl rfl))) (sa_nil))))) (sa_nil))))))) (ss_cons (ss_ret (se_bool)) (ss_nil)) (ss_nil)) (ss_cons (ss_if (SW.sb (sw_or (sb_not (b_tr c (x_call c (c__law_goal_right T) (by decide) (a_cons c (x_v c 3 (.inr (.inl rfl))) (a_cons c (x_v c 4 (.inr (.inl rfl))) (a_cons c (x_call c (c__law_row T) (by decide) (a_cons c (x_v c 1 (.inl rfl)) (a_cons c (x_v c 3 (.inr (.inl rfl))) (sa_nil)))) (sa_nil))))))) (sw_or1 (sb_not (b_tr c (x_call c (c__law_ways_right T) (by decide) (a_cons c (x_v c 1 (.inl rfl)) (a_cons c (x_v c 3 (.inr (.inl rfl))) (a_cons c (x_v c 4 (.inr (.inl rfl))) (sa_nil)))))))))) (ss_cons (ss_ret (se_bool)) (ss_nil)) (ss_nil)) (ss_cons (s_setLc c 5 [("_law_item",6)] rfl (i_r1 c (T.free 12) (x_v c 3 (.inr (.inl rfl)))) (blk_of (by rfl)) (fun s H C cl fp c=>⟨g_nm c 6 (.inl rfl) (.inr rfl),pts_nil,x_add c (x_div c (x_sum c (T.free 24) (a_cons c (x_v c 4 (.inr (.inl rfl))) (sa_nil))) (x_v c 3 (.inr (.inl rfl)))) (se_if (b_lt c (x_v c 6 (.inl rfl)) (x_mod c (x_sum c (T.free 24) (a_cons c (x_v c 4 (.inr (.inl rfl))) (sa_nil))) (x_v c 3 (.inr (.inl rfl))))) (se_int) (se_int))⟩)) (ss_cons (ss_if (sb_not (b_tr c (x_call c (c__law_goal_right T) (by decide) (a_cons c (x_v c 3 (.inr (.inl rfl))) (a_cons c (x_v c 4 (.inr (.inl rfl))) (a_cons c (x_tuple c (T.free 8) (a_cons c (x_v c 5 (.inl rfl)) (sa_nil))) (sa_nil))))))) (ss_cons (ss_ret (se_bool)) (ss_nil)) (ss_nil)) (ss_nil)))))))) (ss_cons (ss_ret (x_and c (x_call c (c__law_refused_right T) (by decide) (a_cons c (x_v c 3 (.inr (.inl rfl))) (a_cons c (x_v c 4 (.inr (.inl rfl))) (sa_nil)))) (se_one (x_call0 c (c__law_by_hand T) (by decide))))) (ss_nil))))
theorem sc_law:FnScope ["_law_script", "_law_state", "_law_lap", "_law_n", "_law_start", "_law_level", "_law_item"] ["_law_script"] (L2.defScope s_law):=⟨rfl,rfl,rfl,by decide +kernel,rfl,by decide +kernel,by decide +kernel⟩
theorem g_law {P:Program} {w:World} {K:PySem.W.Frag} {mg:Str → Option Value} {base:Heap} {fd:FuncData} (T:Tx K mg base) (F:FunD K "law" "law" (L2.defArgs s_law) (L2.defBody s_law) (L2.defScope s_law) [] [] (He.ga K "law") fd):FnG P w K mg base 11 (He.ga K "law") fd ["_law_script"] (spM K mg 1 f_law):=
  fnM (N:=["_law_script", "_law_state", "_law_lap", "_law_n", "_law_start", "_law_level", "_law_item"]) (ps:=["_law_script"]) (m:=m_law) F sc_law (by decide) (fun hr hg ca=>b_law T (ct_body sc_law hr hg) ca)
end G
end
section
set_option maxHeartbeats 0
open PySem PySem.W PySem.Calls PyProof.Rows
theorem G.holds (law:∀ (_:DL.Tbs) (ns:List Int),ns.length ≤ 63 → ∃ t',G.f_law [.d (.list (ns.map .int))] none = .ok (.d (.bool true)) t'):PySem.Challenge.rw_unithouse_k36_ways_and_units.Holds:=by
  w_on; o_law
  refine HandSHeadRun.head_any (r:=G.R) (q:=view G.R.prog [53]) (H:=G.hk) (ob:=G.ob) (M:=2820) (loose:=G.loose) (d:=HandSHeadRun.topDef G.R.prog 53) (kwd:=[]) DL.obT_eq
    (by kernel_rfl) (fun s=>by kernel_rfl) G.run (by kernel_rfl) (by kernel_rfl) (by kernel_rfl) (by rfl) (by first | assumption | decide +kernel) (by decide +kernel) ⟨rfl,rfl,rfl,rfl,rfl,by decide +kernel⟩ ?hw ?hc
  case hw=>w_witness2
  case hc =>
    exact DL.walkC (l:=PySem.Challenge.rw_unithouse_k36_ways_and_units) (n:=63) (k:=11) (z := "_law_script") (i:=40) (f:=G.f_law) rfl (by decide) (by kernel_rfl) ⟨rfl,by decide,by decide⟩ (by kernel_rfl) rfl (List.mem_of_getElem? (i:=61) rfl)
      (fun _ _ _ _ _ _ us hl=>match us,hl with | [_],_=>rfl) law (fun I w K mg base fd T F=>G.g_law T F)
end
section
namespace G
open PySem PySem.Spec PyProof.Rows L2 DL
theorem loop_inv {pt:Pt} {body:SM} {items:List D} {I:Nat → Gm → Option DS → Prop} (h:∀ i x G t,items[i]? = some x → I i G t → ∃ G1 G2 t2,asg pt x G = some G1 ∧ body G1 t = .nx G2 t2 ∧ I (i + 1) G2 t2) {G:Gm} {t:Option DS} (h0:I 0 G t) :
    ∃ G' t',loop pt body items G t = .nx G' t' ∧ I items.length G' t':=by
  have key:∀ (k:Nat) (l:List D) (G:Gm) (t:Option DS),items.drop k = l → k ≤ items.length → I k G t → ∃ G' t',loop pt body l G t = .nx G' t' ∧ I items.length G' t':=by
    intro k l
    induction l generalizing k with
    | nil =>
      intro G t e hk i
      have:items.length ≤ k:=List.drop_eq_nil_iff.mp e
      rw [show k = items.length by omega] at i
      exact ⟨G,t,rfl,i⟩
    | cons x l ih =>
      intro G t e hk i
      have hx:items[k]? = some x:=by rw [← Nat.add_zero k,← List.getElem?_drop,e]; rfl
      have hlt:k < items.length:=by
        rcases Nat.lt_or_ge k items.length with z | z
        · exact z
        · rw [List.getElem?_eq_none z] at hx; cases hx
      obtain ⟨G1,G2,t2,a1,a2,a3⟩:=h k x G t hx i
      have e2:items.drop (k + 1) = l:=by rw [← List.drop_drop,e]; rfl
      obtain ⟨G',t',b1,b2⟩:=ih (k + 1) G2 t2 e2 (by omega) a3
      refine ⟨G',t',?_,b2⟩
      show (match asg pt x G with | none=>So.stuck | some G1=>_) = _
      rw [a1]
      show (match body G1 t with | .nx G2 t2=>loop pt body l G2 t2 | .ct G2 t2=>loop pt body l G2 t2 | .bk G2 t2=>.nx G2 t2 | o=>o) = _
      rw [a2]
      exact b1
  exact key 0 items G t rfl (Nat.zero_le _) h0
theorem lc_ok {pt:Pt} {cs:Option BM} {elt:EM} {G0:Gm} {t:Option DS} {p:D → Bool} {f:D → D}:∀ {items acc:List D},acc.length + items.length ≤ 16777216 →
    (∀ x ∈ items,∃ G1,asg pt x G0 = some G1 ∧ cst cs G1 t = .ok (p x) t ∧ (p x = true → (elt G1 t).fz = .ok (.d (f x)) t)) → lcLoop pt cs elt G0 items acc t = .ok (.l (acc ++ (items.filter p).map f)) t
  | [],acc,_,_=>by simp [lcLoop]
  | x :: xs,acc,hl,h=>by
    obtain ⟨G1,a1,a2,a3⟩:=h x List.mem_cons_self
    have hl':acc.length + xs.length + 1 ≤ 16777216:=by simpa [Nat.add_assoc] using hl
    simp only [lcLoop,a1]
    simp only [a2,Rs.bind]
    cases hp:p x with
    | true =>
      simp only [a3 hp,Rs.nox,if_true]
      rw [if_pos (by omega),lc_ok (by simp; omega) fun y hy=>h y (List.mem_cons_of_mem _ hy)]
      simp [hp]
    | false =>
      simp only [Bool.false_eq_true,if_false]
      rw [lc_ok (by omega) fun y hy=>h y (List.mem_cons_of_mem _ hy)]
      simp [hp]
theorem mulOk_of {i j:Int} (hi:i.natAbs < 2 ^ 1000) (hj:j.natAbs < 2 ^ 1000):mulOk i j = true:=by
  have b:∀ {n:Nat},n < 2 ^ 1000 → n.log2 < 1000:=fun {n} h=>by
    rcases Nat.eq_zero_or_pos n with z | z
    · subst z; decide
    · exact (Nat.log2_lt (by omega)).mpr h
  exact decide_eq_true (by have:=b hi; have:=b hj; omega)
theorem e_from (a b c:Int) (t:Option DS):f_is_from [.d (.int a),.d (.int b),.d (.int c)] t = .ok (.d (.bool (decide (b ≤ a) && decide (a ≤ c)))) t:=by
  unfold f_is_from
  by_cases h1:b ≤ a <;> by_cases h2:a ≤ c <;> simp [m_is_from,runM,argsG,Rv.arg,sSeq,sRet,sSet,sIf,sFor,sFrz,sExpr,sSkip,sApp,sRaise,mVar,mC,mBin,mCall,mCallK,mCallB,mCons,mNil,mTup,mLst,mAnd,mNot,mIsi,mChain,mIf,mNotB,mTru,mCmpB,mBl,mOrB,mAndB,mNeg,mRange1,rng1,mSeq,mZip,mSl,mPart,partI,Rs.bind,Rs.bindS,Rs.of,Rs.fz,Rv.fz,Rv.toD,Rv.truth,Rv.bl,Rv.sl,Rv.seq,Rv.items,Rv.tup,dats,f1,f2,fRead,fI,fCm,gCmp,iLt,iLe,iGt,iGe,gLen,gInt,gMin,gMax,gAbs,fAdd,fSub,fMul,fMod,fDiv,fCat,fCatT,fCatStr,isiOk,isiB,tyName,h1,h2]
theorem e_many (n:Int) (h:2 ≤ n ∧ n ≤ 5) (t:Option DS):f_need_many [.d (.int n)] t = .ok (.d (.int n)) t:=by
  have e:=e_from n 2 5 t
  simp only [h.1,h.2,decide_true,Bool.and_self] at e
  unfold f_need_many
  simp [m_need_many,runM,argsG,Rv.arg,sSeq,sRet,sSet,sIf,sFor,sFrz,sExpr,sSkip,sApp,sRaise,mVar,mC,mBin,mCall,mCallK,mCallB,mCons,mNil,mTup,mLst,mAnd,mNot,mIsi,mChain,mIf,mNotB,mTru,mCmpB,mBl,mOrB,mAndB,mNeg,mRange1,rng1,mSeq,mZip,mSl,mPart,partI,Rs.bind,Rs.bindS,Rs.of,Rs.fz,Rv.fz,Rv.toD,Rv.truth,Rv.bl,Rv.sl,Rv.seq,Rv.items,Rv.tup,dats,f1,f2,fRead,fI,fCm,gCmp,iLt,iLe,iGt,iGe,gLen,gInt,gMin,gMax,gAbs,fAdd,fSub,fMul,fMod,fDiv,fCat,fCatT,fCatStr,isiOk,isiB,tyName,e]
def mix (c k:Int):Int:=((((c.fmod 2147483647) * (48271 + 2 * k * k) + 69621 * k + 11).fmod 2147483647) * 69621).fmod 2147483629
theorem e_mixed (c k:Int) (h0:0 ≤ k) (h1:k < 2 ^ 60) (t:Option DS):f__law_mixed [.d (.int c),.d (.int k)] t = .ok (.d (.int (mix c k))) t:=by
  have m1:mulOk 2 k = true:=mulOk_of (by decide) (by omega)
  have kk:(2 * k * k).natAbs < 2 ^ 130:=by
    rw [Int.natAbs_mul,Int.natAbs_mul]
    have:k.natAbs < 2 ^ 60:=by omega
    calc _ ≤ (2 * 2 ^ 60) * 2 ^ 60:=Nat.mul_le_mul (Nat.mul_le_mul (by decide) (by omega)) (by omega)
      _ < 2 ^ 130:=by decide
  have m2:mulOk (2 * k) k = true:=mulOk_of (by omega) (by omega)
  have b1:0 ≤ c.fmod 2147483647 ∧ c.fmod 2147483647 < 2147483647:=⟨Int.fmod_nonneg_of_pos _ (by decide),Int.fmod_lt_of_pos _ (by decide)⟩
  have m3:mulOk (c.fmod 2147483647) (48271 + 2 * k * k) = true:=mulOk_of (by omega) (by omega)
  have m4:mulOk 69621 k = true:=mulOk_of (by decide) (by omega)
  generalize hz:(c.fmod 2147483647) * (48271 + 2 * k * k) + 69621 * k + 11 = z
  have b2:0 ≤ z.fmod 2147483647 ∧ z.fmod 2147483647 < 2147483647:=⟨Int.fmod_nonneg_of_pos _ (by decide),Int.fmod_lt_of_pos _ (by decide)⟩
  have m5:mulOk (z.fmod 2147483647) 69621 = true:=mulOk_of (by omega) (by decide)
  unfold f__law_mixed
  simp [m__law_mixed,runM,argsG,Rv.arg,sSeq,sRet,sSet,sIf,sFor,sFrz,sExpr,sSkip,sApp,sRaise,mVar,mC,mBin,mCall,mCallK,mCallB,mCons,mNil,mTup,mLst,mAnd,mNot,mIsi,mChain,mIf,mNotB,mTru,mCmpB,mBl,mOrB,mAndB,mNeg,mRange1,rng1,mSeq,mZip,mSl,mPart,partI,Rs.bind,Rs.bindS,Rs.of,Rs.fz,Rv.fz,Rv.toD,Rv.truth,Rv.bl,Rv.sl,Rv.seq,Rv.items,Rv.tup,dats,f1,f2,fRead,fI,fCm,gCmp,iLt,iLe,iGt,iGe,gLen,gInt,gMin,gMax,gAbs,fAdd,fSub,fMul,fMod,fDiv,fCat,fCatT,fCatStr,isiOk,isiB,tyName,m1,m2,m3,m4,hz,m5,mix]
theorem mix_le (c k:Int):0 ≤ mix c k ∧ mix c k < 2147483629:=⟨Int.fmod_nonneg_of_pos _ (by decide),Int.fmod_lt_of_pos _ (by decide)⟩
theorem seq_nx {a b:SM} {G G1:Gm} {t t1:Option DS} (h:a G t = .nx G1 t1):sSeq a b G t = b G1 t1:=by
  unfold sSeq
  rw [h]
theorem seq_rt {a b:SM} {G:Gm} {x:D} {t t1:Option DS} (h:a G t = .rt x t1):sSeq a b G t = .rt x t1:=by
  unfold sSeq
  rw [h]
theorem for_nx {im:IM} {pt:Pt} {body:SM} {G G':Gm} {t t1 t':Option DS} {items:List D} (h1:im G t = .ok items t1) (h2:loop pt body items G t1 = .nx G' t'):sFor im pt body G t = .nx G' t':=by
  unfold sFor
  rw [h1]
  exact h2
theorem run_rt {m:SM} {n:Nat} {rs:List Rv} {t t':Option DS} {G:Gm} {x:D} (h:argsG rs = some G) (h2:m (G ++ List.replicate (n - G.length) .un) t = .rt x t'):runM m n rs t = .ok (.d x) t':=by
  unfold runM
  simp only [h,h2]
theorem run_ex {m:SM} {n:Nat} {rs:List Rv} {t t':Option DS} {G G':Gm} {c:Str} {fs:List (Str × D)} (h:argsG rs = some G) (h2:m (G ++ List.replicate (n - G.length) .un) t = .ex c fs G' t'):runM m n rs t = .ex c fs t':=by
  unfold runM
  simp only [h,h2]
structure Inv (m:Nat) (st:DS):Prop where
  ne:0 < st.cells.length
  le:st.lefts.length = st.cells.length
  p0:0 ≤ st.pos
  p1:st.pos ≤ m
theorem e_draw {m:Nat} {st:DS} (h:Inv m st) (hm:m ≤ 1000000) {l:Int} (l0:0 < l) (l1:l < 1073741824) :
    ∃ z st',f__law_draw [.s,.d (.int l)] (some st) = .ok (.d (.int z)) (some st') ∧ Inv (m + 1) st' ∧ 0 ≤ z ∧ z < l:=by
  obtain ⟨cs,ls,p,ac⟩:=st
  obtain ⟨ne,le,p0,p1⟩:=h
  dsimp only at ne le p0 p1
  have hl:(cs.length:Int) ≠ 0:=by omega
  have hcs:¬ cs = []:=fun z=>by rw [z] at ne; exact absurd ne (by decide)
  have j0:0 ≤ p.fmod cs.length:=Int.fmod_nonneg_of_pos _ (by omega)
  have j1:p.fmod cs.length < cs.length:=Int.fmod_lt_of_pos _ (by omega)
  obtain ⟨n,hn⟩:=Int.eq_ofNat_of_zero_le j0
  have nlt:n < cs.length:=by omega
  have a1:atI cs (n:Int) = some cs[n]:=atI_nat (List.getElem?_eq_getElem nlt)
  have a2:atI ls (n:Int) = some ls[n]:=atI_nat (List.getElem?_eq_getElem (by omega))
  have x1:ixN ls.length (n:Int) = some n:=by unfold ixN; simp; omega
  have d1:divOk ls[n] l = true:=by unfold divOk; simp; omega
  have l2:l ≠ 0:=by omega
  by_cases hz:0 < ls[n]
  · refine ⟨ls[n].fmod l,⟨cs,ls.set n (ls[n].fdiv l),p + 1,ac⟩,?_,⟨ne,by simpa using le,by show 0 ≤ p + 1; omega,by show p + 1 ≤ ((m + 1:Nat):Int); omega⟩,Int.fmod_nonneg_of_pos _ l0,Int.fmod_lt_of_pos _ l0⟩
    unfold f__law_draw
    simp [m__law_draw,runM,argsG,Rv.arg,sSeq,sRet,sSet,sIf,sFor,sFrz,sExpr,sSkip,sApp,sRaise,mVar,mC,mBin,mCall,mCallK,mCallB,mCons,mNil,mTup,mLst,mAnd,mNot,mIsi,mChain,mIf,mNotB,mTru,mCmpB,mBl,mOrB,mAndB,mNeg,mRange1,rng1,mSeq,mZip,mSl,mPart,partI,Rs.bind,Rs.bindS,Rs.of,Rs.fz,Rv.fz,Rv.toD,Rv.truth,Rv.bl,Rv.sl,Rv.seq,Rv.items,Rv.tup,dats,f1,f2,fRead,fI,fCm,gCmp,iLt,iLe,iGt,iGe,gLen,gInt,gMin,gMax,gAbs,fAdd,fSub,fMul,fMod,fDiv,fCat,fCatT,fCatStr,isiOk,isiB,tyName,mStAt,sStAt,mStLen,mStIx,sStPut,DS.lst,hl,hcs,hn,a2,hz,x1,d1,l2]
  · let u:=mix (mix cs[n] p) (40 + p)
    have b1:=mix_le (mix cs[n] p) (40 + p)
    have b2:=mix_le u (7 + p)
    have m1:mulOk (mix (mix cs[n] p) (40 + p)) 2147483647 = true:=mulOk_of (by omega) (by decide)
    have q1:=e_mixed cs[n] p p0 (by omega)
    have q2:=e_mixed (mix cs[n] p) (40 + p) (by omega) (by omega)
    have q3:=e_mixed (mix (mix cs[n] p) (40 + p)) (7 + p) (by omega) (by omega)
    have d2:∀ z,divOk z 64 = true:=fun z=>by unfold divOk; decide
    refine ⟨((u * 2147483647 + mix u (7 + p)).fdiv 64).fmod l,⟨cs,ls,p + 1,ac⟩,?_,⟨ne,le,by show 0 ≤ p + 1; omega,by show p + 1 ≤ ((m + 1:Nat):Int); omega⟩,Int.fmod_nonneg_of_pos _ l0,Int.fmod_lt_of_pos _ l0⟩
    unfold f__law_draw
    simp [m__law_draw,runM,argsG,Rv.arg,sSeq,sRet,sSet,sIf,sFor,sFrz,sExpr,sSkip,sApp,sRaise,mVar,mC,mBin,mCall,mCallK,mCallB,mCons,mNil,mTup,mLst,mAnd,mNot,mIsi,mChain,mIf,mNotB,mTru,mCmpB,mBl,mOrB,mAndB,mNeg,mRange1,rng1,mSeq,mZip,mSl,mPart,partI,Rs.bind,Rs.bindS,Rs.of,Rs.fz,Rv.fz,Rv.toD,Rv.truth,Rv.bl,Rv.sl,Rv.seq,Rv.items,Rv.tup,dats,f1,f2,fRead,fI,fCm,gCmp,iLt,iLe,iGt,iGe,gLen,gInt,gMin,gMax,gAbs,fAdd,fSub,fMul,fMod,fDiv,fCat,fCatT,fCatStr,isiOk,isiB,tyName,mStAt,sStAt,mStLen,mStIx,sStPut,DS.lst,hl,hcs,hn,a1,a2,hz,l2,q1,q2,q3,m1,d2,u]
theorem inv_more {m k:Nat} {st:DS} (h:Inv m st) (hk:m ≤ k):Inv k st:=⟨h.ne,h.le,h.p0,by have:=h.p1; omega⟩
theorem e_begin (ns:List Int) (h:ns.length ≤ 63):f__law_begin [.d (.list (ns.map .int))] none = .ok .s (some (begSt ns)) ∧ Inv 0 (begSt ns):=by
  refine ⟨?_,?_,by simp [begSt],by simp [begSt],by simp [begSt]⟩
  · unfold f__law_begin fBegin
    have e:dInts (ns.map .int) = some ns:=by
      clear h
      induction ns with
      | nil=>rfl
      | cons a l ih=>simp [dInts,ih]
    simp only [e]
    rw [if_pos (by omega)]
  · unfold begSt
    by_cases z:ns = []
    · simp [z]
    · simp [z]; exact List.length_pos_iff.mpr z
theorem rng_nat (n:Nat) (h:n ≤ 1000000):rngOk (n:Int) = true:=by
  unfold rngOk
  have h1:-(2 ^ 62:Int) ≤ (n:Int):=Int.le_trans (by decide) (Int.natCast_nonneg n)
  have h2:(n:Int) < 2 ^ 62:=Int.lt_of_le_of_lt (Int.ofNat_le.mpr h) (by decide)
  rw [decide_eq_true h1,decide_eq_true h2]
  rfl
theorem range_z {m:EM} {G:Gm} {t:Option DS} {z:Int} (h:m G t = .ok (.d (.int z)) t) (hz:rngOk z = true):mRange1 m G t = .ok (rangeD 0 z.toNat) t:=by
  have e:rng1 (.d (.int z)) = some (rangeD 0 z.toNat):=by
    show (if rngOk z then some (rangeD 0 z.toNat) else none) = _
    rw [if_pos hz]
  unfold mRange1
  rw [h]
  show Rs.of (rng1 (.d (.int z))) t = _
  rw [e]
  rfl
theorem range_ok {m:EM} {G:Gm} {t:Option DS} {n:Nat} (h:m G t = .ok (.d (.int n)) t) (hn:n ≤ 1000000):mRange1 m G t = .ok (rangeD 0 n) t:=by
  have e:=range_z h (rng_nat n hn)
  rw [Int.toNat_natCast] at e
  exact e
theorem rangeD_len (lo:Int) (n:Nat):(rangeD lo n).length = n:=by simp [rangeD]
theorem ret_ok {m:EM} {b:SM} {G:Gm} {t t1:Option DS} {x:D} (h:m G t = .ok (.d x) t1):sSeq (sRet m) b G t = .rt x t1:=by
  refine seq_rt ?_
  simp only [sRet,h,Rs.fz,Rs.bind,Rv.fz,Rs.bindS]
theorem if_no {c:BM} {a b:SM} {G:Gm} {t t1:Option DS} (h:c G t = .ok false t1):sIf c a b G t = b G t1:=by
  simp only [sIf,h,Rs.bindS,Bool.false_eq_true,if_false]
theorem if_yes {c:BM} {a b:SM} {G:Gm} {t t1:Option DS} (h:c G t = .ok true t1):sIf c a b G t = a G t1:=by
  simp only [sIf,h,Rs.bindS,if_true]
def J (k:Nat) (t:Option DS):Prop:=∃ st,t = some st ∧ Inv k st
theorem call2s {f:FM} {a b:EM} {G:Gm} {t t1 t2:Option DS} {y:D} (h1:a G t = .ok .s t1) (h2:b G t1 = .ok (.d y) t2):mCall 2 f [] (mCons a (mCons b mNil)) G t = f [.s,.d y] t2:=by
  simp only [mCall,mCons,mNil,h1,h2,Rs.bind,Rs.fz,Rv.fz,List.length_cons,List.length_nil,if_true,List.map_nil,List.append_nil]
theorem bin_ok {f:Rv → Rv → Option Rv} {a b:EM} {G:Gm} {t t1 t2:Option DS} {x y z:Rv} (h1:a G t = .ok x t1) (h2:b G t1 = .ok y t2) (hf:f x.fz y.fz = some z):mBin f a b G t = .ok z t2:=by
  simp only [mBin,h1,h2,Rs.fz,Rs.bind,hf,Rs.of]
theorem var_s {i:Nat} {G:Gm} {t:Option DS} (h:G[i]? = some .s):mVar i G t = .ok .s t:=by simp only [mVar,h]
theorem var_d {i:Nat} {G:Gm} {t:Option DS} {x:D} (h:G[i]? = some (.d x)):mVar i G t = .ok (.d x) t:=by simp only [mVar,h]
theorem m_draw {i:Nat} {b:EM} {G:Gm} {k:Nat} {t:Option DS} {l:Int} (hi:G[i]? = some .s) (hb:b G t = .ok (.d (.int l)) t) (hJ:J k t) (hk:k ≤ 1000000) (l0:0 < l) (l1:l < 1073741824) :
    ∃ z t1,mCall 2 f__law_draw [] (mCons (mVar i) (mCons b mNil)) G t = .ok (.d (.int z)) t1 ∧ J (k + 1) t1 ∧ 0 ≤ z ∧ z < l:=by
  obtain ⟨st,rfl,hI⟩:=hJ
  obtain ⟨z,st',e,i',z0,z1⟩:=e_draw hI hk l0 l1
  exact ⟨z,some st',(call2s (var_s hi) hb).trans e,⟨st',rfl,i'⟩,z0,z1⟩
theorem e_of {ds:List D} (h0:0 < ds.length) (h1:ds.length ≤ 1000) {k:Nat} {t:Option DS} (hJ:J k t) (hk:k ≤ 1000000):∃ x t1,f__law_of [.s,.d (.list ds)] t = .ok (.d x) t1 ∧ J (k + 1) t1 ∧ x ∈ ds:=by
  have e1:mCallB (f1 gLen) (mCons (mVar 1) mNil) [.s,.d (.list ds)] t = .ok (.d (.int ds.length)) t:=by
    simp only [mCallB,mCons,mNil,mVar,List.getElem?_cons_succ,List.getElem?_cons_zero,Rs.bind,Rs.fz,Rv.fz,f1,Rv.toD,Option.bind_some,gLen,Option.map_some,Rs.of]
  obtain ⟨z,t1,e,i,z0,z1⟩:=m_draw (G:=[.s,.d (.list ds)]) (i:=0) rfl e1 hJ hk (by omega) (by omega)
  obtain ⟨n,rfl⟩:=Int.eq_ofNat_of_zero_le z0
  have hn:n < ds.length:=by omega
  have a:atI ds (n:Int) = some ds[n]:=atI_nat (List.getElem?_eq_getElem hn)
  refine ⟨ds[n],t1,?_,i,List.getElem_mem hn⟩
  refine run_rt (G:=[.s,.d (.list ds)]) (m:=m__law_of) rfl ?_
  unfold m__law_of
  refine ret_ok (t1:=t1) ?_
  refine bin_ok (x:=.d (.list ds)) (y:=.d (.int (n:Int))) (t1:=t) (var_d rfl) e ?_
  show fIx (.d (.list ds)) (.d (.int n)) = _
  simp only [fIx,Rv.items,Option.bind_some,a,Option.map_some,Option.some_or]
theorem sif_no {c:BM} {a rest:SM} {G:Gm} {t t1:Option DS} (h:c G t = .ok false t1):sSeq (sIf c a sSkip) rest G t = rest G t1:=(seq_nx ((if_no h).trans rfl))
theorem frz_d {i:Nat} {m:SM} {G:Gm} {t:Option DS} {x:D} (hG:G[i]? = some (.d x)):sFrz i m G t = m G t:=by simp only [sFrz,hG]
theorem lc_st {pt:Pt} {elt:EM} {G0:Gm} {J:Nat → Option DS → Prop} {V:Int → Prop} {N:Nat}:∀ {items:List D} {acc:List Int} {k:Nat} {t:Option DS},acc.length + items.length ≤ 1000 → k + items.length ≤ N → J k t →
    (∀ x ∈ items,∃ G1,asg pt x G0 = some G1 ∧ ∀ k t,k < N → J k t → ∃ z t1,elt G1 t = .ok (.d (.int z)) t1 ∧ V z ∧ J (k + 1) t1) →
    ∃ zs t',lcLoop pt none elt G0 items (acc.map .int) t = .ok (.l ((acc ++ zs).map .int)) t' ∧ zs.length = items.length ∧ (∀ z ∈ zs,V z) ∧ J (k + items.length) t'
  | [],acc,k,t,_,_,hJ,_=>⟨[],t,by simp [lcLoop],rfl,(fun _ h=>nomatch h),hJ⟩
  | x :: xs,acc,k,t,hl,hk,hJ,h=>by
    obtain ⟨G1,a1,a2⟩:=h x List.mem_cons_self
    have hl':acc.length + xs.length + 1 ≤ 1000:=by simpa [Nat.add_assoc] using hl
    have hk':k + xs.length + 1 ≤ N:=by simpa [Nat.add_assoc] using hk
    obtain ⟨z,t1,b1,b2,b3⟩:=a2 k t (by omega) hJ
    obtain ⟨zs,t',c1,c2,c3,c4⟩:=lc_st (items:=xs) (acc:=acc ++ [z]) (k:=k + 1) (t:=t1) (by simp; omega) (by omega) b3 fun y hy=>h y (List.mem_cons_of_mem _ hy)
    refine ⟨z :: zs,t',?_,by simp [c2],fun y hy=>?_,by rw [List.length_cons,show k + (xs.length + 1) = k + 1 + xs.length by omega]; exact c4⟩
    · have hb:(acc.map PyData.int).length < 16777216:=by simp; omega
      simp only [lcLoop,a1,cst,Rs.bind,if_true,b1,Rs.fz,Rv.fz,Rs.nox,hb]
      have e:acc.map PyData.int ++ [.int z] = (acc ++ [z]).map .int:=by simp
      rw [e,c1]
      simp
    · rcases List.mem_cons.mp hy with rfl | hy
      · exact b2
      · exact c3 y hy
structure Sh (d:D) (m k:Nat):Prop where
  ok:d.showable = true
  dp:d.depth ≤ m
  len:d.shown.length ≤ k
  nd:d.hasDict = false
theorem sh_repr {d:D} {m k:Nat} (h:Sh d m k) (hm:m ≤ 64) (hk:k ≤ 16777216):gRepr d = some (.str d.shown):=by
  unfold gRepr
  rw [if_pos (by rw [h.nd,h.ok,decide_eq_true (Nat.le_trans h.dp hm),decide_eq_true (Nat.le_trans h.len hk)]; rfl)]
theorem log_lt {n:Nat} (h:n < 2 ^ 1000):n.log2 < 1000:=by
  rcases Nat.eq_zero_or_pos n with z | z
  · subst z; decide
  · exact (Nat.log2_lt (by omega)).mpr h
theorem sh_int {i:Int} (h:i.natAbs < 2 ^ 1000):Sh (.int i) 0 1001:=by
  have l:=log_lt h
  refine ⟨?_,Nat.le_refl _,?_,by simp [PyData.hasDict]⟩
  · simp only [PyData.showable]
    exact decide_eq_true (Nat.lt_trans l (by decide))
  · simp only [PyData.shown]
    have e:=int_text_length_le (a:=i) (k:=1000) (by decide) l
    rw [PySem.ofString_length]
    exact e
theorem sh_bool (b:Bool):Sh (.bool b) 0 5:=by cases b <;> exact ⟨rfl,Nat.le_refl _,by decide,by simp [PyData.hasDict]⟩
theorem sh_none:Sh .none 0 4:=⟨rfl,Nat.le_refl _,by decide,by simp [PyData.hasDict]⟩
theorem sh_all {xs:List D} {m k:Nat} (h:∀ x ∈ xs,Sh x m k):PyData.showableAll xs = true ∧ PyData.depthAll xs ≤ m ∧ piled (PyData.shownAll xs) ≤ (k + 2) * xs.length ∧ (PyData.shownAll xs).length = xs.length ∧ PyData.hasDictAll xs = false:=by
  induction xs with
  | nil=>exact ⟨rfl,Nat.zero_le _,Nat.zero_le _,rfl,by simp [PyData.hasDictAll]⟩
  | cons x xs ih =>
    obtain ⟨a,b,c,d,w⟩:=ih fun y hy=>h y (List.mem_cons_of_mem _ hy)
    obtain ⟨p,q,r,z⟩:=h x List.mem_cons_self
    refine ⟨?_,?_,?_,?_,by simp [PyData.hasDictAll,z,w]⟩
    · simp only [PyData.showableAll,p,a,Bool.and_self]
    · simp only [PyData.depthAll]; omega
    · simp only [PyData.shownAll,piled_cons,List.length_cons,Nat.mul_succ]; omega
    · simp only [PyData.shownAll,List.length_cons,d]
theorem sh_tuple {xs:List D} {m k n:Nat} (h:∀ x ∈ xs,Sh x m k) (hn:(k + 2) * xs.length + 5 ≤ n):Sh (.tuple xs) (m + 1) n:=by
  obtain ⟨a,b,c,d,w⟩:=sh_all h
  refine ⟨by simpa only [PyData.showable] using a,by simp only [PyData.depth]; omega,?_,by simpa [PyData.hasDict] using w⟩
  simp only [PyData.shown,tupleText]
  rw [strLen_append,strLen_append]
  have e1:((("(" : String):Str)).length = 1:=rfl
  have e2:∀ b:Bool,((if b then ",)" else ")" : String):Str).length ≤ 2:=fun b=>by cases b <;> decide
  have e3:(Str.join ", " (PyData.shownAll xs)).length ≤ piled (PyData.shownAll xs):=by
    by_cases z:PyData.shownAll xs = []
    · rw [z]; exact Nat.zero_le _
    · have:=join_length_add _ z; omega
  have e4:=e2 ((PyData.shownAll xs).length == 1)
  omega
theorem sh_list {xs:List D} {m k n:Nat} (h:∀ x ∈ xs,Sh x m k) (hn:(k + 2) * xs.length + 5 ≤ n):Sh (.list xs) (m + 1) n:=by
  obtain ⟨a,b,c,d,w⟩:=sh_all h
  refine ⟨by simpa only [PyData.showable] using a,by simp only [PyData.depth]; omega,?_,by simpa [PyData.hasDict] using w⟩
  simp only [PyData.shown,listText]
  rw [strLen_append]
  have e1:((("]" : String):Str)).length = 1:=rfl
  have e2:((("[" : String):Str)).length = 1:=rfl
  have e3:(textFrom 0 "[" (PyData.shownAll xs)).length ≤ 1 + piled (PyData.shownAll xs):=by
    cases hz:PyData.shownAll xs with
    | nil=>exact Nat.le_refl _
    | cons t ts =>
      show (textFrom 1 ("[" ++ (if 0 > 0 then ", " else "" : String) ++ t) ts).length ≤ _
      rw [textFrom_length_pos ts 1 _ (by decide),strLen_append,strLen_append,piled_cons]
      have e4:(((if 0 > 0 then ", " else "" : String):Str)).length = 0:=rfl
      omega
  omega
theorem sh_int_small {i:Int} (h:i.natAbs ≤ 1000):Sh (.int i) 0 1001:=sh_int (Nat.lt_of_le_of_lt h (by decide))
theorem sh_ints {ws:List Int} (h:∀ w ∈ ws,w.natAbs ≤ 1000):∀ x ∈ ws.map PyData.int,Sh x 0 1001:=fun x hx=>by
  obtain ⟨w,hw,rfl⟩:=List.mem_map.mp hx
  exact sh_int_small (h w hw)
def fromD:D → Int → Int → Bool
  | .int i,a,b=>decide (a ≤ i) && decide (i ≤ b)
  | _,_,_=>false
theorem e_fromD (x:D) (a c:Int) (t:Option DS):f_is_from [.d x,.d (.int a),.d (.int c)] t = .ok (.d (.bool (fromD x a c))) t:=by
  cases x with
  | int i=>exact e_from i a c t
  | none=>rfl
  | bool b=>rfl
  | str s=>rfl
  | list l=>rfl
  | tuple l=>rfl
  | dict l=>rfl
theorem loop_nx {pt:Pt} {body:SM} {x:D} {xs:List D} {G G1 G2:Gm} {t t2:Option DS} (h1:asg pt x G = some G1) (h2:body G1 t = .nx G2 t2):loop pt body (x :: xs) G t = loop pt body xs G2 t2:=by
  show (match asg pt x G with | none=>So.stuck | some G1=>_) = _
  rw [h1]
  show (match body G1 t with | .nx G2 t2=>loop pt body xs G2 t2 | .ct G2 t2=>loop pt body xs G2 t2 | .bk G2 t2=>.nx G2 t2 | o=>o) = _
  rw [h2]
theorem loop_ex {pt:Pt} {body:SM} {x:D} {xs:List D} {G G1 G2:Gm} {t t2:Option DS} {c:Str} {fs:List (Str × D)} (h1:asg pt x G = some G1) (h2:body G1 t = .ex c fs G2 t2):loop pt body (x :: xs) G t = .ex c fs G2 t2:=by
  show (match asg pt x G with | none=>So.stuck | some G1=>_) = _
  rw [h1]
  show (match body G1 t with | .nx G2 t2=>loop pt body xs G2 t2 | .ct G2 t2=>loop pt body xs G2 t2 | .bk G2 t2=>.nx G2 t2 | o=>o) = _
  rw [h2]
theorem rng_loop {pt:Pt} {body:SM} {n:Nat} {I:Nat → Gm → Option DS → Prop} (h:∀ i G t,i < n → I i G t → ∃ G1 G2 t2,asg pt (.int (i:Int)) G = some G1 ∧ body G1 t = .nx G2 t2 ∧ I (i + 1) G2 t2) {G:Gm} {t:Option DS} (h0:I 0 G t) :
    ∃ G' t',loop pt body (rangeD 0 n) G t = .nx G' t' ∧ I n G' t':=by
  have e:=loop_inv (pt:=pt) (body:=body) (items:=rangeD 0 n) (I:=I) (fun i x G t hx hI=>by
    have hi:i < n:=by
      rcases Nat.lt_or_ge i n with z | z
      · exact z
      · rw [List.getElem?_eq_none (by rw [rangeD_len]; exact z)] at hx; cases hx
    have ex:x = .int (i:Int):=by
      unfold rangeD at hx
      rw [List.getElem?_map,List.getElem?_range hi] at hx
      cases hx
      show PyData.int (0 + (i:Int)) = _
      rw [Int.zero_add]
    subst ex
    exact h i G t hi hI) h0
  rw [rangeD_len] at e
  exact e
def smP (p:List Int):Prop:=∀ i ∈ p,i.natAbs ≤ 1000
theorem sh_tupI {p:List Int} (h:smP p) (hl:p.length ≤ 12):Sh (tupI p) 1 20000:=by
  have:=sh_tuple (n:=20000) (sh_ints h) (by rw [List.length_map]; omega)
  exact this
end G
end
local macro_rules | `(tactic| simp! [$xs,*])=>`(tactic| simp only [DL.gix_0,DL.gix_s,DL.gst_0,DL.gst_s,DL.fz_d,DL.fz_l,DL.fz_b,DL.fz_s,DL.fz_a,DL.of_some,DL.map_some,DL.bind_some,DL.or_some,DL.or_none,DL.map_none,DL.bind_none,DL.not_t,DL.not_f,DL.dec_t,DL.dec_f,DL.if_t,DL.if_f,DL.ap_var,DL.rv_d,DL.rv_l,DL.rv_s,DL.rv_a,DL.ap_c,DL.ap_bin,DL.b1_ok,DL.b1_ex,DL.b2_ok,DL.b2_ex,DL.ap_cmpB,DL.ap_bl,DL.cb_ok,DL.cb_ex,DL.ap_tru,DL.tru_bool,DL.tru_int,DL.tru_none,DL.tru_tup,DL.tru_lst,DL.tru_b,DL.tru_l,DL.tru_ex,DL.ap_notB,DL.nt_ok,DL.nt_ex,DL.ap_andB,DL.an_t,DL.an_f,DL.an_ex,DL.ap_orB,DL.oo_t,DL.oo_f,DL.oo_ex,DL.ap_and,DL.ap_or,DL.vn_t,DL.vn_f,DL.vo_t,DL.vo_f,DL.vo_tup0,DL.vo_none,DL.vo_tup,DL.vn_ex,DL.vo_ex,DL.ap_not,DL.nv_b,DL.ap_ife,DL.ife_t,DL.ife_f,DL.ife_ex,DL.ap_neg,DL.ng_ok,DL.ap_nil,DL.ap_cons,DL.c1_ok,DL.c1_ex,DL.c2_ok,DL.c2_ex,DL.dats_nil,DL.dats_cons,DL.ap_tup,DL.ap_lst,DL.tp_ex,DL.ls_ex,DL.tp_0,DL.tp_1,DL.tp_2,DL.tp_3,DL.tp_4,DL.ls_0,DL.ls_1,DL.ls_2,DL.ls_3,DL.ls_4,DL.ls_5,DL.ls_6,DL.ls_7,DL.ls_8,DL.ap_call,DL.cal_ex,DL.cal_0,DL.cal_1,DL.cal_2,DL.cal_3,DL.cal_4,DL.cal_5,DL.cal_6,DL.ap_callB,DL.cB_ok,DL.cB_ex,DL.f1_d,DL.f1_b,DL.f2_d,DL.len_t,DL.len_l,DL.max_i,DL.min_i,DL.int_i,DL.abs_i,DL.ftup_l,DL.ftup_b,DL.ftup_t,DL.flst_l,DL.flst_b,DL.flst_t,DL.add_i,DL.sub_i,DL.mul_i,DL.div_i,DL.mod_i,DL.add_t,DL.add_bl,DL.add_ll,DL.add_bb,DL.add_lb,DL.cm_i,DL.lt_u,DL.le_u,DL.gt_u,DL.ge_u,DL.eq_i,DL.ne_i,DL.eq_s,DL.ne_s,DL.is_nn,DL.is_tn,DL.is_in,DL.is_sn,DL.is_ln,DL.is_bn,DL.is_bb,DL.isn_nn,DL.isn_tn,DL.isn_in,DL.isn_sn,DL.isn_ln,DL.isn_bn,DL.isn_bb,DL.ix_t,DL.ix_l,DL.ix_b,DL.at_0,DL.at_1,DL.at_2,DL.at_3,DL.at_4,DL.ap_isi,DL.ki_int,DL.ki_bool,DL.ki_str,DL.ki_tuple,DL.ki_list,DL.ki_lb,DL.ki_tb,DL.kd_int_NoneType,DL.kd_int_bool,DL.kd_int_int,DL.kd_int_str,DL.kd_int_list,DL.kd_int_tuple,DL.kd_bool_NoneType,DL.kd_bool_bool,DL.kd_bool_int,DL.kd_bool_str,DL.kd_bool_list,DL.kd_bool_tuple,DL.kd_str_NoneType,DL.kd_str_bool,DL.kd_str_int,DL.kd_str_str,DL.kd_str_list,DL.kd_str_tuple,DL.kd_tuple_NoneType,DL.kd_tuple_bool,DL.kd_tuple_int,DL.kd_tuple_str,DL.kd_tuple_list,DL.kd_tuple_tuple,DL.kd_list_NoneType,DL.kd_list_bool,DL.kd_list_int,DL.kd_list_str,DL.kd_list_list,DL.kd_list_tuple,DL.ap_seq,DL.sq_nx,DL.sq_rt,DL.sq_bk,DL.sq_ct,DL.sq_ex,DL.ap_skip,DL.ap_break,DL.ap_cont,DL.ap_retN,DL.ap_expr,DL.xp_ok,DL.xp_ex,DL.ap_ret,DL.rt_d,DL.rt_l,DL.rt_ex,DL.ap_if,DL.sif_t,DL.sif_f,DL.sif_e,DL.ap_set,DL.st_d,DL.st_l,DL.st_s,DL.st_a,DL.st_ex,DL.gln_0,DL.gln_s,DL.ap_par,DL.p1_ok,DL.p1_ex,DL.p2_ok,DL.p2_ol,DL.p2_ex,DL.ap_par3,DL.t1_ok,DL.t2_ok,DL.t3_ok,DL.t1_ex,DL.t2_ex,DL.t3_ex,DL.ap_tgt,DL.tg_ok,DL.go_some,DL.ap_for,DL.fo_ok,DL.fo_ex,DL.ap_frz,DL.fr_l,DL.fr_d,DL.fr_u,DL.fr_s,DL.ap_app,DL.pp_l,DL.pp_d,DL.ap_raise,DL.ra_1,DL.ra_2,DL.ap_try,DL.tr_nx,DL.tr_rt,DL.tr_ex,DL.ap_iseq,DL.se_t,DL.se_l,DL.se_n,DL.se_ex,DL.ap_rng1,DL.r1_ok,DL.r1_ex,DL.ap_rng2,DL.rn1_ok,DL.rn2_ok,DL.ap_lc1,DL.ap_lc2,DL.lc_go,DL.lc_ex,DL.run_nx,DL.run_rt,DL.run_ex,DL.gi_d,DL.gi_s,DL.gi_a,DL.ru_0,DL.ru_1,DL.ru_2,DL.ru_3,DL.ru_4,DL.ru_5,DL.ru_s,DL.ru_s1,DL.ru_s2,DL.ru_s3,DL.ru_2a,DL.ru_3a,DL.fi_s,DL.fi_n,DL.fi_0,DL.ltG_0,DL.ltG_s,DL.an_tt,List.length_cons,List.length_nil,Nat.reduceAdd,Nat.reduceLT,Nat.reduceLeDiff,Nat.reduceSub,Nat.zero_add,Nat.add_zero,List.cons_append,List.nil_append,List.isEmpty_cons,List.isEmpty_nil,Int.reduceAdd,Int.reduceSub,Int.reduceMul,Int.reduceLT,Int.reduceLE,Int.reduceEq,Int.reduceNeg,Int.reduceToNat,ite_true,ite_false,if_true,if_false,decide_true,decide_false,Bool.false_eq_true,reduceIte,eq_self,DL.ofs_eq,DL.in_1,DL.in_2,DL.in_3,DL.in_4,DL.nin_6,DL.or_tb,DL.or_fb,DL.an_tb,DL.an_fb,DL.ap_act,DL.ac_c,String.reduceEq,DL.sq_rl,DL.run_rl,DL.ap_retV,DL.rlv_l,DL.rlv_d,DL.ap_retL,DL.rL_d,DL.rL_l,DL.rL_ex,DL.tr_rl,DL.lp_nil,DL.lp_cons,DL.lp_some,DL.ln_nx,DL.ln_ct,DL.ln_bk,DL.ln_rt,DL.ln_rl,DL.ln_ex,DL.asg_1,DL.asg_2,DL.ap_sl,DL.sl0_ok,DL.sl1_ok,DL.sl2_ok,DL.ap_partn,DL.ap_parts,DL.pI_ok,DL.ap_listR,DL.lr_ok,DL.lr_ok,$xs,*])
local macro_rules | `(tactic| simp! [$xs,*] at $h:ident)=>`(tactic| simp only [DL.gix_0,DL.gix_s,DL.gst_0,DL.gst_s,DL.fz_d,DL.fz_l,DL.fz_b,DL.fz_s,DL.fz_a,DL.of_some,DL.map_some,DL.bind_some,DL.or_some,DL.or_none,DL.map_none,DL.bind_none,DL.not_t,DL.not_f,DL.dec_t,DL.dec_f,DL.if_t,DL.if_f,DL.ap_var,DL.rv_d,DL.rv_l,DL.rv_s,DL.rv_a,DL.ap_c,DL.ap_bin,DL.b1_ok,DL.b1_ex,DL.b2_ok,DL.b2_ex,DL.ap_cmpB,DL.ap_bl,DL.cb_ok,DL.cb_ex,DL.ap_tru,DL.tru_bool,DL.tru_int,DL.tru_none,DL.tru_tup,DL.tru_lst,DL.tru_b,DL.tru_l,DL.tru_ex,DL.ap_notB,DL.nt_ok,DL.nt_ex,DL.ap_andB,DL.an_t,DL.an_f,DL.an_ex,DL.ap_orB,DL.oo_t,DL.oo_f,DL.oo_ex,DL.ap_and,DL.ap_or,DL.vn_t,DL.vn_f,DL.vo_t,DL.vo_f,DL.vo_tup0,DL.vo_none,DL.vo_tup,DL.vn_ex,DL.vo_ex,DL.ap_not,DL.nv_b,DL.ap_ife,DL.ife_t,DL.ife_f,DL.ife_ex,DL.ap_neg,DL.ng_ok,DL.ap_nil,DL.ap_cons,DL.c1_ok,DL.c1_ex,DL.c2_ok,DL.c2_ex,DL.dats_nil,DL.dats_cons,DL.ap_tup,DL.ap_lst,DL.tp_ex,DL.ls_ex,DL.tp_0,DL.tp_1,DL.tp_2,DL.tp_3,DL.tp_4,DL.ls_0,DL.ls_1,DL.ls_2,DL.ls_3,DL.ls_4,DL.ls_5,DL.ls_6,DL.ls_7,DL.ls_8,DL.ap_call,DL.cal_ex,DL.cal_0,DL.cal_1,DL.cal_2,DL.cal_3,DL.cal_4,DL.cal_5,DL.cal_6,DL.ap_callB,DL.cB_ok,DL.cB_ex,DL.f1_d,DL.f1_b,DL.f2_d,DL.len_t,DL.len_l,DL.max_i,DL.min_i,DL.int_i,DL.abs_i,DL.ftup_l,DL.ftup_b,DL.ftup_t,DL.flst_l,DL.flst_b,DL.flst_t,DL.add_i,DL.sub_i,DL.mul_i,DL.div_i,DL.mod_i,DL.add_t,DL.add_bl,DL.add_ll,DL.add_bb,DL.add_lb,DL.cm_i,DL.lt_u,DL.le_u,DL.gt_u,DL.ge_u,DL.eq_i,DL.ne_i,DL.eq_s,DL.ne_s,DL.is_nn,DL.is_tn,DL.is_in,DL.is_sn,DL.is_ln,DL.is_bn,DL.is_bb,DL.isn_nn,DL.isn_tn,DL.isn_in,DL.isn_sn,DL.isn_ln,DL.isn_bn,DL.isn_bb,DL.ix_t,DL.ix_l,DL.ix_b,DL.at_0,DL.at_1,DL.at_2,DL.at_3,DL.at_4,DL.ap_isi,DL.ki_int,DL.ki_bool,DL.ki_str,DL.ki_tuple,DL.ki_list,DL.ki_lb,DL.ki_tb,DL.kd_int_NoneType,DL.kd_int_bool,DL.kd_int_int,DL.kd_int_str,DL.kd_int_list,DL.kd_int_tuple,DL.kd_bool_NoneType,DL.kd_bool_bool,DL.kd_bool_int,DL.kd_bool_str,DL.kd_bool_list,DL.kd_bool_tuple,DL.kd_str_NoneType,DL.kd_str_bool,DL.kd_str_int,DL.kd_str_str,DL.kd_str_list,DL.kd_str_tuple,DL.kd_tuple_NoneType,DL.kd_tuple_bool,DL.kd_tuple_int,DL.kd_tuple_str,DL.kd_tuple_list,DL.kd_tuple_tuple,DL.kd_list_NoneType,DL.kd_list_bool,DL.kd_list_int,DL.kd_list_str,DL.kd_list_list,DL.kd_list_tuple,DL.ap_seq,DL.sq_nx,DL.sq_rt,DL.sq_bk,DL.sq_ct,DL.sq_ex,DL.ap_skip,DL.ap_break,DL.ap_cont,DL.ap_retN,DL.ap_expr,DL.xp_ok,DL.xp_ex,DL.ap_ret,DL.rt_d,DL.rt_l,DL.rt_ex,DL.ap_if,DL.sif_t,DL.sif_f,DL.sif_e,DL.ap_set,DL.st_d,DL.st_l,DL.st_s,DL.st_a,DL.st_ex,DL.gln_0,DL.gln_s,DL.ap_par,DL.p1_ok,DL.p1_ex,DL.p2_ok,DL.p2_ol,DL.p2_ex,DL.ap_par3,DL.t1_ok,DL.t2_ok,DL.t3_ok,DL.t1_ex,DL.t2_ex,DL.t3_ex,DL.ap_tgt,DL.tg_ok,DL.go_some,DL.ap_for,DL.fo_ok,DL.fo_ex,DL.ap_frz,DL.fr_l,DL.fr_d,DL.fr_u,DL.fr_s,DL.ap_app,DL.pp_l,DL.pp_d,DL.ap_raise,DL.ra_1,DL.ra_2,DL.ap_try,DL.tr_nx,DL.tr_rt,DL.tr_ex,DL.ap_iseq,DL.se_t,DL.se_l,DL.se_n,DL.se_ex,DL.ap_rng1,DL.r1_ok,DL.r1_ex,DL.ap_rng2,DL.rn1_ok,DL.rn2_ok,DL.ap_lc1,DL.ap_lc2,DL.lc_go,DL.lc_ex,DL.run_nx,DL.run_rt,DL.run_ex,DL.gi_d,DL.gi_s,DL.gi_a,DL.ru_0,DL.ru_1,DL.ru_2,DL.ru_3,DL.ru_4,DL.ru_5,DL.ru_s,DL.ru_s1,DL.ru_s2,DL.ru_s3,DL.ru_2a,DL.ru_3a,DL.fi_s,DL.fi_n,DL.fi_0,DL.ltG_0,DL.ltG_s,DL.an_tt,List.length_cons,List.length_nil,Nat.reduceAdd,Nat.reduceLT,Nat.reduceLeDiff,Nat.reduceSub,Nat.zero_add,Nat.add_zero,List.cons_append,List.nil_append,List.isEmpty_cons,List.isEmpty_nil,Int.reduceAdd,Int.reduceSub,Int.reduceMul,Int.reduceLT,Int.reduceLE,Int.reduceEq,Int.reduceNeg,Int.reduceToNat,ite_true,ite_false,if_true,if_false,decide_true,decide_false,Bool.false_eq_true,reduceIte,eq_self,DL.ofs_eq,DL.in_1,DL.in_2,DL.in_3,DL.in_4,DL.nin_6,DL.or_tb,DL.or_fb,DL.an_tb,DL.an_fb,DL.ap_act,DL.ac_c,String.reduceEq,DL.sq_rl,DL.run_rl,DL.ap_retV,DL.rlv_l,DL.rlv_d,DL.ap_retL,DL.rL_d,DL.rL_l,DL.rL_ex,DL.tr_rl,DL.lp_nil,DL.lp_cons,DL.lp_some,DL.ln_nx,DL.ln_ct,DL.ln_bk,DL.ln_rt,DL.ln_rl,DL.ln_ex,DL.asg_1,DL.asg_2,DL.ap_sl,DL.sl0_ok,DL.sl1_ok,DL.sl2_ok,DL.ap_partn,DL.ap_parts,DL.pI_ok,DL.ap_listR,DL.lr_ok,DL.lr_ok,$xs,*] at $h:ident)
section
namespace G
open PySem PySem.Spec PyProof.Rows L2 DL
theorem rep_d {a:EM} {G:Gm} {t t1:Option DS} {x:D} {m k:Nat} (h:a G t = .ok (.d x) t1) (s:Sh x m k) (hm:m ≤ 64) (hk:k ≤ 16777216):mCallB (f1 gRepr) (mCons a mNil) G t = .ok (.d (.str x.shown)) t1:=by
  simp only [mCallB,mCons,mNil,h,Rs.bind,Rs.fz,Rv.fz,f1,Rv.toD,Option.bind_some,sh_repr s hm hk,Option.map_some,Rs.of]
theorem eq_same {a b:EM} {G:Gm} {t t1 t2:Option DS} {s:Str} (h1:a G t = .ok (.d (.str s)) t1) (h2:b G t1 = .ok (.d (.str s)) t2):mBin fEq a b G t = .ok (.d (.bool true)) t2:=by
  simp only [mBin,h1,h2,Rs.fz,Rv.fz,Rs.bind,fEq,fRead,Rv.toD,Option.bind_some,gEq,Option.map_some,Rs.of,decide_true]
theorem J.more {k k':Nat} {t:Option DS} (h:J k t) (hk:k ≤ k'):J k' t:=by
  obtain ⟨st,e,i⟩:=h
  exact ⟨st,e,inv_more i hk⟩
theorem dr {k:Nat} {t:Option DS} {l:Int} (hJ:J k t) (hk:k ≤ 1000000) (l0:0 < l) (l1:l < 1073741824):∃ z t1,f__law_draw [.s,.d (.int l)] t = .ok (.d (.int z)) t1 ∧ J (k + 1) t1 ∧ 0 ≤ z ∧ z < l:=by
  obtain ⟨st,rfl,hI⟩:=hJ
  obtain ⟨z,st',e,i',z0,z1⟩:=e_draw hI hk l0 l1
  exact ⟨z,some st',e,⟨st',rfl,i'⟩,z0,z1⟩
theorem range_eq' (l c:Nat):rangeD (l:Int) c = (List.range' l c).map fun j:Nat=>PyData.int (j:Int):=by
  unfold rangeD
  rw [List.range'_eq_map_range,List.map_map]
  apply List.map_congr_left
  intro i _
  show PyData.int ((l:Int) + (i:Int)) = PyData.int (((l + i:Nat)):Int)
  congr 1
theorem lay_ints:∀ p:List Int,PyData.canLayAll0 (p.map .int) = true ∧ PyData.depthAll (p.map PyData.int) = 0
  | []=>⟨rfl,rfl⟩
  | i :: p=>by
    obtain ⟨a,b⟩:=lay_ints p
    exact ⟨by simp [PyData.canLayAll0,PyData.canLay0,a],by simp [PyData.depthAll,PyData.depth,b]⟩
end G
end
local macro_rules | `(tactic| simp! [$xs,*])=>`(tactic| simp only [DL.gix_0,DL.gix_s,DL.gst_0,DL.gst_s,DL.fz_d,DL.fz_l,DL.fz_b,DL.fz_s,DL.fz_a,DL.of_some,DL.map_some,DL.bind_some,DL.or_some,DL.or_none,DL.map_none,DL.bind_none,DL.not_t,DL.not_f,DL.dec_t,DL.dec_f,DL.if_t,DL.if_f,DL.ap_var,DL.rv_d,DL.rv_l,DL.rv_s,DL.rv_a,DL.ap_c,DL.ap_bin,DL.b1_ok,DL.b1_ex,DL.b2_ok,DL.b2_ex,DL.ap_cmpB,DL.ap_bl,DL.cb_ok,DL.cb_ex,DL.ap_tru,DL.tru_bool,DL.tru_int,DL.tru_none,DL.tru_tup,DL.tru_lst,DL.tru_b,DL.tru_l,DL.tru_ex,DL.ap_notB,DL.nt_ok,DL.nt_ex,DL.ap_andB,DL.an_t,DL.an_f,DL.an_ex,DL.ap_orB,DL.oo_t,DL.oo_f,DL.oo_ex,DL.ap_and,DL.ap_or,DL.vn_t,DL.vn_f,DL.vo_t,DL.vo_f,DL.vo_tup0,DL.vo_none,DL.vo_tup,DL.vn_ex,DL.vo_ex,DL.ap_not,DL.nv_b,DL.ap_ife,DL.ife_t,DL.ife_f,DL.ife_ex,DL.ap_neg,DL.ng_ok,DL.ap_nil,DL.ap_cons,DL.c1_ok,DL.c1_ex,DL.c2_ok,DL.c2_ex,DL.dats_nil,DL.dats_cons,DL.ap_tup,DL.ap_lst,DL.tp_ex,DL.ls_ex,DL.tp_0,DL.tp_1,DL.tp_2,DL.tp_3,DL.tp_4,DL.ls_0,DL.ls_1,DL.ls_2,DL.ls_3,DL.ls_4,DL.ls_5,DL.ls_6,DL.ls_7,DL.ls_8,DL.ap_call,DL.cal_ex,DL.cal_0,DL.cal_1,DL.cal_2,DL.cal_3,DL.cal_4,DL.cal_5,DL.cal_6,DL.ap_callB,DL.cB_ok,DL.cB_ex,DL.f1_d,DL.f1_b,DL.f2_d,DL.len_t,DL.len_l,DL.max_i,DL.min_i,DL.int_i,DL.abs_i,DL.ftup_l,DL.ftup_b,DL.ftup_t,DL.flst_l,DL.flst_b,DL.flst_t,DL.add_i,DL.sub_i,DL.mul_i,DL.div_i,DL.mod_i,DL.add_t,DL.add_bl,DL.add_ll,DL.add_bb,DL.add_lb,DL.cm_i,DL.lt_u,DL.le_u,DL.gt_u,DL.ge_u,DL.eq_i,DL.ne_i,DL.eq_s,DL.ne_s,DL.is_nn,DL.is_tn,DL.is_in,DL.is_sn,DL.is_ln,DL.is_bn,DL.is_bb,DL.isn_nn,DL.isn_tn,DL.isn_in,DL.isn_sn,DL.isn_ln,DL.isn_bn,DL.isn_bb,DL.ix_t,DL.ix_l,DL.ix_b,DL.at_0,DL.at_1,DL.at_2,DL.at_3,DL.at_4,DL.ap_isi,DL.ki_int,DL.ki_bool,DL.ki_str,DL.ki_tuple,DL.ki_list,DL.ki_lb,DL.ki_tb,DL.kd_int_NoneType,DL.kd_int_bool,DL.kd_int_int,DL.kd_int_str,DL.kd_int_list,DL.kd_int_tuple,DL.kd_bool_NoneType,DL.kd_bool_bool,DL.kd_bool_int,DL.kd_bool_str,DL.kd_bool_list,DL.kd_bool_tuple,DL.kd_str_NoneType,DL.kd_str_bool,DL.kd_str_int,DL.kd_str_str,DL.kd_str_list,DL.kd_str_tuple,DL.kd_tuple_NoneType,DL.kd_tuple_bool,DL.kd_tuple_int,DL.kd_tuple_str,DL.kd_tuple_list,DL.kd_tuple_tuple,DL.kd_list_NoneType,DL.kd_list_bool,DL.kd_list_int,DL.kd_list_str,DL.kd_list_list,DL.kd_list_tuple,DL.ap_seq,DL.sq_nx,DL.sq_rt,DL.sq_bk,DL.sq_ct,DL.sq_ex,DL.ap_skip,DL.ap_break,DL.ap_cont,DL.ap_retN,DL.ap_expr,DL.xp_ok,DL.xp_ex,DL.ap_ret,DL.rt_d,DL.rt_l,DL.rt_ex,DL.ap_if,DL.sif_t,DL.sif_f,DL.sif_e,DL.ap_set,DL.st_d,DL.st_l,DL.st_s,DL.st_a,DL.st_ex,DL.gln_0,DL.gln_s,DL.ap_par,DL.p1_ok,DL.p1_ex,DL.p2_ok,DL.p2_ol,DL.p2_ex,DL.ap_par3,DL.t1_ok,DL.t2_ok,DL.t3_ok,DL.t1_ex,DL.t2_ex,DL.t3_ex,DL.ap_tgt,DL.tg_ok,DL.go_some,DL.ap_for,DL.fo_ok,DL.fo_ex,DL.ap_frz,DL.fr_l,DL.fr_d,DL.fr_u,DL.fr_s,DL.ap_app,DL.pp_l,DL.pp_d,DL.ap_raise,DL.ra_1,DL.ra_2,DL.ap_try,DL.tr_nx,DL.tr_rt,DL.tr_ex,DL.ap_iseq,DL.se_t,DL.se_l,DL.se_n,DL.se_ex,DL.ap_rng1,DL.r1_ok,DL.r1_ex,DL.ap_rng2,DL.rn1_ok,DL.rn2_ok,DL.ap_lc1,DL.ap_lc2,DL.lc_go,DL.lc_ex,DL.run_nx,DL.run_rt,DL.run_ex,DL.gi_d,DL.gi_s,DL.gi_a,DL.ru_0,DL.ru_1,DL.ru_2,DL.ru_3,DL.ru_4,DL.ru_5,DL.ru_s,DL.ru_s1,DL.ru_s2,DL.ru_s3,DL.ru_2a,DL.ru_3a,DL.fi_s,DL.fi_n,DL.fi_0,DL.ltG_0,DL.ltG_s,DL.an_tt,List.length_cons,List.length_nil,Nat.reduceAdd,Nat.reduceLT,Nat.reduceLeDiff,Nat.reduceSub,Nat.zero_add,Nat.add_zero,List.cons_append,List.nil_append,List.isEmpty_cons,List.isEmpty_nil,Int.reduceAdd,Int.reduceSub,Int.reduceMul,Int.reduceLT,Int.reduceLE,Int.reduceEq,Int.reduceNeg,Int.reduceToNat,ite_true,ite_false,if_true,if_false,decide_true,decide_false,Bool.false_eq_true,reduceIte,eq_self,DL.ofs_eq,DL.in_1,DL.in_2,DL.in_3,DL.in_4,DL.nin_6,DL.or_tb,DL.or_fb,DL.an_tb,DL.an_fb,DL.ap_act,DL.ac_c,String.reduceEq,DL.sq_rl,DL.run_rl,DL.ap_retV,DL.rlv_l,DL.rlv_d,DL.ap_retL,DL.rL_d,DL.rL_l,DL.rL_ex,DL.tr_rl,DL.lp_nil,DL.lp_cons,DL.lp_some,DL.ln_nx,DL.ln_ct,DL.ln_bk,DL.ln_rt,DL.ln_rl,DL.ln_ex,DL.asg_1,DL.asg_2,DL.ap_sl,DL.sl0_ok,DL.sl1_ok,DL.sl2_ok,DL.ap_partn,DL.ap_parts,DL.pI_ok,DL.ap_listR,DL.lr_ok,DL.lr_ok,DL.ap_parL,DL.pl1_ok,DL.pl1_ex,DL.pl2_ex,DL.pl2_dd,DL.pl2_ll,DL.pl2_ld,DL.pl2_dl,DL.ap_enum,DL.en_l,DL.en_dl,DL.en_dt,DL.fsrt_l,DL.fsrt_d,DL.ap_mtl,DL.mt1_d,DL.mt1_l,DL.mt2_d,DL.ap_rem,DL.rm_l,DL.ap_lcB1,DL.lb_l,DL.lb_d,DL.ap_mov,DL.mv_l,DL.mv_d,DL.ap_rng3,DL.ra1_ok,DL.ra2_ok,DL.ra3_ok,DL.fsortRL_l,DL.fsortRL_d,$xs,*])
local macro_rules | `(tactic| simp! [$xs,*] at $h:ident)=>`(tactic| simp only [DL.gix_0,DL.gix_s,DL.gst_0,DL.gst_s,DL.fz_d,DL.fz_l,DL.fz_b,DL.fz_s,DL.fz_a,DL.of_some,DL.map_some,DL.bind_some,DL.or_some,DL.or_none,DL.map_none,DL.bind_none,DL.not_t,DL.not_f,DL.dec_t,DL.dec_f,DL.if_t,DL.if_f,DL.ap_var,DL.rv_d,DL.rv_l,DL.rv_s,DL.rv_a,DL.ap_c,DL.ap_bin,DL.b1_ok,DL.b1_ex,DL.b2_ok,DL.b2_ex,DL.ap_cmpB,DL.ap_bl,DL.cb_ok,DL.cb_ex,DL.ap_tru,DL.tru_bool,DL.tru_int,DL.tru_none,DL.tru_tup,DL.tru_lst,DL.tru_b,DL.tru_l,DL.tru_ex,DL.ap_notB,DL.nt_ok,DL.nt_ex,DL.ap_andB,DL.an_t,DL.an_f,DL.an_ex,DL.ap_orB,DL.oo_t,DL.oo_f,DL.oo_ex,DL.ap_and,DL.ap_or,DL.vn_t,DL.vn_f,DL.vo_t,DL.vo_f,DL.vo_tup0,DL.vo_none,DL.vo_tup,DL.vn_ex,DL.vo_ex,DL.ap_not,DL.nv_b,DL.ap_ife,DL.ife_t,DL.ife_f,DL.ife_ex,DL.ap_neg,DL.ng_ok,DL.ap_nil,DL.ap_cons,DL.c1_ok,DL.c1_ex,DL.c2_ok,DL.c2_ex,DL.dats_nil,DL.dats_cons,DL.ap_tup,DL.ap_lst,DL.tp_ex,DL.ls_ex,DL.tp_0,DL.tp_1,DL.tp_2,DL.tp_3,DL.tp_4,DL.ls_0,DL.ls_1,DL.ls_2,DL.ls_3,DL.ls_4,DL.ls_5,DL.ls_6,DL.ls_7,DL.ls_8,DL.ap_call,DL.cal_ex,DL.cal_0,DL.cal_1,DL.cal_2,DL.cal_3,DL.cal_4,DL.cal_5,DL.cal_6,DL.ap_callB,DL.cB_ok,DL.cB_ex,DL.f1_d,DL.f1_b,DL.f2_d,DL.len_t,DL.len_l,DL.max_i,DL.min_i,DL.int_i,DL.abs_i,DL.ftup_l,DL.ftup_b,DL.ftup_t,DL.flst_l,DL.flst_b,DL.flst_t,DL.add_i,DL.sub_i,DL.mul_i,DL.div_i,DL.mod_i,DL.add_t,DL.add_bl,DL.add_ll,DL.add_bb,DL.add_lb,DL.cm_i,DL.lt_u,DL.le_u,DL.gt_u,DL.ge_u,DL.eq_i,DL.ne_i,DL.eq_s,DL.ne_s,DL.is_nn,DL.is_tn,DL.is_in,DL.is_sn,DL.is_ln,DL.is_bn,DL.is_bb,DL.isn_nn,DL.isn_tn,DL.isn_in,DL.isn_sn,DL.isn_ln,DL.isn_bn,DL.isn_bb,DL.ix_t,DL.ix_l,DL.ix_b,DL.at_0,DL.at_1,DL.at_2,DL.at_3,DL.at_4,DL.ap_isi,DL.ki_int,DL.ki_bool,DL.ki_str,DL.ki_tuple,DL.ki_list,DL.ki_lb,DL.ki_tb,DL.kd_int_NoneType,DL.kd_int_bool,DL.kd_int_int,DL.kd_int_str,DL.kd_int_list,DL.kd_int_tuple,DL.kd_bool_NoneType,DL.kd_bool_bool,DL.kd_bool_int,DL.kd_bool_str,DL.kd_bool_list,DL.kd_bool_tuple,DL.kd_str_NoneType,DL.kd_str_bool,DL.kd_str_int,DL.kd_str_str,DL.kd_str_list,DL.kd_str_tuple,DL.kd_tuple_NoneType,DL.kd_tuple_bool,DL.kd_tuple_int,DL.kd_tuple_str,DL.kd_tuple_list,DL.kd_tuple_tuple,DL.kd_list_NoneType,DL.kd_list_bool,DL.kd_list_int,DL.kd_list_str,DL.kd_list_list,DL.kd_list_tuple,DL.ap_seq,DL.sq_nx,DL.sq_rt,DL.sq_bk,DL.sq_ct,DL.sq_ex,DL.ap_skip,DL.ap_break,DL.ap_cont,DL.ap_retN,DL.ap_expr,DL.xp_ok,DL.xp_ex,DL.ap_ret,DL.rt_d,DL.rt_l,DL.rt_ex,DL.ap_if,DL.sif_t,DL.sif_f,DL.sif_e,DL.ap_set,DL.st_d,DL.st_l,DL.st_s,DL.st_a,DL.st_ex,DL.gln_0,DL.gln_s,DL.ap_par,DL.p1_ok,DL.p1_ex,DL.p2_ok,DL.p2_ol,DL.p2_ex,DL.ap_par3,DL.t1_ok,DL.t2_ok,DL.t3_ok,DL.t1_ex,DL.t2_ex,DL.t3_ex,DL.ap_tgt,DL.tg_ok,DL.go_some,DL.ap_for,DL.fo_ok,DL.fo_ex,DL.ap_frz,DL.fr_l,DL.fr_d,DL.fr_u,DL.fr_s,DL.ap_app,DL.pp_l,DL.pp_d,DL.ap_raise,DL.ra_1,DL.ra_2,DL.ap_try,DL.tr_nx,DL.tr_rt,DL.tr_ex,DL.ap_iseq,DL.se_t,DL.se_l,DL.se_n,DL.se_ex,DL.ap_rng1,DL.r1_ok,DL.r1_ex,DL.ap_rng2,DL.rn1_ok,DL.rn2_ok,DL.ap_lc1,DL.ap_lc2,DL.lc_go,DL.lc_ex,DL.run_nx,DL.run_rt,DL.run_ex,DL.gi_d,DL.gi_s,DL.gi_a,DL.ru_0,DL.ru_1,DL.ru_2,DL.ru_3,DL.ru_4,DL.ru_5,DL.ru_s,DL.ru_s1,DL.ru_s2,DL.ru_s3,DL.ru_2a,DL.ru_3a,DL.fi_s,DL.fi_n,DL.fi_0,DL.ltG_0,DL.ltG_s,DL.an_tt,List.length_cons,List.length_nil,Nat.reduceAdd,Nat.reduceLT,Nat.reduceLeDiff,Nat.reduceSub,Nat.zero_add,Nat.add_zero,List.cons_append,List.nil_append,List.isEmpty_cons,List.isEmpty_nil,Int.reduceAdd,Int.reduceSub,Int.reduceMul,Int.reduceLT,Int.reduceLE,Int.reduceEq,Int.reduceNeg,Int.reduceToNat,ite_true,ite_false,if_true,if_false,decide_true,decide_false,Bool.false_eq_true,reduceIte,eq_self,DL.ofs_eq,DL.in_1,DL.in_2,DL.in_3,DL.in_4,DL.nin_6,DL.or_tb,DL.or_fb,DL.an_tb,DL.an_fb,DL.ap_act,DL.ac_c,String.reduceEq,DL.sq_rl,DL.run_rl,DL.ap_retV,DL.rlv_l,DL.rlv_d,DL.ap_retL,DL.rL_d,DL.rL_l,DL.rL_ex,DL.tr_rl,DL.lp_nil,DL.lp_cons,DL.lp_some,DL.ln_nx,DL.ln_ct,DL.ln_bk,DL.ln_rt,DL.ln_rl,DL.ln_ex,DL.asg_1,DL.asg_2,DL.ap_sl,DL.sl0_ok,DL.sl1_ok,DL.sl2_ok,DL.ap_partn,DL.ap_parts,DL.pI_ok,DL.ap_listR,DL.lr_ok,DL.lr_ok,DL.ap_parL,DL.pl1_ok,DL.pl1_ex,DL.pl2_ex,DL.pl2_dd,DL.pl2_ll,DL.pl2_ld,DL.pl2_dl,DL.ap_enum,DL.en_l,DL.en_dl,DL.en_dt,DL.fsrt_l,DL.fsrt_d,DL.ap_mtl,DL.mt1_d,DL.mt1_l,DL.mt2_d,DL.ap_rem,DL.rm_l,DL.ap_lcB1,DL.lb_l,DL.lb_d,DL.ap_mov,DL.mv_l,DL.mv_d,DL.ap_rng3,DL.ra1_ok,DL.ra2_ok,DL.ra3_ok,DL.fsortRL_l,DL.fsortRL_d,$xs,*] at $h:ident)
section
namespace G
open PySem PySem.Spec PyProof.Rows L2 DL
theorem srt_D {l m:List D} (hp:l.Perm m) (hs:m.Pairwise (fun a b=>PySem.W.dataLe false (id:D → D) a b = true)) (an:∀ a ∈ m,∀ b ∈ m,PySem.W.dataLe false (id:D → D) a b = true → PySem.W.dataLe false (id:D → D) b a = true → a = b):srtD false l = m:=by
  have h1:(srtD false l).Perm l:=List.mergeSort_perm _ _
  have h2:(srtD false l).Pairwise (fun a b=>PySem.W.dataLe false (id:D → D) a b = true):=PySem.W.sort_pairwise (PySem.W.sortLe_total _ _ _) l
  exact List.Perm.eq_of_pairwise (fun a b ha hb x y=>an a ((h1.trans hp).mem_iff.mp ha) b hb x y) h2 hs (h1.trans hp)
def toInts:D → List Int
  | .tuple ds=>ds.map fun d=>match d with | .int i=>i | _=>0
  | _=>[]
theorem toInts_I (ls:List Int):toInts (tupI ls) = ls:=by
  show (ls.map PyData.int).map _ = ls
  rw [List.map_map]
  exact List.map_id _
theorem mi {α β:Type} {f g:α → β} {l:List α} (h:l.map f = l.map g):∀ x ∈ l,f x = g x:=List.map_inj_left.mp h
section
variable {α β:Type}
def mp (f:α → β) (X:List (Bool × α)):List (Bool × β):=X.map fun r=>(r.1,f r.2)
end
def insI (x:Int):List Int → List Int
  | []=>[x]
  | y :: l=>if x ≤ y then x :: y :: l else y :: insI x l
def srI:List Int → List Int
  | []=>[]
  | x :: l=>insI x (srI l)
theorem insI_perm (x:Int):∀ l,(insI x l).Perm (x :: l)
  | []=>.refl _
  | y :: l=>by
    unfold insI
    split
    · exact .refl _
    · exact ((insI_perm x l).cons y).trans (.swap _ _ _)
theorem srI_perm:∀ l,(srI l).Perm l
  | []=>.refl _
  | x :: l=>(insI_perm x (srI l)).trans ((srI_perm l).cons x)
theorem insI_pw (x:Int):∀ l:List Int,l.Pairwise (· ≤ ·) → (insI x l).Pairwise (· ≤ ·)
  | [],_=>by simp [insI]
  | y :: l,h=>by
    obtain ⟨h1,h2⟩:=List.pairwise_cons.mp h
    unfold insI
    split
    · rename_i hx
      refine List.pairwise_cons.mpr ⟨fun z hz=>?_,h⟩
      rcases List.mem_cons.mp hz with rfl | hz
      · exact hx
      · exact Int.le_trans hx (h1 z hz)
    · rename_i hx
      refine List.pairwise_cons.mpr ⟨fun z hz=>?_,insI_pw x l h2⟩
      rcases List.mem_cons.mp ((insI_perm x l).mem_iff.mp hz) with rfl | hz
      · omega
      · exact h1 z hz
theorem srI_pw:∀ l,(srI l).Pairwise (· ≤ ·)
  | []=>.nil
  | x :: l=>insI_pw x _ (srI_pw l)
theorem le_int (a b:Int):PySem.W.dataLe false (id:D → D) (.int a) (.int b) = decide (a ≤ b):=by
  have e:=congrFun (congrFun (PySem.W.dataLe_int (β:=Int) (fun b=>b)) a) b
  exact e
theorem srt_Is (ls:List Int):srtD false (ls.map .int) = (srI ls).map .int:=
  srt_D ((srI_perm ls).symm.map _) (List.pairwise_map.mpr ((srI_pw ls).imp fun h=>(le_int _ _).trans (decide_eq_true h))) (fun a ha b hb x y=>by
    obtain ⟨a',_,rfl⟩:=List.mem_map.mp ha
    obtain ⟨b',_,rfl⟩:=List.mem_map.mp hb
    rw [le_int,decide_eq_true_eq] at x y
    have:a' = b':=by omega
    rw [this])
mutual
theorem row_self:∀ x:D,isRow x = true → PyData.eqv x x = true ∧ gLtN x x = some false
  | .int i,_=>⟨by simp [PyData.eqv],by unfold gLtN; simp⟩
  | .tuple xs,h=>by
    unfold isRow at h
    obtain ⟨a,b⟩:=rows_self xs h
    exact ⟨by unfold PyData.eqv; exact a,by unfold gLtN; exact b⟩
  | .none,h=>by unfold isRow at h; cases h
  | .bool _,h=>by unfold isRow at h; cases h
  | .str _,h=>by unfold isRow at h; cases h
  | .list _,h=>by unfold isRow at h; cases h
  | .dict _,h=>by unfold isRow at h; cases h
theorem rows_self:∀ xs:List D,isRows xs = true → PyData.eqvAll xs xs = true ∧ gLtL xs xs = some false
  | [],_=>⟨by unfold PyData.eqvAll; rfl,by unfold gLtL; rfl⟩
  | x :: xs,h=>by
    unfold isRows at h
    rw [Bool.and_eq_true] at h
    obtain ⟨a,b⟩:=rows_self xs h.2
    obtain ⟨c,_⟩:=row_self x h.1
    refine ⟨by unfold PyData.eqvAll; rw [c,a]; rfl,?_⟩
    unfold gLtL
    rw [if_pos c]
    exact b
end
theorem rows_I:∀ is:List Int,isRows (is.map .int) = true
  | []=>rfl
  | i :: is=>by
    show (isRow (.int i) && isRows (is.map .int)) = true
    rw [rows_I is]
    rfl
theorem row_I (is:List Int):isRow (tupI is) = true:=rows_I is
theorem tupI_inj {a b:List Int} (h:tupI a = tupI b):a = b:=by
  have:=congrArg toInts h
  rwa [toInts_I,toInts_I] at this
end G
end
section
namespace G
open PySem PySem.Spec PyProof.Rows L2 DL
theorem eqv_I (i j:Int):PyData.eqv (.int i) (.int j) = decide (i = j):=by
  have e:gEq (.int i) (.int j) = some (PyData.eqv (.int i) (.int j)):=rfl
  by_cases h:i = j
  · subst h
    rw [decide_eq_true rfl]
    simp [PyData.eqv]
  · rw [decide_eq_false h]
    simp [PyData.eqv,h]
theorem ok_Is {ls:List Int} (h1:ls.length ≤ 16777216):sortOk (ls.map .int) = true:=by
  unfold sortOk
  simp only [Bool.and_eq_true,decide_eq_true_eq,Bool.or_eq_true,List.all_eq_true,List.length_map,List.mem_map]
  refine ⟨⟨⟨h1,?_⟩,.inr ?_⟩,?_⟩
  · rintro _ ⟨a,_,rfl⟩ _ ⟨b,_,rfl⟩
    simp [PySem.W.alike]
  · rintro _ ⟨a,ha,rfl⟩
    rfl
  · rintro _ ⟨a,_,rfl⟩
    simp [PyData.depth]
theorem feq_row {x y:D} (hx:isRow x = true) (hy:isRow y = true) (sx:SeqAt.shaped x = true) (sy:SeqAt.shaped y = true):fEq (.d x) (.d y) = some (.d (.bool (PyData.eqv x y))):=by
  have e:gEq x y = some (PyData.eqv x y):=by
    unfold gEq
    split
    · rename_i i j
      exact congrArg some (eqv_I i j).symm
    · unfold isRow at hx; cases hx
    · rw [sx,sy]; rfl
  simp only [fEq,fRead,Rv.toD,Option.bind_some,e,Option.map_some]
theorem ap_put {i:Nat} {mi m:EM} {G:Gm} {t:Option DS} {x:D} {k:Int} {xs:List D} {j:Nat} (h1:m G t = .ok (.d x) t) (h2:G[i]? = some (.l xs)) (h3:mi G t = .ok (.d (.int k)) t) (h4:ixN xs.length k = some j):sPut i mi m G t = .nx (G.set i (.l (xs.set j x))) t:=by
  simp only [sPut,h1,Rs.fz,Rs.bind,Rv.fz,Rs.bindS,h2,h3,h4]
theorem ixN_nat {k n:Nat} (h:k < n):ixN n (k:Int) = some k:=by
  unfold ixN
  rw [if_pos (by omega),if_pos (by omega),Int.toNat_natCast]
theorem atI_last {xs:List D} {x:D} (h:xs.getLast? = some x):atI xs (-1) = some x:=by
  have hne:xs ≠ []:=fun z=>by rw [z] at h; cases h
  have hl:0 < xs.length:=List.length_pos_iff.mpr hne
  have x1:ixN xs.length (-1) = some (xs.length - 1):=by
    unfold ixN
    rw [if_neg (by decide),if_pos (by omega)]
    congr 1
    omega
  unfold atI
  rw [x1,Option.bind_some,← List.getLast?_eq_getElem?,h]
theorem e_two {n:Int} (h0:2 ≤ n) (h1:n ≤ 5) {k:Nat} {t:Option DS} (hJ:J k t) (hk:k ≤ 900000):∃ i j t1,f__law_two [.s,.d (.int n)] t = .ok (.d (.tuple [.int i,.int j])) t1 ∧ J (k + 2) t1 ∧ (0 ≤ i ∧ i ≤ n - 1) ∧ (0 ≤ j ∧ j ≤ n - 1) ∧ i ≠ j:=by
  obtain ⟨i,t1,e1,j1,i0,i1⟩:=dr (l:=n) hJ (by omega) (by omega) (by omega)
  obtain ⟨r,t2,e2,j2,r0,r1⟩:=dr (l:=n - 1) j1 (by omega) (by omega) (by omega)
  have hn:n = 2 ∨ n = 3 ∨ n = 4 ∨ n = 5 ∨ n = 5:=by omega
  have em:(i + 1 + r).fmod n = (i + 1 + r) % n:=Int.fmod_eq_emod_of_nonneg _ (by omega)
  have md:fMod (.d (.int (i + 1 + r))) (.d (.int n)) = some (.d (.int ((i + 1 + r).fmod n))):=by
    simp only [fMod,fI]
    rw [if_pos (decide_eq_true (by omega))]
  refine ⟨i,(i + 1 + r).fmod n,t2,?_,j2,⟨i0,by omega⟩,?_,?_⟩
  · rw [u__law_two]
    simp! [m__law_two,e1,e2,md]
  · rw [em]
    rcases hn with rfl | rfl | rfl | rfl | rfl <;> omega
  · rw [em]
    rcases hn with rfl | rfl | rfl | rfl | rfl <;> omega
theorem e_twoN {n:Nat} (hn:n = 2 ∨ n = 3 ∨ n = 4 ∨ n = 5) {k:Nat} {t:Option DS} (hJ:J k t) (hk:k ≤ 900000):∃ (i j:Nat) (t1:Option DS),f__law_two [.s,.d (.int (n:Int))] t = .ok (.d (.tuple [.int (i:Int),.int (j:Int)])) t1 ∧ J (k + 2) t1 ∧ i < n ∧ j < n ∧ i ≠ j:=by
  obtain ⟨i,j,t1,e,hj,a,b,c⟩:=e_two (n:=(n:Int)) (by omega) (by omega) hJ hk
  obtain ⟨i,rfl⟩:∃ m:Nat,i = (m:Int):=⟨i.toNat,by omega⟩
  obtain ⟨j,rfl⟩:∃ m:Nat,j = (m:Int):=⟨j.toNat,by omega⟩
  exact ⟨i,j,t1,e,hj,by omega,by omega,by omega⟩
section
variable {n:Nat} (hn:n = 2 ∨ n = 3 ∨ n = 4 ∨ n = 5) {row:List Int} {t:Option DS}
include hn
theorem ic_loop {Y:D}:∀ (xs:List Int) (a2:Sl),(∀ x ∈ xs,0 ≤ x ∧ x ≤ 24) → ∃ b2,loop (.nm 2) L_is_content_0 (xs.map .int) [.d (.int (n:Int)),.d Y,a2] t = .nx [.d (.int (n:Int)),.d Y,b2] t
  | [],a2,_=>⟨a2,rfl⟩
  | x :: xs,a2,h=>by
    obtain ⟨b2,e⟩:=ic_loop (Y:=Y) xs (.d (.int x)) fun y hy=>h y (List.mem_cons_of_mem _ hy)
    have f:=e_fromD (.int x) 0 24 t
    have f1:fromD (.int x) 0 24 = true:=by
      show (decide (0 ≤ x) && decide (x ≤ 24)) = true
      obtain ⟨a,b⟩:=h x List.mem_cons_self
      rw [decide_eq_true a,decide_eq_true b]
      rfl
    rw [f1] at f
    refine ⟨b2,?_⟩
    rw [List.map_cons]
    refine (loop_nx rfl ?_).trans e
    simp! [L_is_content_0,f]
theorem e_need_row (hl:row.length = n) (h:∀ x ∈ row,0 ≤ x ∧ x ≤ 24):f_need_content [.d (.int (n:Int)),.d (tupI row)] t = .ok (.d (tupI row)) t:=by
  have e1:f_need_many [.d (.int (n:Int))] t = .ok (.d (.int (n:Int))) t:=e_many (n:Int) (by omega) t
  obtain ⟨b2,e2⟩:=ic_loop hn (t:=t) (Y:=tupI row) row .un h
  have ne:fNe (.d (.int ((row.length:Nat):Int))) (.d (.int (n:Int))) = some (.d (.bool false)):=by rw [ne_i,decide_eq_true (by omega:((row.length:Nat):Int) = (n:Int))]; rfl
  have e:f_is_content [.d (.int (n:Int)),.d (tupI row)] t = .ok (.d (.bool true)) t:=by
    rw [u_is_content]
    unfold tupI at e2 ⊢
    refine run_rt (G:=[.d (.int (n:Int)),.d (.tuple (row.map .int))]) rfl ?_
    show m_is_content [.d (.int (n:Int)),.d (.tuple (row.map .int)),.un] t = _
    simp! [m_is_content,e1,ne,e2,List.length_map]
  rw [u_need_content]
  simp! [m_need_content,e]
end
abbrev Dd:=Bool × Nat × Nat
def ddD (d:Dd):D:=.tuple [.str (if d.1 = true then "transfer" else "exchange"),.int (d.2.1:Int),.int (d.2.2:Int)]
def dOk (n:Nat) (d:Dd):Prop:=d.2.1 < n ∧ d.2.2 < n ∧ d.2.1 ≠ d.2.2
def mvI (row:List Int) (i j:Nat):List Int:=(row.set i (row.getD i 0 - 1)).set j (row.getD j 0 + 1)
def exI (row:List Int) (i j:Nat):List Int:=(row.set i (row.getD j 0)).set j (row.getD i 0)
def rbI (row:List Int) (d:Dd):List Int:=if d.1 = true then mvI row d.2.1 d.2.2 else exI row d.2.1 d.2.2
def canD (row:List Int) (d:Dd):Prop:=d.1 = true → row.getD d.2.2 0 < row.getD d.2.1 0
theorem rbI_len (row:List Int) (d:Dd):(rbI row d).length = row.length:=by
  unfold rbI mvI exI
  split <;> rw [List.length_set,List.length_set]
theorem atI_row {row:List Int} {i:Nat} (h:i < row.length):atI (row.map PyData.int) (i:Int) = some (.int (row.getD i 0)):=
  atI_nat (by rw [List.getElem?_map,List.getElem?_eq_getElem h,List.getD_eq_getElem?_getD,List.getElem?_eq_getElem h]; rfl)
theorem get_row {row:List Int} {i:Nat} (h:i < row.length):(row.map PyData.int)[i]? = some (.int (row.getD i 0)):=by
  rw [List.getElem?_map,List.getElem?_eq_getElem h,List.getD_eq_getElem?_getD,List.getElem?_eq_getElem h]
  rfl
theorem set_row (row:List Int) (i:Nat) (x:Int):(row.map PyData.int).set i (.int x) = (row.set i x).map .int:=(List.map_set ..).symm
theorem getD_set_ne {row:List Int} {i j:Nat} {x:Int} (h:i ≠ j):(row.set i x).getD j 0 = row.getD j 0:=by
  rw [List.getD_eq_getElem?_getD,List.getD_eq_getElem?_getD,List.getElem?_set_ne h]
theorem getD_set_eq {row:List Int} {i:Nat} {x:Int} (h:i < row.length):(row.set i x).getD i 0 = x:=by
  rw [List.getD_eq_getElem?_getD,List.getElem?_set_self h]
  rfl
section
variable {row:List Int} {t:Option DS}
theorem put_row {G:Gm} {p i:Nat} {row:List Int} {mi m:EM} {x:Int} (h1:m G t = .ok (.d (.int x)) t) (h2:G[p]? = some (.l (row.map .int))) (h3:mi G t = .ok (.d (.int (i:Int))) t) (h4:i < row.length):sPut p mi m G t = .nx (G.set p (.l ((row.set i x).map .int))) t:=by
  rw [ap_put h1 h2 h3 (ixN_nat (by rw [List.length_map]; exact h4)),set_row]
theorem aug_nx' {G:Gm} {t t1 t2:Option DS} {mi m:EM} {f:Int → Int → Int} {i j:Nat} {k x y:Int} {xs:List D} (h:G[i]? = some (.l xs)) (h1:mi G t = .ok (.d (.int k)) t1) (h2:ixN xs.length k = some j) (h3:xs[j]? = some (.int x)) (h4:m G t1 = .ok (.d (.int y)) t2):sAug i mi m f G t = .nx (G.set i (.l (xs.set j (.int (f x y))))) t2:=by
  simp only [sAug,h,h1,Rs.fz,Rv.fz,Rs.bind,Rs.bindS,h2,h3,h4]
theorem aug_row {G:Gm} {p i:Nat} {row:List Int} {mi m:EM} {y:Int} {f:Int → Int → Int} (h2:G[p]? = some (.l (row.map .int))) (h3:mi G t = .ok (.d (.int (i:Int))) t) (h4:i < row.length) (h1:m G t = .ok (.d (.int y)) t):sAug p mi m f G t = .nx (G.set p (.l ((row.set i (f (row.getD i 0) y)).map .int))) t:=by
  rw [aug_nx' h2 h3 (ixN_nat (by rw [List.length_map]; exact h4)) (get_row h4) h1,set_row]
theorem ix_rowT {row:List Int} {i:Nat} (h:i < row.length):fIx (.d (.tuple (row.map .int))) (.d (.int (i:Int))) = some (.d (.int (row.getD i 0))):=by
  rw [ix_t,atI_row h]
  rfl
theorem ix_rowB {row:List Int} {i:Nat} (h:i < row.length):fIx (.b (row.map .int)) (.d (.int (i:Int))) = some (.d (.int (row.getD i 0))):=by
  rw [ix_b,atI_row h]
  rfl
theorem rb_tgt {R w x y:D} {a5:Sl}:sTgt (.tup [2,3,4]) (mVar 1) [.d R,.d (.tuple [w,x,y]),.un,.un,.un,a5] t = .nx [.d R,.d (.tuple [w,x,y]),.d w,.d x,.d y,a5] t:=rfl
theorem putAt_row {G:Gm} {p i:Nat} {row:List Int} {mi:EM} {x:Int} (h2:G[p]? = some (.l (row.map .int))) (h3:mi G t = .ok (.d (.int (i:Int))) t) (h4:i < row.length):DL.putAt p mi (.int x) G t = .nx (G.set p (.l ((row.set i x).map .int))) t:=by
  have n1:ixN (row.map PyData.int).length (i:Int) = some i:=ixN_nat (by rw [List.length_map]; exact h4)
  unfold DL.putAt
  simp only [h2,h3,Rs.fz,Rs.bind,Rs.bindS,Rv.fz,n1]
  rw [set_row]
theorem e_rb {d:Dd} (h:dOk row.length d) (hc:canD row d):f_row_behind [.d (tupI row),.d (ddD d)] t = .ok (.d (tupI (rbI row d))) t:=by
  obtain ⟨b,i,j⟩:=d
  obtain ⟨hi,hj,ne⟩:=h
  have hi:i < row.length:=hi
  have hj:j < row.length:=hj
  have ne:i ≠ j:=ne
  have x1:=ix_rowT hi
  have x2:=ix_rowT hj
  rw [u_row_behind]
  cases b with
  | true =>
    have hc:row.getD j 0 < row.getD i 0:=hc rfl
    have lt:¬ row.getD i 0 ≤ row.getD j 0:=by omega
    unfold tupI
    refine run_rt (G:=[.d (.tuple (row.map .int)),.d (ddD (true,i,j))]) rfl ?_
    show m_row_behind [.d (.tuple (row.map .int)),.d (.tuple [.str "transfer",.int (i:Int),.int (j:Int)]),.un,.un,.un,.un] t = _
    have g1:sAug 5 (mVar 3) (mC (.int 1)) (fun x y=>x - y) [.d (.tuple (row.map .int)),.d (.tuple [.str "transfer",.int (i:Int),.int (j:Int)]),.d (.str "transfer"),.d (.int (i:Int)),.d (.int (j:Int)),.l (row.map .int)] t = .nx [.d (.tuple (row.map .int)),.d (.tuple [.str "transfer",.int (i:Int),.int (j:Int)]),.d (.str "transfer"),.d (.int (i:Int)),.d (.int (j:Int)),.l ((row.set i (row.getD i 0 - 1)).map .int)] t:=aug_row (t:=t) (G:=[.d (.tuple (row.map .int)),.d (.tuple [.str "transfer",.int (i:Int),.int (j:Int)]),.d (.str "transfer"),.d (.int (i:Int)),.d (.int (j:Int)),.l (row.map .int)]) (p:=5) (mi:=mVar 3) (m:=mC (.int 1)) (f:=fun x y=>x - y) (y:=1) rfl rfl hi rfl
    have g2:sAug 5 (mVar 4) (mC (.int 1)) (fun x y=>x + y) [.d (.tuple (row.map .int)),.d (.tuple [.str "transfer",.int (i:Int),.int (j:Int)]),.d (.str "transfer"),.d (.int (i:Int)),.d (.int (j:Int)),.l ((row.set i (row.getD i 0 - 1)).map .int)] t = .nx [.d (.tuple (row.map .int)),.d (.tuple [.str "transfer",.int (i:Int),.int (j:Int)]),.d (.str "transfer"),.d (.int (i:Int)),.d (.int (j:Int)),.l (((row.set i (row.getD i 0 - 1)).set j ((row.set i (row.getD i 0 - 1)).getD j 0 + 1)).map .int)] t:=aug_row (t:=t) (G:=[.d (.tuple (row.map .int)),.d (.tuple [.str "transfer",.int (i:Int),.int (j:Int)]),.d (.str "transfer"),.d (.int (i:Int)),.d (.int (j:Int)),.l ((row.set i (row.getD i 0 - 1)).map .int)]) (p:=5) (mi:=mVar 4) (m:=mC (.int 1)) (f:=fun x y=>x + y) (y:=1) rfl rfl (i:=j) (by rw [List.length_set]; exact hj) rfl
    rw [getD_set_ne ne] at g2
    unfold m_row_behind
    rw [seq_nx rb_tgt]
    rw [seq_nx (G1:=[.d (.tuple (row.map .int)),.d (.tuple [.str "transfer",.int (i:Int),.int (j:Int)]),.d (.str "transfer"),.d (.int (i:Int)),.d (.int (j:Int)),.l (row.map .int)]) (t1:=t) (by simp! [])]
    rw [seq_nx (G1:=[.d (.tuple (row.map .int)),.d (.tuple [.str "transfer",.int (i:Int),.int (j:Int)]),.d (.str "transfer"),.d (.int (i:Int)),.d (.int (j:Int)),.l ((mvI row i j).map .int)]) (t1:=t) (by
      simp! [x1,x2,lt,g1,g2]
      rfl)]
    simp! []
    rfl
  | false =>
    unfold tupI
    refine run_rt (G:=[.d (.tuple (row.map .int)),.d (ddD (false,i,j))]) rfl ?_
    show m_row_behind [.d (.tuple (row.map .int)),.d (.tuple [.str "exchange",.int (i:Int),.int (j:Int)]),.un,.un,.un,.un] t = _
    have g1:sPut 5 (mVar 3) (mBin fIx (mVar 0) (mVar 4)) [.d (.tuple (row.map .int)),.d (.tuple [.str "exchange",.int (i:Int),.int (j:Int)]),.d (.str "exchange"),.d (.int (i:Int)),.d (.int (j:Int)),.l (row.map .int)] t = .nx [.d (.tuple (row.map .int)),.d (.tuple [.str "exchange",.int (i:Int),.int (j:Int)]),.d (.str "exchange"),.d (.int (i:Int)),.d (.int (j:Int)),.l ((row.set i (row.getD j 0)).map .int)] t:=put_row (t:=t) (G:=[.d (.tuple (row.map .int)),.d (.tuple [.str "exchange",.int (i:Int),.int (j:Int)]),.d (.str "exchange"),.d (.int (i:Int)),.d (.int (j:Int)),.l (row.map .int)]) (p:=5) (mi:=mVar 3) (m:=mBin fIx (mVar 0) (mVar 4)) (x:=row.getD j 0) (by simp! [x2]) rfl rfl hi
    have g2:sPut 5 (mVar 4) (mBin fIx (mVar 0) (mVar 3)) [.d (.tuple (row.map .int)),.d (.tuple [.str "exchange",.int (i:Int),.int (j:Int)]),.d (.str "exchange"),.d (.int (i:Int)),.d (.int (j:Int)),.l ((row.set i (row.getD j 0)).map .int)] t = .nx [.d (.tuple (row.map .int)),.d (.tuple [.str "exchange",.int (i:Int),.int (j:Int)]),.d (.str "exchange"),.d (.int (i:Int)),.d (.int (j:Int)),.l (((row.set i (row.getD j 0)).set j (row.getD i 0)).map .int)] t:=put_row (t:=t) (G:=[.d (.tuple (row.map .int)),.d (.tuple [.str "exchange",.int (i:Int),.int (j:Int)]),.d (.str "exchange"),.d (.int (i:Int)),.d (.int (j:Int)),.l ((row.set i (row.getD j 0)).map .int)]) (p:=5) (mi:=mVar 4) (m:=mBin fIx (mVar 0) (mVar 3)) (x:=row.getD i 0) (by simp! [x1]) rfl rfl (i:=j) (by rw [List.length_set]; exact hj)
    unfold m_row_behind
    rw [seq_nx rb_tgt]
    rw [seq_nx (G1:=[.d (.tuple (row.map .int)),.d (.tuple [.str "exchange",.int (i:Int),.int (j:Int)]),.d (.str "exchange"),.d (.int (i:Int)),.d (.int (j:Int)),.l (row.map .int)]) (t1:=t) (by simp! [])]
    rw [seq_nx (G1:=[.d (.tuple (row.map .int)),.d (.tuple [.str "exchange",.int (i:Int),.int (j:Int)]),.d (.str "exchange"),.d (.int (i:Int)),.d (.int (j:Int)),.l ((exI row i j).map .int)]) (t1:=t) (by
      simp! [g1,g2]
      rfl)]
    simp! []
    rfl
theorem e_rbNo {d:Dd} (h:dOk row.length d) (h1:d.1 = true) (hc:row.getD d.2.1 0 ≤ row.getD d.2.2 0):f_row_behind [.d (tupI row),.d (ddD d)] t = .ok (.d .none) t:=by
  obtain ⟨b,i,j⟩:=d
  obtain ⟨hi,hj,ne⟩:=h
  have hi:i < row.length:=hi
  have hj:j < row.length:=hj
  have h1:b = true:=h1
  subst h1
  have x1:=ix_rowT hi
  have x2:=ix_rowT hj
  have hc:row.getD i 0 ≤ row.getD j 0:=hc
  rw [u_row_behind]
  unfold tupI
  refine run_rt (G:=[.d (.tuple (row.map .int)),.d (ddD (true,i,j))]) rfl ?_
  show m_row_behind [.d (.tuple (row.map .int)),.d (.tuple [.str "transfer",.int (i:Int),.int (j:Int)]),.un,.un,.un,.un] t = _
  unfold m_row_behind
  rw [seq_nx rb_tgt]
  simp! [x1,x2,hc]
theorem e_lrb {d:Dd} (h:dOk row.length d):f__law_row_behind [.d (tupI row),.d (ddD d)] t = .ok (.d (tupI (rbI row d))) t:=by
  obtain ⟨b,i,j⟩:=d
  obtain ⟨hi,hj,ne⟩:=h
  have hi:i < row.length:=hi
  have hj:j < row.length:=hj
  have ne:i ≠ j:=ne
  have x1:=ix_rowT hi
  have x2:=ix_rowT hj
  rw [u__law_row_behind]
  cases b with
  | true =>
    unfold tupI
    refine run_rt (G:=[.d (.tuple (row.map .int)),.d (ddD (true,i,j))]) rfl ?_
    show m__law_row_behind [.d (.tuple (row.map .int)),.d (.tuple [.str "transfer",.int (i:Int),.int (j:Int)]),.un] t = _
    have y1:=ix_rowB hi
    have y2:=ix_rowB (row:=row.set i (row.getD i 0 - 1)) (i:=j) (by rw [List.length_set]; exact hj)
    rw [getD_set_ne ne] at y2
    have g1:sPut 2 (mBin fIx (mVar 1) (mC (.int 1))) (mBin fSub (mBin fIx (mVar 2) (mBin fIx (mVar 1) (mC (.int 1)))) (mC (.int 1))) [.d (.tuple (row.map .int)),.d (.tuple [.str "transfer",.int (i:Int),.int (j:Int)]),.l (row.map .int)] t = .nx [.d (.tuple (row.map .int)),.d (.tuple [.str "transfer",.int (i:Int),.int (j:Int)]),.l ((row.set i (row.getD i 0 - 1)).map .int)] t:=put_row (t:=t) (G:=[.d (.tuple (row.map .int)),.d (.tuple [.str "transfer",.int (i:Int),.int (j:Int)]),.l (row.map .int)]) (p:=2) (mi:=mBin fIx (mVar 1) (mC (.int 1))) (m:=mBin fSub (mBin fIx (mVar 2) (mBin fIx (mVar 1) (mC (.int 1)))) (mC (.int 1))) (x:=row.getD i 0 - 1) (by simp! [y1]) rfl (by simp! []) hi
    have g2:sPut 2 (mBin fIx (mVar 1) (mC (.int 2))) (mBin fAdd (mBin fIx (mVar 2) (mBin fIx (mVar 1) (mC (.int 2)))) (mC (.int 1))) [.d (.tuple (row.map .int)),.d (.tuple [.str "transfer",.int (i:Int),.int (j:Int)]),.l ((row.set i (row.getD i 0 - 1)).map .int)] t = .nx [.d (.tuple (row.map .int)),.d (.tuple [.str "transfer",.int (i:Int),.int (j:Int)]),.l (((row.set i (row.getD i 0 - 1)).set j (row.getD j 0 + 1)).map .int)] t:=put_row (t:=t) (G:=[.d (.tuple (row.map .int)),.d (.tuple [.str "transfer",.int (i:Int),.int (j:Int)]),.l ((row.set i (row.getD i 0 - 1)).map .int)]) (p:=2) (mi:=mBin fIx (mVar 1) (mC (.int 2))) (m:=mBin fAdd (mBin fIx (mVar 2) (mBin fIx (mVar 1) (mC (.int 2)))) (mC (.int 1))) (x:=row.getD j 0 + 1) (by simp! [y2]) rfl (by simp! []) (i:=j) (by rw [List.length_set]; exact hj)
    unfold m__law_row_behind
    rw [seq_nx (G1:=[.d (.tuple (row.map .int)),.d (.tuple [.str "transfer",.int (i:Int),.int (j:Int)]),.l (row.map .int)]) (t1:=t) (by simp! [])]
    rw [seq_nx (G1:=[.d (.tuple (row.map .int)),.d (.tuple [.str "transfer",.int (i:Int),.int (j:Int)]),.l ((mvI row i j).map .int)]) (t1:=t) (by
      simp! [g1,g2]
      rfl)]
    simp! []
    rfl
  | false =>
    unfold tupI
    refine run_rt (G:=[.d (.tuple (row.map .int)),.d (ddD (false,i,j))]) rfl ?_
    show m__law_row_behind [.d (.tuple (row.map .int)),.d (.tuple [.str "exchange",.int (i:Int),.int (j:Int)]),.un] t = _
    unfold m__law_row_behind
    rw [seq_nx (G1:=[.d (.tuple (row.map .int)),.d (.tuple [.str "exchange",.int (i:Int),.int (j:Int)]),.l (row.map .int)]) (t1:=t) (by simp! [])]
    have sw:sSwp 2 (mTup (mCons (mBin fIx (mVar 0) (mBin fIx (mVar 1) (mC (.int 2)))) (mCons (mBin fIx (mVar 0) (mBin fIx (mVar 1) (mC (.int 1)))) (mNil)))) (mBin fIx (mVar 1) (mC (.int 1))) (mBin fIx (mVar 1) (mC (.int 2))) [.d (.tuple (row.map .int)),.d (.tuple [.str "exchange",.int (i:Int),.int (j:Int)]),.l (row.map .int)] t = .nx [.d (.tuple (row.map .int)),.d (.tuple [.str "exchange",.int (i:Int),.int (j:Int)]),.l ((exI row i j).map .int)] t:=by
      have p1:mTup (mCons (mBin fIx (mVar 0) (mBin fIx (mVar 1) (mC (.int 2)))) (mCons (mBin fIx (mVar 0) (mBin fIx (mVar 1) (mC (.int 1)))) (mNil))) [.d (.tuple (row.map .int)),.d (.tuple [.str "exchange",.int (i:Int),.int (j:Int)]),.l (row.map .int)] t = .ok (.d (.tuple [.int (row.getD j 0),.int (row.getD i 0)])) t:=by simp! [x1,x2]
      have a1:mBin fIx (mVar 1) (mC (.int 1)) [.d (.tuple (row.map .int)),.d (.tuple [.str "exchange",.int (i:Int),.int (j:Int)]),.l (row.map .int)] t = .ok (.d (.int (i:Int))) t:=by simp! []
      have a2:mBin fIx (mVar 1) (mC (.int 2)) [.d (.tuple (row.map .int)),.d (.tuple [.str "exchange",.int (i:Int),.int (j:Int)]),.l ((row.set i (row.getD j 0)).map .int)] t = .ok (.d (.int (j:Int))) t:=by simp! []
      have q1:=putAt_row (t:=t) (G:=[.d (.tuple (row.map .int)),.d (.tuple [.str "exchange",.int (i:Int),.int (j:Int)]),.l (row.map .int)]) (p:=2) (x:=row.getD j 0) rfl a1 hi
      have q2:=putAt_row (t:=t) (G:=[.d (.tuple (row.map .int)),.d (.tuple [.str "exchange",.int (i:Int),.int (j:Int)]),.l ((row.set i (row.getD j 0)).map .int)]) (p:=2) (x:=row.getD i 0) rfl a2 (by rw [List.length_set]; exact hj)
      unfold sSwp
      rw [p1]
      show So.nxt (DL.putAt 2 (mBin fIx (mVar 1) (mC (.int 1))) (.int (row.getD j 0)) _ t) _ = _
      rw [q1]
      exact q2
    rw [seq_nx (G1:=[.d (.tuple (row.map .int)),.d (.tuple [.str "exchange",.int (i:Int),.int (j:Int)]),.l ((exI row i j).map .int)]) (t1:=t) (by
      simp! [sw])]
    simp! []
    rfl
end
theorem ch_lt {a b c:EM} {G:Gm} {t:Option DS} {x y z:Int} (ha:a G t = .ok (.d (.int x)) t) (hb:b G t = .ok (.d (.int y)) t) (hc:c G t = .ok (.d (.int z)) t):mChain (fCm iLe) (fCm iLt) a b c G t = .ok (.d (.bool (decide (x ≤ y) && decide (y < z)))) t:=by
  by_cases h0:x ≤ y
  · by_cases h1:y < z
    · simp [mChain,ha,hb,hc,Rs.bind,Rs.fz,Rv.fz,fRead,Rv.toD,gCmp,iLe,iLt,h0,h1,Rv.bl,Rs.of]
    · simp [mChain,ha,hb,hc,Rs.bind,Rs.fz,Rv.fz,fRead,Rv.toD,gCmp,iLe,iLt,h0,h1,Rv.bl,Rs.of]
  · simp [mChain,ha,hb,hc,Rs.bind,Rs.fz,Rv.fz,fRead,Rv.toD,gCmp,iLe,h0,Rv.bl,Rs.of]
def scn:List Int → List Dd → List (List Int)
  | r,[]=>[r]
  | r,d :: ds=>r :: scn (rbI r d) ds
def canAll:List Int → List Dd → Prop
  | _,[]=>True
  | r,d :: ds=>canD r d ∧ canAll (rbI r d) ds
section
variable {n:Nat} {t:Option DS}
theorem e_name {i:Int}:f_is_name [.d (.int (n:Int)),.d (.int i)] t = .ok (.d (.bool (decide (0 ≤ i) && decide (i < (n:Int))))) t:=by
  have c:mChain (fCm iLe) (fCm iLt) (mC (.int 0)) (mVar 1) (mVar 0) [.d (.int (n:Int)),.d (.int i)] t = .ok (.d (.bool (decide (0 ≤ i) && decide (i < (n:Int))))) t:=ch_lt rfl rfl rfl
  rw [u_is_name]
  simp! [m_is_name,c]
theorem ni_t:fNotIn (.d (.str "transfer")) (.d (.tuple [.str "transfer",.str "exchange"])) = some (.d (.bool false)):=by kernel_rfl
theorem ni_e:fNotIn (.d (.str "exchange")) (.d (.tuple [.str "transfer",.str "exchange"])) = some (.d (.bool false)):=by kernel_rfl
theorem e_deed {d:Dd} (h:dOk n d):f_is_deed [.d (.int (n:Int)),.d (ddD d)] t = .ok (.d (.bool true)) t:=by
  obtain ⟨b,i,j⟩:=d
  obtain ⟨hi,hj,ne⟩:=h
  have hi:i < n:=hi
  have hj:j < n:=hj
  have ne:i ≠ j:=ne
  have e1:=e_name (n:=n) (t:=t) (i:=(i:Int))
  have e2:=e_name (n:=n) (t:=t) (i:=(j:Int))
  rw [decide_eq_true (by omega),decide_eq_true (by omega)] at e1 e2
  have n1:fNe (.d (.int (i:Int))) (.d (.int (j:Int))) = some (.d (.bool true)):=by rw [ne_i,decide_eq_false (by omega:¬ (i:Int) = (j:Int))]; rfl
  have e1:f_is_name [.d (.int (n:Int)),.d (.int (i:Int))] t = .ok (.d (.bool true)) t:=e1
  have e2:f_is_name [.d (.int (n:Int)),.d (.int (j:Int))] t = .ok (.d (.bool true)) t:=e2
  have s1:=ni_t
  have s2:=ni_e
  have d3:decide (((3:Nat):Int) = 3) = true:=by decide
  rw [u_is_deed]
  cases b with
  | true =>
    show runM m_is_deed 2 [.d (.int (n:Int)),.d (.tuple [.str "transfer",.int (i:Int),.int (j:Int)])] t = _
    simp! [m_is_deed,d3,s1,s2,e1,e2,n1]
  | false =>
    show runM m_is_deed 2 [.d (.int (n:Int)),.d (.tuple [.str "exchange",.int (i:Int),.int (j:Int)])] t = _
    simp! [m_is_deed,d3,s1,s2,e1,e2,n1]
abbrev gnw (n:Nat) (st Y:D) (a3 a4 a5:Sl):Gm:=[.d (.int (n:Int)),.d st,.d Y,a3,a4,a5]
variable {ws:List D} {st:D}
theorem ix_ws {k:Nat} (h:k < ws.length):fIx (.d (.tuple ws)) (.d (.int (k:Int))) = some (.d (ws.getD k .none)):=by
  rw [ix_t,atI_nat (List.getElem?_eq_getElem h),List.getD_eq_getElem?_getD,List.getElem?_eq_getElem h]
  rfl
theorem nw_ok {a4 a5:Sl}:∀ (m k:Nat) (a3:Sl),k + m ≤ ws.length → (∀ j,k ≤ j → j < k + m → f_is_deed [.d (.int (n:Int)),.d (ws.getD j .none)] t = .ok (.d (.bool true)) t) → ∃ b3,loop (.nm 3) L_need_way_1 ((List.range' k m).map fun i:Nat=>PyData.int (i:Int)) (gnw n st (.tuple ws) a3 a4 a5) t = .nx (gnw n st (.tuple ws) b3 a4 a5) t
  | 0,k,a3,_,_=>⟨a3,rfl⟩
  | m + 1,k,a3,hl,h=>by
    obtain ⟨b3,e⟩:=nw_ok (a4:=a4) (a5:=a5) m (k + 1) (.d (.int (k:Int))) (by omega) fun j h1 h2=>h j (by omega) (by omega)
    have x:=ix_ws (ws:=ws) (k:=k) (by omega)
    have y:=h k (Nat.le_refl _) (by omega)
    refine ⟨b3,?_⟩
    rw [List.range'_succ,List.map_cons]
    refine (loop_nx rfl ?_).trans e
    simp! [L_need_way_1,x,y]
theorem nw_bad {a4 a5:Sl} {p:Nat} (hp:p < ws.length) (hb:f_is_deed [.d (.int (n:Int)),.d (ws.getD p .none)] t = .ok (.d (.bool false)) t):∀ (m k:Nat) (a3:Sl),k ≤ p → p < k + m → k + m ≤ ws.length → (∀ j,k ≤ j → j < p → f_is_deed [.d (.int (n:Int)),.d (ws.getD j .none)] t = .ok (.d (.bool true)) t) → ∃ G,loop (.nm 3) L_need_way_1 ((List.range' k m).map fun i:Nat=>PyData.int (i:Int)) (gnw n st (.tuple ws) a3 a4 a5) t = .ex "BadWay" [("place",.int (p:Int))] G t
  | 0,k,a3,h1,h2,_,_=>by omega
  | m + 1,k,a3,h1,h2,hl,h=>by
    rw [List.range'_succ,List.map_cons]
    have x:=ix_ws (ws:=ws) (k:=k) (by omega)
    by_cases e:k = p
    · subst e
      refine ⟨gnw n st (.tuple ws) (.d (.int (k:Int))) a4 a5,loop_ex (G1:=gnw n st (.tuple ws) (.d (.int (k:Int))) a4 a5) rfl ?_⟩
      simp! [L_need_way_1,x,hb]
    · obtain ⟨G,g⟩:=nw_bad (a4:=a4) (a5:=a5) hp hb m (k + 1) (.d (.int (k:Int))) (by omega) (by omega) (by omega) fun j q1 q2=>h j (by omega) q2
      have y:=h k (Nat.le_refl _) (by omega)
      refine ⟨G,(loop_nx rfl ?_).trans g⟩
      simp! [L_need_way_1,x,y]
theorem last_ix {acc:List D} {x:D}:fIx (.b (acc ++ [x])) (.d (.int (-1))) = some (.d x):=by
  rw [ix_b,atI_last (by rw [List.getLast?_append]; rfl)]
  rfl
theorem nr_ok (hn:n ≤ 5):∀ (ds:List Dd) (k:Nat) (row:List Int) (acc:List D) (a3 a5:Sl),(∀ j:Nat,j < ds.length → ws.getD (k + j) .none = ddD (ds.getD j (true,0,0))) → k + ds.length ≤ ws.length → row.length = n → (∀ d ∈ ds,dOk n d) → canAll row ds → acc.length + ds.length ≤ 1000 →
    ∃ b3 b5,loop (.nm 3) L_need_way_0 ((List.range' k ds.length).map fun i:Nat=>PyData.int (i:Int)) (gnw n st (.tuple ws) a3 (.l (acc ++ [tupI row])) a5) t = .nx (gnw n st (.tuple ws) b3 (.l (acc ++ (scn row ds).map tupI)) b5) t
  | [],k,row,acc,a3,a5,_,_,_,_,_,_=>⟨a3,a5,rfl⟩
  | d :: ds,k,row,acc,a3,a5,hw,hl,hr,hd,hc,hk=>by
    rw [List.length_cons] at hl hk
    have h0:=hw 0 (by rw [List.length_cons]; omega)
    have x:=ix_ws (ws:=ws) (k:=k) (by omega)
    have h0:ws.getD k .none = ddD d:=h0
    rw [h0] at x
    have rb:=e_rb (t:=t) (row:=row) (d:=d) (by rw [hr]; exact hd d List.mem_cons_self) hc.1
    obtain ⟨b3,b5,e⟩:=nr_ok hn ds (k + 1) (rbI row d) (acc ++ [tupI row]) (.d (.int (k:Int))) (.d (tupI (rbI row d))) (fun j hj=>by
      have:=hw (j + 1) (by rw [List.length_cons]; omega)
      rw [show k + 1 + j = k + (j + 1) by omega,this]
      rfl) (by omega) (by rw [rbI_len]; exact hr) (fun y hy=>hd y (List.mem_cons_of_mem _ hy)) hc.2 (by rw [List.length_append,List.length_singleton]; omega)
    refine ⟨b3,b5,?_⟩
    have lx:=last_ix (acc:=acc) (x:=tupI row)
    have eS:acc ++ (scn row (d :: ds)).map tupI = acc ++ [tupI row] ++ (scn (rbI row d) ds).map tupI:=by
      show acc ++ (tupI row :: (scn (rbI row d) ds).map tupI) = _
      rw [List.append_assoc]
      rfl
    rw [eS,List.length_cons,List.range'_succ,List.map_cons]
    refine (loop_nx rfl ?_).trans e
    have bl:(acc ++ [tupI row]).length < 16777216:=by rw [List.length_append,List.length_singleton]; omega
    have it:fIs (.d (tupI (rbI row d))) (.d .none) = some (.d (.bool false)):=rfl
    generalize tupI (rbI row d) = R at rb it
    generalize tupI row = R0 at lx rb bl
    simp! [L_need_way_0,lx,x,rb,it,bl]
theorem nr_bad (hn:n ≤ 5) {b:Dd} (hb:dOk n b) (hb1:b.1 = true) (m:Nat):∀ (ds:List Dd) (k:Nat) (row:List Int) (acc:List D) (a3 a5:Sl),(∀ j:Nat,j < ds.length → ws.getD (k + j) .none = ddD (ds.getD j (true,0,0))) → ws.getD (k + ds.length) .none = ddD b → k + ds.length < ws.length → row.length = n → (∀ d ∈ ds,dOk n d) → canAll row ds → acc.length + ds.length ≤ 1000 → (ds.foldl rbI row).getD b.2.1 0 ≤ (ds.foldl rbI row).getD b.2.2 0 →
    ∃ G,loop (.nm 3) L_need_way_0 ((List.range' k (ds.length + 1 + m)).map fun i:Nat=>PyData.int (i:Int)) (gnw n st (.tuple ws) a3 (.l (acc ++ [tupI row])) a5) t = .ex "BadStep" [("place",.int ((k + ds.length:Nat):Int))] G t
  | [],k,row,acc,a3,a5,_,h0,hl,hr,_,_,_,hle=>by
    have h0:ws.getD k .none = ddD b:=h0
    have x:=ix_ws (ws:=ws) (k:=k) hl
    rw [h0] at x
    have rb:=e_rbNo (t:=t) (row:=row) (d:=b) (by rw [hr]; exact hb) hb1 hle
    have lx:=last_ix (acc:=acc) (x:=tupI row)
    rw [List.length_nil,Nat.zero_add,Nat.add_comm,List.range'_succ,List.map_cons]
    refine ⟨gnw n st (.tuple ws) (.d (.int (k:Int))) (.l (acc ++ [tupI row])) (.d .none),loop_ex (G1:=gnw n st (.tuple ws) (.d (.int (k:Int))) (.l (acc ++ [tupI row])) a5) rfl ?_⟩
    generalize tupI row = R0 at lx rb
    simp! [L_need_way_0,lx,x,rb]
  | d :: ds,k,row,acc,a3,a5,hw,h9,hl,hr,hd,hc,hk,hle=>by
    rw [List.length_cons] at hl hk h9
    have h0:=hw 0 (by rw [List.length_cons]; omega)
    have x:=ix_ws (ws:=ws) (k:=k) (by omega)
    have h0:ws.getD k .none = ddD d:=h0
    rw [h0] at x
    have rb:=e_rb (t:=t) (row:=row) (d:=d) (by rw [hr]; exact hd d List.mem_cons_self) hc.1
    obtain ⟨G,e⟩:=nr_bad hn hb hb1 m ds (k + 1) (rbI row d) (acc ++ [tupI row]) (.d (.int (k:Int))) (.d (tupI (rbI row d))) (fun j hj=>by
      have:=hw (j + 1) (by rw [List.length_cons]; omega)
      rw [show k + 1 + j = k + (j + 1) by omega,this]
      rfl) (by rw [show k + 1 + ds.length = k + (ds.length + 1) by omega]; exact h9) (by omega) (by rw [rbI_len]; exact hr) (fun y hy=>hd y (List.mem_cons_of_mem _ hy)) hc.2 (by rw [List.length_append,List.length_singleton]; omega) hle
    refine ⟨G,?_⟩
    have lx:=last_ix (acc:=acc) (x:=tupI row)
    rw [List.length_cons,show ds.length + 1 + 1 + m = (ds.length + 1 + m) + 1 by omega,List.range'_succ,List.map_cons,show k + (ds.length + 1) = k + 1 + ds.length by omega]
    refine (loop_nx rfl ?_).trans e
    have bl:(acc ++ [tupI row]).length < 16777216:=by rw [List.length_append,List.length_singleton]; omega
    have it:fIs (.d (tupI (rbI row d))) (.d .none) = some (.d (.bool false)):=rfl
    generalize tupI (rbI row d) = R at rb it
    generalize tupI row = R0 at lx rb bl
    simp! [L_need_way_0,lx,x,rb,it,bl]
end
section
variable {n:Nat} {t:Option DS} {st:D}
theorem getD_map (ds:List Dd) (rest:List D) {j:Nat} (h:j < ds.length):(ds.map ddD ++ rest).getD j .none = ddD (ds.getD j (true,0,0)):=by
  rw [List.getD_eq_getElem?_getD,List.getElem?_append_left (by rw [List.length_map]; exact h),List.getElem?_map,List.getElem?_eq_getElem h,List.getD_eq_getElem?_getD,List.getElem?_eq_getElem h]
  rfl
theorem getD_mid (ds:List Dd) (x:D) (rest:List D):(ds.map ddD ++ x :: rest).getD ds.length .none = x:=by
  rw [List.getD_eq_getElem?_getD,List.getElem?_append_right (by rw [List.length_map]; exact Nat.le_refl _),List.length_map,Nat.sub_self]
  rfl
theorem getD_ok {ds:List Dd} (hd:∀ d ∈ ds,dOk n d) {j:Nat} (h:j < ds.length):dOk n (ds.getD j (true,0,0)):=by
  rw [List.getD_eq_getElem?_getD,List.getElem?_eq_getElem h]
  exact hd _ (List.getElem_mem h)
theorem rng_r' (m:Nat):rangeD 0 m = (List.range' 0 m).map fun i:Nat=>PyData.int (i:Int):=range_eq' 0 m
theorem e_way (hn:n ≤ 5) {ds:List Dd} {row:List Int} (hr:row.length = n) (hd:∀ d ∈ ds,dOk n d) (hc:canAll row ds) (hl:ds.length ≤ 60):f_need_way [.d (.int (n:Int)),.d (tupI row),.d (.tuple (ds.map ddD))] t = .ok (.d (.list ((scn row ds).map tupI))) t:=by
  have g:∀ j:Nat,j < ds.length → (ds.map ddD).getD j .none = ddD (ds.getD j (true,0,0)):=fun j hj=>by
    have:=getD_map ds [] hj
    rwa [List.append_nil] at this
  obtain ⟨b3,e1⟩:=nw_ok (n:=n) (t:=t) (st:=tupI row) (ws:=ds.map ddD) (a4:=.un) (a5:=.un) ds.length 0 .un (by rw [List.length_map]; omega) (fun j _ hj=>by
    rw [g j (by omega)]
    exact e_deed (getD_ok hd (by omega)))
  obtain ⟨c3,c5,e2⟩:=nr_ok (n:=n) (t:=t) (st:=tupI row) (ws:=ds.map ddD) hn ds 0 row [] b3 .un (fun j hj=>by rw [Nat.zero_add]; exact g j hj) (by rw [List.length_map]; omega) hr hd hc (by rw [List.length_nil]; omega)
  rw [List.nil_append,List.nil_append] at e2
  rw [← rng_r'] at e1 e2
  have l60:¬ (60:Int) < (((ds.map ddD).length:Nat):Int):=by rw [List.length_map]; omega
  have r1:rngOk (((ds.map ddD).length:Nat):Int) = true:=rng_nat _ (by rw [List.length_map]; omega)
  have lm:(ds.map ddD).length = ds.length:=List.length_map _
  rw [← lm] at e1 e2
  rw [u_need_way]
  generalize tupI row = R at e1 e2 ⊢
  generalize (scn row ds).map tupI = S at e2 ⊢
  generalize ds.map ddD = W at e1 e2 l60 r1 ⊢
  refine run_rt (G:=[.d (.int (n:Int)),.d R,.d (.tuple W)]) rfl ?_
  show m_need_way [.d (.int (n:Int)),.d R,.d (.tuple W),.un,.un,.un] t = _
  simp! [m_need_way,l60,r1,Int.toNat_natCast,e1,e2]
theorem e_wayT {x:D} (h:isT "tuple" x = false):f_need_way [.d (.int (n:Int)),.d st,.d x] t = .ex "BadWay" [("place",.int 0)] t:=by
  rw [u_need_way]
  simp! [m_need_way,h]
theorem e_way60 {ws:List D} (h:60 < ws.length):f_need_way [.d (.int (n:Int)),.d st,.d (.tuple ws)] t = .ex "BadWay" [("place",.int 60)] t:=by
  have l60:(60:Int) < ((ws.length:Nat):Int):=by omega
  rw [u_need_way]
  simp! [m_need_way,l60]
theorem e_wayOdd {ds:List Dd} {x:D} {rest:List D} (hd:∀ d ∈ ds,dOk n d) (hx:f_is_deed [.d (.int (n:Int)),.d x] t = .ok (.d (.bool false)) t) (hl:ds.length + 1 + rest.length ≤ 60):f_need_way [.d (.int (n:Int)),.d st,.d (.tuple (ds.map ddD ++ x :: rest))] t = .ex "BadWay" [("place",.int (ds.length:Int))] t:=by
  have len:(ds.map ddD ++ x :: rest).length = ds.length + 1 + rest.length:=by rw [List.length_append,List.length_map,List.length_cons]; omega
  obtain ⟨G,e1⟩:=nw_bad (n:=n) (t:=t) (st:=st) (ws:=ds.map ddD ++ x :: rest) (p:=ds.length) (a4:=.un) (a5:=.un) (by omega) (by rw [getD_mid]; exact hx) (ds.map ddD ++ x :: rest).length 0 .un (by omega) (by omega) (by omega) (fun j _ hj=>by
    rw [getD_map ds _ hj]
    exact e_deed (getD_ok hd hj))
  rw [← rng_r'] at e1
  have l60:¬ (60:Int) < (((ds.map ddD ++ x :: rest).length:Nat):Int):=by omega
  have r1:rngOk (((ds.map ddD ++ x :: rest).length:Nat):Int) = true:=rng_nat _ (by omega)
  rw [u_need_way]
  generalize ds.map ddD ++ x :: rest = W at e1 l60 r1 ⊢
  refine run_ex (G:=[.d (.int (n:Int)),.d st,.d (.tuple W)]) (G':=G) rfl ?_
  show m_need_way [.d (.int (n:Int)),.d st,.d (.tuple W),.un,.un,.un] t = _
  simp! [m_need_way,l60,r1,Int.toNat_natCast,e1]
theorem e_wayStep (hn:n ≤ 5) {ds:List Dd} {row:List Int} {b:Dd} {es:List Dd} (hr:row.length = n) (hd:∀ d ∈ ds,dOk n d) (hb:dOk n b) (he:∀ d ∈ es,dOk n d) (hb1:b.1 = true) (hc:canAll row ds) (hle:(ds.foldl rbI row).getD b.2.1 0 ≤ (ds.foldl rbI row).getD b.2.2 0) (hl:ds.length + 1 + es.length ≤ 60):f_need_way [.d (.int (n:Int)),.d (tupI row),.d (.tuple (ds.map ddD ++ ddD b :: es.map ddD))] t = .ex "BadStep" [("place",.int (ds.length:Int))] t:=by
  have len:(ds.map ddD ++ ddD b :: es.map ddD).length = ds.length + 1 + es.length:=by rw [List.length_append,List.length_map,List.length_cons,List.length_map]; omega
  have eW:ds.map ddD ++ ddD b :: es.map ddD = (ds ++ b :: es).map ddD:=by rw [List.map_append,List.map_cons]
  have hall:∀ d ∈ ds ++ b :: es,dOk n d:=fun d h=>by
    rcases List.mem_append.mp h with h | h
    · exact hd d h
    · rcases List.mem_cons.mp h with rfl | h
      · exact hb
      · exact he d h
  obtain ⟨b3,e1⟩:=nw_ok (n:=n) (t:=t) (st:=tupI row) (ws:=ds.map ddD ++ ddD b :: es.map ddD) (a4:=.un) (a5:=.un) (ds.map ddD ++ ddD b :: es.map ddD).length 0 .un (by omega) (fun j _ hj=>by
    rw [eW]
    have q:j < (ds ++ b :: es).length:=by rw [List.length_append,List.length_cons]; omega
    have:=getD_map (ds ++ b :: es) [] q
    rw [List.append_nil] at this
    rw [this]
    exact e_deed (getD_ok hall q))
  obtain ⟨G,e2⟩:=nr_bad (n:=n) (t:=t) (st:=tupI row) (ws:=ds.map ddD ++ ddD b :: es.map ddD) hn hb hb1 es.length ds 0 row [] b3 .un (fun j hj=>by rw [Nat.zero_add]; exact getD_map ds _ hj) (by rw [Nat.zero_add]; exact getD_mid ds _ _) (by omega) hr hd hc (by rw [List.length_nil]; omega) hle
  rw [List.nil_append,← len,Nat.zero_add] at e2
  rw [← rng_r'] at e1 e2
  have l60:¬ (60:Int) < (((ds.map ddD ++ ddD b :: es.map ddD).length:Nat):Int):=by omega
  have r1:rngOk (((ds.map ddD ++ ddD b :: es.map ddD).length:Nat):Int) = true:=rng_nat _ (by omega)
  rw [u_need_way]
  generalize tupI row = R at e1 e2 ⊢
  generalize ds.map ddD ++ ddD b :: es.map ddD = W at e1 e2 l60 r1 ⊢
  refine run_ex (G:=[.d (.int (n:Int)),.d R,.d (.tuple W)]) (G':=G) rfl ?_
  show m_need_way [.d (.int (n:Int)),.d R,.d (.tuple W),.un,.un,.un] t = _
  simp! [m_need_way,l60,r1,Int.toNat_natCast,e1,e2]
end
section
variable {n:Nat} {t:Option DS}
theorem lr_loop (hn:n ≤ 5) {R Y:D}:∀ (ds:List Dd) (row:List Int) (acc:List D) (a3:Sl),row.length = n → (∀ d ∈ ds,dOk n d) → acc.length + ds.length ≤ 1000 →
    ∃ b3,loop (.nm 3) L__law_rows_on_0 (ds.map ddD) [.d R,.d Y,.l (acc ++ [tupI row]),a3] t = .nx [.d R,.d Y,.l (acc ++ (scn row ds).map tupI),b3] t
  | [],row,acc,a3,_,_,_=>⟨a3,rfl⟩
  | d :: ds,row,acc,a3,hr,hd,hk=>by
    rw [List.length_cons] at hk
    have rb:=e_lrb (t:=t) (row:=row) (d:=d) (by rw [hr]; exact hd d List.mem_cons_self)
    obtain ⟨b3,e⟩:=lr_loop hn (R:=R) (Y:=Y) ds (rbI row d) (acc ++ [tupI row]) (.d (ddD d)) (by rw [rbI_len]; exact hr) (fun y hy=>hd y (List.mem_cons_of_mem _ hy)) (by rw [List.length_append,List.length_singleton]; omega)
    refine ⟨b3,?_⟩
    have lx:=last_ix (acc:=acc) (x:=tupI row)
    have eS:acc ++ (scn row (d :: ds)).map tupI = acc ++ [tupI row] ++ (scn (rbI row d) ds).map tupI:=by
      show acc ++ (tupI row :: (scn (rbI row d) ds).map tupI) = _
      rw [List.append_assoc]
      rfl
    rw [eS,List.map_cons]
    refine (loop_nx rfl ?_).trans e
    have bl:(acc ++ [tupI row]).length < 16777216:=by rw [List.length_append,List.length_singleton]; omega
    generalize tupI (rbI row d) = R1 at rb
    generalize tupI row = R0 at lx rb bl
    simp! [L__law_rows_on_0,lx,rb,bl]
theorem e_lrows (hn:n ≤ 5) {ds:List Dd} {row:List Int} (hr:row.length = n) (hd:∀ d ∈ ds,dOk n d) (hl:ds.length ≤ 60):f__law_rows_on [.d (tupI row),.d (.tuple (ds.map ddD))] t = .ok (.d (.list ((scn row ds).map tupI))) t:=by
  obtain ⟨b3,e⟩:=lr_loop (t:=t) hn (R:=tupI row) (Y:=.tuple (ds.map ddD)) ds row [] .un hr hd (by rw [List.length_nil]; omega)
  rw [List.nil_append,List.nil_append] at e
  rw [u__law_rows_on]
  generalize tupI row = R at e ⊢
  generalize (scn row ds).map tupI = S at e ⊢
  generalize ds.map ddD = W at e ⊢
  refine run_rt (G:=[.d R,.d (.tuple W)]) rfl ?_
  show m__law_rows_on [.d R,.d (.tuple W),.un,.un] t = _
  simp! [m__law_rows_on,e]
theorem e_rowson (hn:n = 2 ∨ n = 3 ∨ n = 4 ∨ n = 5) {row:List Int} {W:D} (hr:row.length = n) (hb:∀ x ∈ row,0 ≤ x ∧ x ≤ 24):(∀ xs,f_need_way [.d (.int (n:Int)),.d (tupI row),.d W] t = .ok (.d (.list xs)) t → f_rows_on [.d (.int (n:Int)),.d (tupI row),.d W] t = .ok (.d (.tuple xs)) t) ∧ ∀ c fs,f_need_way [.d (.int (n:Int)),.d (tupI row),.d W] t = .ex c fs t → f_rows_on [.d (.int (n:Int)),.d (tupI row),.d W] t = .ex c fs t:=by
  have e1:f_need_many [.d (.int (n:Int))] t = .ok (.d (.int (n:Int))) t:=e_many (n:Int) (by omega) t
  have e2:=e_need_row hn (t:=t) hr hb
  refine ⟨fun xs h=>?_,fun c fs h=>?_⟩
  · rw [u_rows_on]
    simp! [m_rows_on,e1,e2,h]
  · rw [u_rows_on]
    simp! [m_rows_on,e1,e2,h]
end
theorem row_ext {a b:List Int} (hl:a.length = b.length) (h:∀ k,k < a.length → a.getD k 0 = b.getD k 0):a = b:=by
  refine List.ext_getElem hl fun k h1 h2=>?_
  have:=h k h1
  rw [List.getD_eq_getElem?_getD,List.getD_eq_getElem?_getD,List.getElem?_eq_getElem h1,List.getElem?_eq_getElem h2] at this
  exact this
theorem mvI_get {row:List Int} {i j k:Nat} (hi:i < row.length) (hj:j < row.length) (ne:i ≠ j):(mvI row i j).getD k 0 = if k = j then row.getD j 0 + 1 else if k = i then row.getD i 0 - 1 else row.getD k 0:=by
  unfold mvI
  by_cases h1:k = j
  · rw [if_pos h1,h1,getD_set_eq (by rw [List.length_set]; exact hj)]
  · rw [if_neg h1,getD_set_ne (fun q=>h1 q.symm)]
    by_cases h2:k = i
    · rw [if_pos h2,h2,getD_set_eq hi]
    · rw [if_neg h2,getD_set_ne (fun q=>h2 q.symm)]
theorem exI_get {row:List Int} {i j k:Nat} (hi:i < row.length) (hj:j < row.length) (ne:i ≠ j):(exI row i j).getD k 0 = if k = j then row.getD i 0 else if k = i then row.getD j 0 else row.getD k 0:=by
  unfold exI
  by_cases h1:k = j
  · rw [if_pos h1,h1,getD_set_eq (by rw [List.length_set]; exact hj)]
  · rw [if_neg h1,getD_set_ne (fun q=>h1 q.symm)]
    by_cases h2:k = i
    · rw [if_pos h2,h2,getD_set_eq hi]
    · rw [if_neg h2,getD_set_ne (fun q=>h2 q.symm)]
theorem canAll_app:∀ (ds:List Dd) (row:List Int) (d:Dd),canAll row ds → canD (ds.foldl rbI row) d → canAll row (ds ++ [d])
  | [],_,_,_,h=>⟨h,trivial⟩
  | e :: ds,row,d,h,g=>⟨h.1,canAll_app ds (rbI row e) d h.2 g⟩
theorem fold_len (n:Nat):∀ (ds:List Dd) (row:List Int),row.length = n → (ds.foldl rbI row).length = n
  | [],_,h=>h
  | d :: ds,row,h=>fold_len n ds (rbI row d) (by rw [rbI_len]; exact h)
section
variable {n:Nat} (hn:n = 2 ∨ n = 3 ∨ n = 4 ∨ n = 5)
include hn
theorem way_step {R K:D} {k:Nat} {t:Option DS} (hJ:J k t) (hk:k ≤ 800000) {row:List Int} (hr:row.length = n) {W:List D} (hW:W.length ≤ 100) {a6 a7 a8 a9 a10:Sl}:∃ (d:Dd) (b7 b8 b9:Sl) (t':Option DS),dOk n d ∧ canD row d ∧ J (k + 3) t' ∧ L__law_way_0 [.s,.d (.int (n:Int)),.d R,.d K,.d (.tuple W),.d (tupI row),a6,a7,a8,a9,a10] t = .nx [.s,.d (.int (n:Int)),.d R,.d K,.d (.tuple (W ++ [ddD d])),.d (tupI (rbI row d)),a6,b7,b8,b9,.d (ddD d)] t':=by
  obtain ⟨i,j,t1,e1,j1,hi,hj,ne⟩:=e_twoN hn hJ (by omega)
  obtain ⟨p,t2,e2,j2,p0,p1⟩:=dr (l:=4) j1 (by omega) (by decide) (by decide)
  have x1:=ix_rowT (row:=row) (i:=i) (by omega)
  have x2:=ix_rowT (row:=row) (i:=j) (by omega)
  have hl:W.length + 1 ≤ 16777216:=by omega
  have fin:∀ d:Dd,dOk n d → f__law_row_behind [.d (tupI row),.d (ddD d)] t2 = .ok (.d (tupI (rbI row d))) t2:=fun d hd=>e_lrb (by rw [hr]; exact hd)
  by_cases c1:row.getD j 0 < row.getD i 0 ∧ 0 < p
  · have d0:dOk n (true,i,j):=⟨hi,hj,ne⟩
    refine ⟨(true,i,j),.d (.int (i:Int)),.d (.int (j:Int)),.d (.int p),t2,d0,fun _=>c1.1,j2.more (by omega),?_⟩
    have e3:=fin _ d0
    have nc:¬ row.getD i 0 < row.getD j 0:=by omega
    have e3:f__law_row_behind [.d (tupI row),.d (.tuple [.str "transfer",.int (i:Int),.int (j:Int)])] t2 = .ok (.d (tupI (rbI row (true,i,j)))) t2:=e3
    generalize hR:rbI row (true,i,j) = R' at e3 ⊢
    show L__law_way_0 _ t = .nx [_,_,_,_,.d (.tuple (W ++ [.tuple [.str "transfer",.int (i:Int),.int (j:Int)]])),_,_,_,_,_,.d (.tuple [.str "transfer",.int (i:Int),.int (j:Int)])] t2
    unfold tupI at e3 ⊢
    simp! [L__law_way_0,e1,e2,x1,x2,c1.1,c1.2,nc,e3,hl]
  · by_cases c2:row.getD i 0 < row.getD j 0 ∧ 1 < p
    · have d0:dOk n (true,j,i):=⟨hj,hi,fun q=>ne q.symm⟩
      refine ⟨(true,j,i),.d (.int (i:Int)),.d (.int (j:Int)),.d (.int p),t2,d0,fun _=>c2.1,j2.more (by omega),?_⟩
      have e3:=fin _ d0
      have nc:¬ row.getD j 0 < row.getD i 0:=by omega
      have e3:f__law_row_behind [.d (tupI row),.d (.tuple [.str "transfer",.int (j:Int),.int (i:Int)])] t2 = .ok (.d (tupI (rbI row (true,j,i)))) t2:=e3
      generalize hR:rbI row (true,j,i) = R' at e3 ⊢
      show L__law_way_0 _ t = .nx [_,_,_,_,.d (.tuple (W ++ [.tuple [.str "transfer",.int (j:Int),.int (i:Int)]])),_,_,_,_,_,.d (.tuple [.str "transfer",.int (j:Int),.int (i:Int)])] t2
      unfold tupI at e3 ⊢
      simp! [L__law_way_0,e1,e2,x1,x2,c2.1,c2.2,nc,e3,hl]
    · have d0:dOk n (false,i,j):=⟨hi,hj,ne⟩
      refine ⟨(false,i,j),.d (.int (i:Int)),.d (.int (j:Int)),.d (.int p),t2,d0,fun q=>(by cases q),j2.more (by omega),?_⟩
      have e3:=fin _ d0
      have e3:f__law_row_behind [.d (tupI row),.d (.tuple [.str "exchange",.int (i:Int),.int (j:Int)])] t2 = .ok (.d (tupI (rbI row (false,i,j)))) t2:=e3
      generalize hR:rbI row (false,i,j) = R' at e3 ⊢
      show L__law_way_0 _ t = .nx [_,_,_,_,.d (.tuple (W ++ [.tuple [.str "exchange",.int (i:Int),.int (j:Int)]])),_,_,_,_,_,.d (.tuple [.str "exchange",.int (i:Int),.int (j:Int)])] t2
      unfold tupI at e3 ⊢
      have k1:mAndB (mCmpB (fCm iGt) (mBin fIx (mVar 5) (mVar 7)) (mBin fIx (mVar 5) (mVar 8))) (mCmpB (fCm iGt) (mVar 9) (mC (.int 0))) [.s,.d (.int (n:Int)),.d R,.d K,.d (.tuple W),.d (.tuple (row.map .int)),a6,.d (.int (i:Int)),.d (.int (j:Int)),.d (.int p),.d (.tuple [.str "exchange",.int (i:Int),.int (j:Int)])] t2 = .ok false t2:=by
        by_cases q:row.getD j 0 < row.getD i 0
        · have q2:¬ 0 < p:=fun z=>c1 ⟨q,z⟩
          simp! [x1,x2,q,q2]
        · simp! [x1,x2,q]
      have k2:mAndB (mCmpB (fCm iGt) (mBin fIx (mVar 5) (mVar 8)) (mBin fIx (mVar 5) (mVar 7))) (mCmpB (fCm iGt) (mVar 9) (mC (.int 1))) [.s,.d (.int (n:Int)),.d R,.d K,.d (.tuple W),.d (.tuple (row.map .int)),a6,.d (.int (i:Int)),.d (.int (j:Int)),.d (.int p),.d (.tuple [.str "exchange",.int (i:Int),.int (j:Int)])] t2 = .ok false t2:=by
        by_cases q:row.getD i 0 < row.getD j 0
        · have q2:¬ 1 < p:=fun z=>c2 ⟨q,z⟩
          simp! [x1,x2,q,q2]
        · simp! [x1,x2,q]
      unfold L__law_way_0
      rw [seq_nx (G1:=[.s,.d (.int (n:Int)),.d R,.d K,.d (.tuple W),.d (.tuple (row.map .int)),a6,.d (.int (i:Int)),.d (.int (j:Int)),a9,a10]) (t1:=t1) (by simp! [e1])]
      rw [seq_nx (G1:=[.s,.d (.int (n:Int)),.d R,.d K,.d (.tuple W),.d (.tuple (row.map .int)),a6,.d (.int (i:Int)),.d (.int (j:Int)),.d (.int p),a10]) (t1:=t2) (by simp! [e2])]
      rw [seq_nx (G1:=[.s,.d (.int (n:Int)),.d R,.d K,.d (.tuple W),.d (.tuple (row.map .int)),a6,.d (.int (i:Int)),.d (.int (j:Int)),.d (.int p),.d (.tuple [.str "exchange",.int (i:Int),.int (j:Int)])]) (t1:=t2) (by simp! [])]
      rw [sif_no k1,sif_no k2]
      simp! [e3,hl]
theorem e_lway {row:List Int} (hr:row.length = n) {m k:Nat} (hm:m ≤ 20) {t:Option DS} (hJ:J k t) (hk:k ≤ 700000):∃ (ds:List Dd) (t':Option DS),ds.length = m ∧ (∀ d ∈ ds,dOk n d) ∧ canAll row ds ∧ J (k + 3 * m) t' ∧ f__law_way [.s,.d (.int (n:Int)),.d (tupI row),.d (.int (m:Int))] t = .ok (.d (.tuple (ds.map ddD))) t':=by
  obtain ⟨G,t',e,hj,ds,b6,b7,b8,b9,b10,hG,l,hd,hc⟩:=rng_loop (pt:=.nm 6) (body:=L__law_way_0) (n:=m) (I:=fun i G t=>J (k + 3 * i) t ∧ ∃ (ds:List Dd) (a6 a7 a8 a9 a10:Sl),G = [.s,.d (.int (n:Int)),.d (tupI row),.d (.int (m:Int)),.d (.tuple (ds.map ddD)),.d (tupI (ds.foldl rbI row)),a6,a7,a8,a9,a10] ∧ ds.length = i ∧ (∀ d ∈ ds,dOk n d) ∧ canAll row ds) (fun i G t hi hI=>by
    obtain ⟨hj,ds,a6,a7,a8,a9,a10,rfl,l,hd,hc⟩:=hI
    obtain ⟨d,b7,b8,b9,t2,d0,c0,j2,e⟩:=way_step hn hj (by omega) (R:=tupI row) (K:=.int (m:Int)) (fold_len n ds row hr) (W:=ds.map ddD) (by rw [List.length_map]; omega) (a6:=.d (.int (i:Int))) (a7:=a7) (a8:=a8) (a9:=a9) (a10:=a10)
    refine ⟨[.s,.d (.int (n:Int)),.d (tupI row),.d (.int (m:Int)),.d (.tuple (ds.map ddD)),.d (tupI (ds.foldl rbI row)),.d (.int (i:Int)),a7,a8,a9,a10],_,t2,rfl,e,j2.more (by omega),ds ++ [d],.d (.int (i:Int)),b7,b8,b9,.d (ddD d),?_,by rw [List.length_append,l]; rfl,fun y hy=>?_,canAll_app ds row d hc c0⟩
    · rw [List.map_append,List.foldl_append]
      rfl
    · rcases List.mem_append.mp hy with h | h
      · exact hd y h
      · rw [List.mem_singleton.mp h]
        exact d0) (G:=[.s,.d (.int (n:Int)),.d (tupI row),.d (.int (m:Int)),.d (.tuple []),.d (tupI row),.un,.un,.un,.un,.un]) (t:=t) ⟨hJ,[],_,_,_,_,_,rfl,rfl,fun d h=>(by cases h),trivial⟩
  refine ⟨ds,t',l,hd,hc,hj,?_⟩
  have r1:rngOk (m:Int) = true:=rng_nat m (by omega)
  rw [u__law_way]
  subst hG
  generalize tupI row = R at e ⊢
  generalize tupI (ds.foldl rbI row) = R2 at e
  generalize ds.map ddD = W at e ⊢
  refine run_rt (G:=[.s,.d (.int (n:Int)),.d R,.d (.int (m:Int))]) rfl ?_
  show m__law_way [.s,.d (.int (n:Int)),.d R,.d (.int (m:Int)),.un,.un,.un,.un,.un,.un,.un] t = _
  unfold m__law_way
  rw [seq_nx (G1:=[.s,.d (.int (n:Int)),.d R,.d (.int (m:Int)),.d (.tuple []),.d R,.un,.un,.un,.un,.un]) (t1:=t) (by simp! [] <;> rfl)]
  simp! [r1,Int.toNat_natCast,e]
end
theorem scn_len:∀ (ds:List Dd) (row:List Int),(scn row ds).length = ds.length + 1
  | [],_=>rfl
  | d :: ds,row=>by show (scn (rbI row d) ds).length + 1 = _; rw [scn_len ds]; rfl
theorem like_sh {d:D} {m k:Nat} (h:Sh d m k) (hm:m ≤ 64) (hk:k ≤ 16777216) (t:Option DS):f__law_like [.d d,.d d] t = .ok (.d (.bool true)) t:=by
  have e1:mCallB (f1 gRepr) (mCons (mVar 0) mNil) [.d d,.d d] t = .ok (.d (.str d.shown)) t:=rep_d (t1:=t) rfl h hm hk
  have e2:mCallB (f1 gRepr) (mCons (mVar 1) mNil) [.d d,.d d] t = .ok (.d (.str d.shown)) t:=rep_d (t1:=t) rfl h hm hk
  have e3:=eq_same e1 e2
  rw [u__law_like]
  show So.run (m__law_like [.d d,.d d] t) = _
  unfold m__law_like
  rw [ret_ok e3]
  rfl
theorem canAll_ex:∀ (ds:List Dd) (row:List Int),(∀ d ∈ ds,d.1 = false) → canAll row ds
  | [],_,_=>trivial
  | d :: ds,row,h=>⟨fun q=>(by rw [h d List.mem_cons_self] at q; cases q),canAll_ex ds _ fun e he=>h e (List.mem_cons_of_mem _ he)⟩
section
variable {n:Nat} (hn:n = 2 ∨ n = 3 ∨ n = 4 ∨ n = 5) {t:Option DS}
include hn
theorem m60 {x:D}:fMulT (.d (.tuple [x])) (.d (.int 60)) = some (.d (.tuple (List.replicate 60 x))):=rfl
theorem m61 {x:D}:fMulT (.d (.tuple [x])) (.d (.int 61)) = some (.d (.tuple (List.replicate 61 x))):=rfl
omit hn in
theorem set_lX {i:Nat} {m:EM} {G:Gm} {t t1:Option DS} {xs:List D} (h:m G t = .ok (.l xs) t1) (hi:i < G.length):sSet i m G t = .nx (G.set i (.l xs)) t1:=by
  unfold sSet
  rw [h]
  exact if_pos hi
omit hn in
theorem set_dX {i:Nat} {m:EM} {G:Gm} {t t1:Option DS} {x:D} (h:m G t = .ok (.d x) t1) (hi:i < G.length):sSet i m G t = .nx (G.set i (.d x)) t1:=by
  unfold sSet
  rw [h]
  exact if_pos hi
end
theorem shp_tI (ds:List Int):SeqAt.shaped (tupI ds) = true:=by
  obtain ⟨a,b⟩:=lay_ints ds
  unfold SeqAt.shaped tupI
  rw [Bool.and_eq_true]
  exact ⟨by simpa only [PyData.canLay0] using a,decide_eq_true (by simp only [PyData.depth,b]; omega)⟩
theorem eqv_rw (a b:List Int):PyData.eqv (tupI a) (tupI b) = decide (a = b):=by
  cases h:PyData.eqv (tupI a) (tupI b) with
  | true=>rw [decide_eq_true (tupI_inj (row_same _ _ (row_I a) (row_I b) h))]
  | false =>
    rw [decide_eq_false fun q=>?_]
    subst q
    rw [(row_self _ (row_I a)).1] at h
    cases h
theorem eq_rw (a b:List Int):fEq (.d (tupI a)) (.d (tupI b)) = some (.d (.bool (decide (a = b)))):=by
  rw [feq_row (row_I a) (row_I b) (shp_tI a) (shp_tI b),eqv_rw]
def fal (r:List Int):List Int:=r.mergeSort (fun a b=>decide (b ≤ a))
theorem fal_perm (r:List Int):(fal r).Perm r:=List.mergeSort_perm r _
theorem fal_pw (r:List Int):(fal r).Pairwise (fun a b=>b ≤ a):=by
  have h:=List.pairwise_mergeSort (le:=fun a b:Int=>decide (b ≤ a)) (fun a b c h1 h2=>decide_eq_true (Int.le_trans (of_decide_eq_true h2) (of_decide_eq_true h1))) (fun a b=>by
    rcases Int.le_total a b with h | h
    · simp [h]
    · simp [h]) r
  exact h.imp fun h=>of_decide_eq_true h
theorem fal_len (r:List Int):(fal r).length = r.length:=(fal_perm r).length_eq
theorem pw_same {a b:List Int} (h:a.Perm b) (ha:a.Pairwise (fun x y=>y ≤ x)) (hb:b.Pairwise (fun x y=>y ≤ x)):a = b:=
  h.eq_of_pairwise (fun x y _ _ h1 h2=>Int.le_antisymm h2 h1) ha hb
theorem sum_perm {a b:List Int} (h:a.Perm b):a.sum = b.sum:=by
  induction h with
  | nil=>rfl
  | cons x _ ih=>rw [List.sum_cons,List.sum_cons,ih]
  | swap x y l=>rw [List.sum_cons,List.sum_cons,List.sum_cons,List.sum_cons]; omega
  | trans _ _ h1 h2=>rw [h1,h2]
theorem pw_get {a:List Int} (h:a.Pairwise (fun x y=>y ≤ x)) {i j:Nat} (ij:i ≤ j) (hj:j < a.length):a.getD j 0 ≤ a.getD i 0:=by
  rw [List.getD_eq_getElem?_getD,List.getD_eq_getElem?_getD,List.getElem?_eq_getElem hj,List.getElem?_eq_getElem (by omega:i < a.length)]
  by_cases e:i = j
  · subst e; exact Int.le_refl _
  · exact List.pairwise_iff_getElem.mp h i j (by omega) hj (by omega)
def ps (f:Nat → Int):Nat → Int
  | 0=>0
  | k + 1=>ps f k + f k
def pos (f:Nat → Int):Nat → Int
  | 0=>0
  | k + 1=>pos f k + (if 0 < f k then f k else 0)
def mvF (f:Nat → Int) (o u:Nat) (k:Nat):Int:=if k = u then f u + 1 else if k = o then f o - 1 else f k
theorem ps_mv {f:Nat → Int} {o u:Nat} (h:o < u):∀ k,ps (mvF f o u) k = ps f k - (if o < k then 1 else 0) + (if u < k then 1 else 0)
  | 0=>rfl
  | k + 1=>by
    show ps (mvF f o u) k + mvF f o u k = ps f k + f k - _ + _
    rw [ps_mv h k]
    unfold mvF
    by_cases e1:k = u
    · subst e1
      rw [if_pos rfl,if_pos h,if_pos (by omega:o < k + 1),if_neg (by omega),if_pos (by omega:k < k + 1)]
      omega
    · rw [if_neg e1]
      by_cases e2:k = o
      · subst e2
        rw [if_pos rfl,if_neg (by omega),if_neg (by omega),if_pos (by omega),if_neg (by omega)]
        omega
      · rw [if_neg e2]
        by_cases a:o < k
        · rw [if_pos a,if_pos (by omega:o < k + 1)]
          by_cases b:u < k
          · rw [if_pos b,if_pos (by omega:u < k + 1)]; omega
          · rw [if_neg b,if_neg (by omega:¬ u < k + 1)]; omega
        · rw [if_neg a,if_neg (by omega:¬ o < k + 1),if_neg (by omega:¬ u < k),if_neg (by omega:¬ u < k + 1)]; omega
theorem pos_mv {f:Nat → Int} {o u:Nat} (h:o < u) (ho:0 < f o) (hu:f u < 0):∀ k,pos (mvF f o u) k = pos f k - (if o < k then 1 else 0)
  | 0=>rfl
  | k + 1=>by
    show pos (mvF f o u) k + (if 0 < mvF f o u k then mvF f o u k else 0) = pos f k + (if 0 < f k then f k else 0) - _
    rw [pos_mv h ho hu k]
    unfold mvF
    by_cases e1:k = u
    · subst e1
      rw [if_pos rfl,if_pos h,if_pos (by omega:o < k + 1),if_neg (by omega),if_neg (by omega:¬ 0 < f k)]
      omega
    · rw [if_neg e1]
      by_cases e2:k = o
      · subst e2
        rw [if_pos rfl,if_neg (by omega),if_pos (by omega:k < k + 1),if_pos ho]
        split <;> omega
      · rw [if_neg e2]
        by_cases a:o < k
        · rw [if_pos a,if_pos (by omega:o < k + 1)]; omega
        · rw [if_neg a,if_neg (by omega:¬ o < k + 1)]; omega
theorem ps_nn {f:Nat → Int}:∀ {m:Nat},(∀ k,k < m → 0 ≤ f k) → 0 ≤ ps f m ∧ ∀ k,k < m → f k ≤ ps f m
  | 0,_=>⟨Int.le_refl _,fun k hk=>absurd hk (Nat.not_lt_zero _)⟩
  | m + 1,h=>by
    obtain ⟨a,b⟩:=ps_nn (m:=m) fun k hk=>h k (by omega)
    have c:=h m (by omega)
    refine ⟨by show 0 ≤ ps f m + f m; omega,fun k hk=>?_⟩
    show f k ≤ ps f m + f m
    by_cases e:k = m
    · subst e; omega
    · have:=b k (by omega); omega
theorem ps_np {f:Nat → Int}:∀ {m:Nat},(∀ k,k < m → f k ≤ 0) → ps f m ≤ 0
  | 0,_=>Int.le_refl _
  | m + 1,h=>by
    have a:=ps_np (m:=m) fun k hk=>h k (by omega)
    have c:=h m (by omega)
    show ps f m + f m ≤ 0
    omega
theorem first_of {p:Nat → Prop} [DecidablePred p]:∀ {n:Nat},(∃ k,k < n ∧ p k) → ∃ u,u < n ∧ p u ∧ ∀ k,k < u → ¬ p k
  | 0,⟨_,h,_⟩=>absurd h (Nat.not_lt_zero _)
  | n + 1,⟨k,h,hp⟩=>by
    by_cases e:∃ k,k < n ∧ p k
    · obtain ⟨u,a,b,c⟩:=first_of e
      exact ⟨u,by omega,b,c⟩
    · have ne:∀ k,k < n → ¬ p k:=fun k hk hp=>e ⟨k,hk,hp⟩
      have kn:k = n:=by
        rcases Nat.lt_or_ge k n with z | z
        · exact absurd hp (ne k z)
        · omega
      exact ⟨k,h,hp,fun j hj=>ne j (by omega)⟩
theorem last_of {p:Nat → Prop} [DecidablePred p]:∀ {u:Nat},(∃ k,k < u ∧ p k) → ∃ o,o < u ∧ p o ∧ ∀ k,o < k → k < u → ¬ p k
  | 0,⟨_,h,_⟩=>absurd h (Nat.not_lt_zero _)
  | u + 1,⟨k,h,hp⟩=>by
    by_cases e:p u
    · exact ⟨u,by omega,e,fun j a b=>by omega⟩
    · have kn:k ≠ u:=fun z=>e (z ▸ hp)
      obtain ⟨o,a,b,c⟩:=last_of (p:=p) (u:=u) ⟨k,by omega,hp⟩
      exact ⟨o,by omega,b,fun j x y=>by
        by_cases q:j = u
        · rw [q]; exact e
        · exact c j x (by omega)⟩
structure Bal (f:Nat → Int) (n:Nat):Prop where
  pr:∀ k,k ≤ n → 0 ≤ ps f k
  tot:ps f n = 0
theorem bal_find {f:Nat → Int} {n:Nat} (h:Bal f n) (ne:∃ k,k < n ∧ f k ≠ 0):∃ u,u < n ∧ f u < 0 ∧ (∀ k,k < u → 0 ≤ f k) ∧ ∃ o,o < u ∧ 0 < f o ∧ ∀ k,o < k → k < u → f k ≤ 0:=by
  have neg:∃ k,k < n ∧ f k < 0:=by
    rcases Classical.em (∃ k,k < n ∧ f k < 0) with z | z
    · exact z
    · obtain ⟨k,hk,h0⟩:=ne
      have nn:∀ k,k < n → 0 ≤ f k:=fun k hk=>by
        rcases Int.lt_or_le (f k) 0 with q | q
        · exact absurd ⟨k,hk,q⟩ z
        · exact q
      have:=(ps_nn nn).2 k hk
      rw [h.tot] at this
      have:=nn k hk
      omega
  obtain ⟨u,un,fu,mu⟩:=first_of neg
  have nn:∀ k,k < u → 0 ≤ f k:=fun k hk=>by have:=mu k hk; omega
  have up:∃ k,k < u ∧ 0 < f k:=by
    rcases Classical.em (∃ k,k < u ∧ 0 < f k) with z | z
    · exact z
    · have:=ps_np (f:=f) (m:=u) fun k hk=>by
        rcases Int.lt_or_le 0 (f k) with q | q
        · exact absurd ⟨k,hk,q⟩ z
        · exact q
      have:=h.pr (u + 1) (by omega)
      have e:ps f (u + 1) = ps f u + f u:=rfl
      omega
  obtain ⟨o,ou,fo,mo⟩:=last_of up
  exact ⟨u,un,fu,nn,o,ou,fo,fun k a b=>by have:=mo k a b; omega⟩
theorem bal_mv {f:Nat → Int} {n o u:Nat} (h:Bal f n) (un:u < n) (nn:∀ k,k < u → 0 ≤ f k) (ou:o < u) (fo:0 < f o):Bal (mvF f o u) n:=by
  refine ⟨fun k hk=>?_,?_⟩
  · rw [ps_mv ou]
    have a:=h.pr k hk
    by_cases c:o < k
    · rw [if_pos c]
      by_cases d:u < k
      · rw [if_pos d]; omega
      · rw [if_neg d]
        have:=(ps_nn (f:=f) (m:=k) fun j hj=>nn j (by omega)).2 o c
        omega
    · rw [if_neg c,if_neg (by omega)]; omega
  · rw [ps_mv ou,h.tot,if_pos (by omega),if_pos un]; omega
theorem pos_nn (f:Nat → Int):∀ k,0 ≤ pos f k
  | 0=>Int.le_refl _
  | k + 1=>by
    have:=pos_nn f k
    show 0 ≤ pos f k + _
    split <;> omega
theorem pos_zero {f:Nat → Int}:∀ {n:Nat},pos f n = 0 → ∀ k,k < n → f k ≤ 0
  | 0,_,k,h=>absurd h (Nat.not_lt_zero _)
  | n + 1,e,k,h=>by
    have a:=pos_nn f n
    have e:pos f n + (if 0 < f n then f n else 0) = 0:=e
    by_cases c:0 < f n
    · rw [if_pos c] at e; omega
    · rw [if_neg c] at e
      by_cases q:k = n
      · subst q; omega
      · exact pos_zero (n:=n) (by omega) k (by omega)
theorem bal_zero {f:Nat → Int} {n:Nat} (h:Bal f n) (e:pos f n = 0):∀ k,k < n → f k = 0:=fun k hk=>by
  rcases Classical.em (∃ k,k < n ∧ f k ≠ 0) with z | z
  · obtain ⟨u,un,_,_,o,ou,fo,_⟩:=bal_find h z
    have:=pos_zero e o (by omega)
    omega
  · by_cases q:f k = 0
    · exact q
    · exact absurd ⟨k,hk,q⟩ z
def ab (f:Nat → Int):Nat → Int
  | 0=>0
  | k + 1=>ab f k + (if 0 ≤ f k then f k else - f k)
theorem ab_pos (f:Nat → Int):∀ k,ab f k = 2 * pos f k - ps f k
  | 0=>rfl
  | k + 1=>by
    show ab f k + _ = 2 * (pos f k + _) - (ps f k + f k)
    rw [ab_pos f k]
    by_cases c:0 < f k
    · rw [if_pos c,if_pos (by omega)]; omega
    · rw [if_neg c]
      split <;> omega
theorem pos_cnt {f:Nat → Int}:∀ n:Nat,(∀ k,k < n → -24 ≤ f k ∧ f k ≤ 24) → ∃ p q:Int,pos f n ≤ 24 * p ∧ pos f n - ps f n ≤ 24 * q ∧ p + q ≤ (n:Int) ∧ 0 ≤ p ∧ 0 ≤ q
  | 0,_=>⟨0,0,Int.le_refl _,Int.le_refl _,by decide,by decide,by decide⟩
  | n + 1,h=>by
    obtain ⟨p,q,a,b,c,d,e⟩:=pos_cnt n fun k hk=>h k (by omega)
    obtain ⟨x,y⟩:=h n (by omega)
    have p1:pos f (n + 1) = pos f n + (if 0 < f n then f n else 0):=rfl
    have p2:ps f (n + 1) = ps f n + f n:=rfl
    by_cases z:0 < f n
    · rw [if_pos z] at p1
      exact ⟨p + 1,q,by omega,by omega,by omega,by omega,by omega⟩
    · rw [if_neg z] at p1
      exact ⟨p,q + 1,by omega,by omega,by omega,by omega,by omega⟩
theorem pos_le {f:Nat → Int} {n:Nat} (hn:n ≤ 5) (h:∀ k,k < n → -24 ≤ f k ∧ f k ≤ 24) (t:ps f n = 0):pos f n ≤ 48:=by
  obtain ⟨p,q,a,b,c,d,e⟩:=pos_cnt n h
  omega
theorem pos_sum {f:Nat → Int} {g:Nat → Int}:∀ n:Nat,(∀ k,k < n → f k ≤ g k ∧ 0 ≤ g k) → pos f n ≤ ps g n
  | 0,_=>Int.le_refl _
  | n + 1,h=>by
    have a:=pos_sum n fun k hk=>h k (by omega)
    obtain ⟨x,y⟩:=h n (by omega)
    show pos f n + _ ≤ ps g n + g n
    split <;> omega
theorem ps_list:∀ (l:List Int),ps (fun k=>l.getD k 0) l.length = l.sum:=by
  have gen:∀ (l:List Int) (k:Nat),k ≤ l.length → ps (fun k=>l.getD k 0) k = (l.take k).sum:=fun l k=>by
    induction k with
    | zero=>intro _; rfl
    | succ k ih =>
      intro h
      show ps _ k + l.getD k 0 = _
      rw [ih (by omega),List.take_succ_eq_append_getElem (by omega:k < l.length),List.sum_append,List.getD_eq_getElem?_getD,List.getElem?_eq_getElem (by omega:k < l.length)]
      simp
  intro l
  rw [gen l l.length (Nat.le_refl _),List.take_length]
theorem ps_sub (f g:Nat → Int):∀ k,ps (fun i=>f i - g i) k = ps f k - ps g k
  | 0=>rfl
  | k + 1=>by
    show ps _ k + (f k - g k) = ps f k + f k - (ps g k + g k)
    rw [ps_sub f g k]
    omega
theorem getD_take' {a:List Int} {k j:Nat} (h:j < k):(a.take k).getD j 0 = a.getD j 0:=by
  rw [List.getD_eq_getElem?_getD,List.getD_eq_getElem?_getD,List.getElem?_take_of_lt h]
theorem take_same {a b:List Int} {k:Nat} (hl:a.length = b.length) (h:∀ j,j < k → a.getD j 0 = b.getD j 0):a.take k = b.take k:=
  row_ext (by rw [List.length_take,List.length_take,hl]) fun j hj=>by
    rw [List.length_take] at hj
    rw [getD_take' (by omega),getD_take' (by omega),h j (by omega)]
theorem getD_ge {a:List Int} {i:Nat} (h:i < a.length):a.getD i 0 = a[i]:=by
  rw [List.getD_eq_getElem?_getD,List.getElem?_eq_getElem h]
  rfl
theorem exI_perm {row:List Int} {i j:Nat} (hi:i < row.length) (hj:j < row.length):(exI row i j).Perm row:=by
  unfold exI
  rw [getD_ge hi,getD_ge hj]
  exact List.set_set_perm hi hj
theorem sort_next {row goal:List Int} {k:Nat} (hp:row.Perm goal) (pre:∀ j,j < k → row.getD j 0 = goal.getD j 0) (hk:k < row.length) (ne:row.getD k 0 ≠ goal.getD k 0):∃ o,k < o ∧ o < row.length ∧ row.getD o 0 = goal.getD k 0 ∧ ∀ j,k < j → j < o → row.getD j 0 ≠ goal.getD k 0:=by
  have hl:=hp.length_eq
  have e:=take_same hl pre
  have hd:(row.drop k).Perm (goal.drop k):=by
    have h:=hp
    rw [← List.take_append_drop k row,← List.take_append_drop k goal,e] at h
    exact (List.perm_append_left_iff _).mp h
  have m:goal.getD k 0 ∈ goal.drop k:=by
    rw [List.drop_eq_getElem_cons (by omega:k < goal.length),getD_ge (by omega:k < goal.length)]
    exact List.mem_cons_self
  have m:=hd.mem_iff.mpr m
  obtain ⟨i,hi,ei⟩:=List.mem_iff_getElem.mp m
  rw [List.length_drop] at hi
  rw [List.getElem_drop] at ei
  have ei:row.getD (k + i) 0 = goal.getD k 0:=by rw [getD_ge (by omega:k + i < row.length)]; exact ei
  have i0:i ≠ 0:=fun z=>by subst z; exact ne ei
  obtain ⟨u,hu,⟨pu,qu⟩,mu⟩:=first_of (p:=fun j=>k < j ∧ row.getD j 0 = goal.getD k 0) (n:=row.length) ⟨k + i,by omega,by omega,ei⟩
  exact ⟨u,pu,hu,qu,fun j a b c=>mu j b ⟨a,c⟩⟩
theorem ex_pre {row goal:List Int} {k o:Nat} (hl:row.length = goal.length) (pre:∀ j,j < k → row.getD j 0 = goal.getD j 0) (hk:k < o) (ho:o < row.length) (e:row.getD o 0 = goal.getD k 0):∀ j,j < k + 1 → (exI row k o).getD j 0 = goal.getD j 0:=fun j hj=>by
  rw [exI_get (by omega) ho (by omega),if_neg (by omega)]
  by_cases q:j = k
  · rw [if_pos q,e,q]
  · rw [if_neg q,pre j (by omega)]
structure NmK (n:Nat) (nm:List Nat):Prop where
  len:nm.length = n
  lt:∀ k,k < n → nm.getD k 0 < n
  inj:∀ j k,j < n → k < n → nm.getD j 0 = nm.getD k 0 → j = k
def Lnk (n:Nat) (nm:List Nat) (cur now:List Int):Prop:=∀ k,k < n → cur.getD (nm.getD k 0) 0 = now.getD k 0
theorem lnk_mv {n:Nat} {nm:List Nat} {cur now:List Int} (hn:NmK n nm) (hc:cur.length = n) (hw:now.length = n) (h:Lnk n nm cur now) {o u:Nat} (ou:o < u) (un:u < n):Lnk n nm (mvI cur (nm.getD o 0) (nm.getD u 0)) (mvI now o u):=fun k hk=>by
  have no:nm.getD o 0 < n:=hn.lt o (by omega)
  have nu:=hn.lt u un
  have ne:nm.getD o 0 ≠ nm.getD u 0:=fun z=>by have:=hn.inj o u (by omega) un z; omega
  rw [mvI_get (by omega) (by omega) ne,mvI_get (by omega) (by omega) (by omega)]
  by_cases a:k = u
  · subst a
    rw [if_pos rfl,if_pos rfl,h k hk]
  · rw [if_neg a,if_neg (fun z=>a (hn.inj k u hk un z))]
    by_cases b:k = o
    · subst b
      rw [if_pos rfl,if_pos rfl,h k hk]
    · rw [if_neg b,if_neg (fun z=>b (hn.inj k o hk (by omega) z)),h k hk]
def df (now aim:List Int) (i:Nat):Int:=now.getD i 0 - aim.getD i 0
theorem df_mv {now aim:List Int} {n o u:Nat} (hw:now.length = n) (ou:o < u) (un:u < n):df (mvI now o u) aim = mvF (df now aim) o u:=by
  funext k
  show (mvI now o u).getD k 0 - aim.getD k 0 = if k = u then (now.getD u 0 - aim.getD u 0) + 1 else if k = o then (now.getD o 0 - aim.getD o 0) - 1 else now.getD k 0 - aim.getD k 0
  rw [mvI_get (by omega) (by omega) (by omega)]
  by_cases a:k = u
  · subst a; rw [if_pos rfl,if_pos rfl]; omega
  · rw [if_neg a,if_neg a]
    by_cases b:k = o
    · subst b; rw [if_pos rfl,if_pos rfl]; omega
    · rw [if_neg b,if_neg b]
theorem mvI_len (row:List Int) (i j:Nat):(mvI row i j).length = row.length:=by unfold mvI; rw [List.length_set,List.length_set]
section
variable {t:Option DS}
theorem wl_no {c:BM} {b:SM} {n:Nat} {G:Gm} (h:c G t = .ok false t):whileL c b (n + 1) G t = .nx G t:=by
  show (c G t).bindS G _ = _
  rw [h]
  rfl
theorem wl_go {c:BM} {b:SM} {n:Nat} {G G1:Gm} (h:c G t = .ok true t) (hb:b G t = .nx G1 t):whileL c b (n + 1) G t = whileL c b n G1 t:=by
  show (c G t).bindS G _ = _
  rw [h]
  show (match b G t with | .nx G1 t1=>whileL c b n G1 t1 | .ct G1 t1=>whileL c b n G1 t1 | .bk G1 t1=>.nx G1 t1 | o=>o) = _
  rw [hb]
theorem wl_up {c:BM} {b:SM} {Gf:Nat → Gm} {lo u:Nat} (hb:∀ i,lo ≤ i → i < u → b (Gf i) t = .nx (Gf (i + 1)) t) (ht:∀ i,lo ≤ i → i < u → c (Gf i) t = .ok true t) (he:c (Gf u) t = .ok false t):∀ (m i fuel:Nat),lo ≤ i → i + m = u → m < fuel → whileL c b fuel (Gf i) t = .nx (Gf u) t
  | 0,i,fuel,_,e,hf=>by
    obtain ⟨f,rfl⟩:∃ f,fuel = f + 1:=⟨fuel - 1,by omega⟩
    have e:i = u:=by omega
    subst e
    exact wl_no he
  | m + 1,i,fuel,hl,e,hf=>by
    obtain ⟨f,rfl⟩:∃ f,fuel = f + 1:=⟨fuel - 1,by omega⟩
    rw [wl_go (ht i hl (by omega)) (hb i hl (by omega))]
    exact wl_up hb ht he m (i + 1) f (by omega) (by omega) (by omega)
theorem ix_rowL {row:List Int} {i:Nat} (h:i < row.length):fIx (.d (.list (row.map .int))) (.d (.int (i:Int))) = some (.d (.int (row.getD i 0))):=by
  rw [ix_l,atI_row h]
  rfl
theorem augN_i {i:Nat} {m:EM} {G:Gm} {x y:Int} {f:Int → Int → Int} (h:G[i]? = some (.d (.int x))) (e:m G t = .ok (.d (.int y)) t):sAugN i m f G t = .nx (G.set i (.d (.int (f x y)))) t:=by
  simp only [sAugN,h,e,Rs.fz,Rv.fz,Rs.bind,Rs.bindS]
theorem e_next {now aim:List Int} {n o u:Nat} (hw:now.length = n) (ha:aim.length = n) (hn:n ≤ 5) (un:u < n) (fu:now.getD u 0 < aim.getD u 0) (nn:∀ k,k < u → aim.getD k 0 ≤ now.getD k 0) (ou:o < u) (fo:aim.getD o 0 < now.getD o 0) (mo:∀ k,o < k → k < u → now.getD k 0 ≤ aim.getD k 0) :
    f_next_places [.d (.list (now.map .int)),.d (.list (aim.map .int))] t = .ok (.d (.tuple [.int (o:Int),.int (u:Int)])) t:=by
  have c1:∀ (i:Nat) (a3:Sl),i < n → mCmpB (fCm iGe) (mBin fIx (mVar 0) (mVar 2)) (mBin fIx (mVar 1) (mVar 2)) [.d (.list (now.map .int)),.d (.list (aim.map .int)),.d (.int (i:Int)),a3] t = .ok (decide (aim.getD i 0 ≤ now.getD i 0)) t:=fun i a3 hi=>by
    have x1:=ix_rowL (row:=now) (i:=i) (by omega)
    have x2:=ix_rowL (row:=aim) (i:=i) (by omega)
    by_cases q:aim.getD i 0 ≤ now.getD i 0
    · simp! [x1,x2,q]
    · simp! [x1,x2,q]
  have c2:∀ (i:Nat) (a2:Sl),i < n → mCmpB (fCm iLe) (mBin fIx (mVar 0) (mVar 3)) (mBin fIx (mVar 1) (mVar 3)) [.d (.list (now.map .int)),.d (.list (aim.map .int)),a2,.d (.int (i:Int))] t = .ok (decide (now.getD i 0 ≤ aim.getD i 0)) t:=fun i a2 hi=>by
    have x1:=ix_rowL (row:=now) (i:=i) (by omega)
    have x2:=ix_rowL (row:=aim) (i:=i) (by omega)
    by_cases q:now.getD i 0 ≤ aim.getD i 0
    · simp! [x1,x2,q]
    · simp! [x1,x2,q]
  have w1:=wl_up (t:=t) (c:=mCmpB (fCm iGe) (mBin fIx (mVar 0) (mVar 2)) (mBin fIx (mVar 1) (mVar 2))) (b:=sSeq (sAugN 2 (mC (.int 1)) (fun x y=>x + y)) (sSkip)) (Gf:=fun i=>[.d (.list (now.map .int)),.d (.list (aim.map .int)),.d (.int (i:Int)),.un]) (lo:=0) (u:=u) (fun i _ hi=>by
      rw [seq_nx (augN_i (x:=(i:Int)) (y:=1) rfl rfl)]
      rfl) (fun i _ hi=>by rw [c1 i _ (by omega),decide_eq_true (nn i hi)]) (by rw [c1 u _ un,decide_eq_false (by omega)]) u 0 64 (by omega) (by omega) (by omega)
  have w2:=wl_up (t:=t) (c:=mCmpB (fCm iLe) (mBin fIx (mVar 0) (mVar 3)) (mBin fIx (mVar 1) (mVar 3))) (b:=sSeq (sAugN 3 (mC (.int 1)) (fun x y=>x - y)) (sSkip)) (Gf:=fun j=>[.d (.list (now.map .int)),.d (.list (aim.map .int)),.d (.int (u:Int)),.d (.int ((u:Int) - 1 - (j:Int)))]) (lo:=0) (u:=u - 1 - o) (fun j _ hj=>by
      rw [seq_nx (augN_i (x:=(u:Int) - 1 - (j:Int)) (y:=1) rfl rfl)]
      show So.nx _ t = So.nx _ t
      rw [show (u:Int) - 1 - ((j + 1:Nat):Int) = (u:Int) - 1 - (j:Int) - 1 by omega]
      rfl) (fun j _ hj=>by
      rw [show (u:Int) - 1 - (j:Int) = ((u - 1 - j:Nat):Int) by omega,c2 _ _ (by omega),decide_eq_true (mo _ (by omega) (by omega))]) (by
      rw [show (u:Int) - 1 - ((u - 1 - o:Nat):Int) = ((o:Nat):Int) by omega,c2 _ _ (by omega),decide_eq_false (by omega)]) (u - 1 - o) 0 64 (by omega) (by omega) (by omega)
  have w2:whileL (mCmpB (fCm iLe) (mBin fIx (mVar 0) (mVar 3)) (mBin fIx (mVar 1) (mVar 3))) (sSeq (sAugN 3 (mC (.int 1)) (fun x y=>x - y)) (sSkip)) 64 [.d (.list (now.map .int)),.d (.list (aim.map .int)),.d (.int (u:Int)),.d (.int ((u:Int) - 1))] t = .nx [.d (.list (now.map .int)),.d (.list (aim.map .int)),.d (.int (u:Int)),.d (.int (o:Int))] t:=by
    have h:=w2
    simp only [Int.natCast_zero,Int.sub_zero] at h
    rw [show (u:Int) - 1 - ((u - 1 - o:Nat):Int) = ((o:Nat):Int) by omega] at h
    exact h
  rw [u_next_places]
  refine run_rt (G:=[.d (.list (now.map .int)),.d (.list (aim.map .int))]) rfl ?_
  show m_next_places [.d (.list (now.map .int)),.d (.list (aim.map .int)),.un,.un] t = _
  unfold m_next_places
  rw [seq_nx (G1:=[.d (.list (now.map .int)),.d (.list (aim.map .int)),.d (.int 0),.un]) (t1:=t) (by simp! [])]
  have w1:whileL (mCmpB (fCm iGe) (mBin fIx (mVar 0) (mVar 2)) (mBin fIx (mVar 1) (mVar 2))) (sSeq (sAugN 2 (mC (.int 1)) (fun x y=>x + y)) (sSkip)) 64 [.d (.list (now.map .int)),.d (.list (aim.map .int)),.d (.int 0),.un] t = .nx [.d (.list (now.map .int)),.d (.list (aim.map .int)),.d (.int (u:Int)),.un] t:=w1
  rw [seq_nx w1]
  rw [seq_nx (G1:=[.d (.list (now.map .int)),.d (.list (aim.map .int)),.d (.int (u:Int)),.d (.int ((u:Int) - 1))]) (t1:=t) (by simp! [])]
  rw [seq_nx w2]
  simp! []
end
section
variable {t:Option DS} {n:Nat} {nm:List Nat} {aim:List Int}
def nmD (nm:List Nat):List D:=nm.map fun i:Nat=>PyData.int (i:Int)
abbrev gEv (nm:List Nat) (R1:D) (aim:List Int) (acc:List D) (now:List Int) (a5 a6 a7:Sl):Gm:=[.d (.list (nmD nm)),.d R1,.d (.list (aim.map .int)),.l acc,.l (now.map .int),a5,a6,a7]
theorem dI_map:∀ ns:List Int,dInts (ns.map .int) = some ns
  | []=>rfl
  | i :: ns=>by
    have e:=dI_map ns
    simp only [List.map_cons,dInts,e]
    rfl
theorem eq_bl (a b:List Int):fEq (.b (a.map .int)) (.d (.list (b.map .int))) = some (.d (.bool (decide (a = b)))):=by
  have sh:∀ ds:List Int,SeqAt.shaped (.list (ds.map .int)) = true:=fun ds=>by
    obtain ⟨a,b⟩:=lay_ints ds
    unfold SeqAt.shaped
    rw [Bool.and_eq_true]
    exact ⟨by simpa only [PyData.canLay0] using a,decide_eq_true (by simp only [PyData.depth,b]; omega)⟩
  have ev:PyData.eqv (.list (a.map .int)) (.list (b.map .int)) = PyData.eqv (tupI a) (tupI b):=by simp only [tupI,PyData.eqv]
  have e:gEq (.list (a.map .int)) (.list (b.map .int)) = if SeqAt.shaped (.list (a.map .int)) && SeqAt.shaped (.list (b.map .int)) then some (PyData.eqv (.list (a.map .int)) (.list (b.map .int))) else none:=rfl
  rw [sh,sh,ev,eqv_rw] at e
  show ((gEq (.list (a.map .int)) (.list (b.map .int))).map PyData.bool).map Rv.d = _
  rw [e]
  rfl
theorem ix_nm {k:Nat} (h:k < nm.length):fIx (.d (.list (nmD nm))) (.d (.int (k:Int))) = some (.d (.int ((nm.getD k 0:Nat):Int))):=by
  rw [ix_l,atI_nat (v:=.int ((nm.getD k 0:Nat):Int))]
  · rfl
  · unfold nmD
    rw [List.getElem?_map,List.getElem?_eq_getElem h,List.getD_eq_getElem?_getD,List.getElem?_eq_getElem h]
    rfl
theorem loop_bk {pt:Pt} {body:SM} {x:D} {xs:List D} {G G1 G2:Gm} {t t2:Option DS} (h1:asg pt x G = some G1) (h2:body G1 t = .bk G2 t2):loop pt body (x :: xs) G t = .nx G2 t2:=by
  simp only [loop,h1,h2]
theorem ev_bk {R1:D} {acc:List D} {a5 a6 a7:Sl}:L_evening_deeds_0 (gEv nm R1 aim acc aim a5 a6 a7) t = .bk (gEv nm R1 aim acc aim a5 a6 a7) t:=by
  have e:=eq_bl aim aim
  rw [decide_eq_true rfl] at e
  simp! [L_evening_deeds_0,e]
theorem ev_step (hn:n ≤ 5) {now:List Int} {R1:D} {acc:List D} {a5 a6 a7:Sl} {o u:Nat} (hw:now.length = n) (ha:aim.length = n) (hN:NmK n nm) (un:u < n) (fu:now.getD u 0 < aim.getD u 0) (nn:∀ k,k < u → aim.getD k 0 ≤ now.getD k 0) (ou:o < u) (fo:aim.getD o 0 < now.getD o 0) (mo:∀ k,o < k → k < u → now.getD k 0 ≤ aim.getD k 0) (hacc:acc.length < 1000) :
    L_evening_deeds_0 (gEv nm R1 aim acc now a5 a6 a7) t = .nx (gEv nm R1 aim (acc ++ [ddD (true,nm.getD o 0,nm.getD u 0)]) (mvI now o u) a5 (.d (.int (o:Int))) (.d (.int (u:Int)))) t:=by
  have e:=eq_bl now aim
  rw [decide_eq_false (fun z=>by rw [z] at fu; omega)] at e
  have nx:=e_next (t:=t) hw ha hn un fu nn ou fo mo
  have i1:=ix_nm (nm:=nm) (k:=o) (by rw [hN.len]; omega)
  have i2:=ix_nm (nm:=nm) (k:=u) (by rw [hN.len]; omega)
  have l1:acc.length < 16777216:=by omega
  have fz:mFrzE 4 (mCall 2 f_next_places [] (mCons (mVar 4) (mCons (mVar 2) (mNil)))) (gEv nm R1 aim acc now a5 a6 a7) t = .ok (.d (.tuple [.int (o:Int),.int (u:Int)])) t:=
    frzE_l (xs:=now.map .int) rfl (by simp! [nx]) rfl
  unfold L_evening_deeds_0
  rw [sif_no (t:=t) (t1:=t) (by simp! [e])]
  rw [seq_nx (t:=t) (G1:=gEv nm R1 aim acc now a5 (.d (.int (o:Int))) (.d (.int (u:Int)))) (t1:=t) (by simp! [fz])]
  rw [seq_nx (t:=t) (aug_row (t:=t) (row:=now) (i:=o) (y:=1) (by rfl) (by simp! []) (by omega) (by simp! []))]
  rw [seq_nx (t:=t) (G1:=gEv nm R1 aim acc (mvI now o u) a5 (.d (.int (o:Int))) (.d (.int (u:Int)))) (t1:=t) (by
    show sAug 4 (mVar 7) (mC (.int 1)) (fun x y=>x + y) (gEv nm R1 aim acc (now.set o (now.getD o 0 - 1)) a5 (.d (.int (o:Int))) (.d (.int (u:Int)))) t = _
    rw [aug_row (row:=now.set o (now.getD o 0 - 1)) (i:=u) (y:=1) (by rfl) (by simp! []) (by rw [List.length_set]; omega) (by simp! [])]
    rw [getD_set_ne (by omega:o ≠ u)]
    rfl)]
  show sSeq (sApp 3 (mTup (mCons (mC (.str "transfer")) (mCons (mBin fIx (mVar 0) (mVar 6)) (mCons (mBin fIx (mVar 0) (mVar 7)) (mNil)))))) sSkip _ t = .nx (gEv nm R1 aim (acc ++ [.tuple [.str "transfer",.int ((nm.getD o 0:Nat):Int),.int ((nm.getD u 0:Nat):Int)]]) _ _ _ _) t
  simp! [i1,i2,l1]
theorem df_zero {now:List Int} (hw:now.length = n) (ha:aim.length = n) (h:∀ k,k < n → df now aim k = 0):now = aim:=
  row_ext (by omega) fun k hk=>by
    have h:now.getD k 0 - aim.getD k 0 = 0:=h k (by omega)
    omega
theorem ev_loop (hn:n ≤ 5) (ha:aim.length = n) (hA:aim.Pairwise fun a b=>b ≤ a) (hN:NmK n nm) {R1:D}:∀ (m k:Nat) (now cur:List Int) (acc:List D) (a5 a6 a7:Sl),now.length = n → cur.length = n → Lnk n nm cur now → Bal (df now aim) n → pos (df now aim) n ≤ (m:Int) → acc.length + m ≤ 1000 →
    ∃ (ds:List Dd) (b5 b6 b7:Sl),loop (.nm 5) L_evening_deeds_0 ((List.range' k m).map fun i:Nat=>PyData.int (i:Int)) (gEv nm R1 aim acc now a5 a6 a7) t = .nx (gEv nm R1 aim (acc ++ ds.map ddD) aim b5 b6 b7) t ∧ (ds.length:Int) = pos (df now aim) n ∧ (∀ d ∈ ds,d.1 = true ∧ dOk n d) ∧ canAll cur ds ∧ Lnk n nm (ds.foldl rbI cur) aim
  | 0,k,now,cur,acc,a5,a6,a7,hw,_,hl,hB,hp,_=>by
    have p0:pos (df now aim) n = 0:=by have:=pos_nn (df now aim) n; omega
    have e:=df_zero hw ha (bal_zero hB p0)
    subst e
    exact ⟨[],a5,a6,a7,by rw [List.map_nil,List.append_nil]; rfl,by rw [p0]; rfl,fun d h=>(by cases h),trivial,hl⟩
  | m + 1,k,now,cur,acc,a5,a6,a7,hw,hc,hl,hB,hp,hk=>by
    rw [List.range'_succ,List.map_cons]
    by_cases e:now = aim
    · subst e
      refine ⟨[],.d (.int (k:Int)),a6,a7,?_,?_,fun d h=>(by cases h),trivial,hl⟩
      · rw [List.map_nil,List.append_nil]
        exact loop_bk (G1:=gEv nm R1 now acc now (.d (.int (k:Int))) a6 a7) rfl ev_bk
      · have z:∀ k,df now now k = 0:=fun k=>by show now.getD k 0 - now.getD k 0 = 0; omega
        have:∀ m,pos (df now now) m = 0:=fun m=>by
          induction m with
          | zero=>rfl
          | succ m ih =>
            show pos _ m + (if 0 < df now now m then df now now m else 0) = 0
            rw [ih,z m]
            rfl
        rw [this]
        rfl
    · have ne:∃ k,k < n ∧ df now aim k ≠ 0:=by
        rcases Classical.em (∃ k,k < n ∧ df now aim k ≠ 0) with z | z
        · exact z
        · exact absurd (df_zero hw ha fun k hk=>by
            by_cases q:df now aim k = 0
            · exact q
            · exact absurd ⟨k,hk,q⟩ z) e
      obtain ⟨u,un,fu,nn,o,ou,fo,mo⟩:=bal_find hB ne
      have fu':now.getD u 0 < aim.getD u 0:=by have:now.getD u 0 - aim.getD u 0 < 0:=fu; omega
      have fo':aim.getD o 0 < now.getD o 0:=by have:0 < now.getD o 0 - aim.getD o 0:=fo; omega
      have st:=ev_step (t:=t) (nm:=nm) hn (R1:=R1) (acc:=acc) (a5:=.d (.int (k:Int))) (a6:=a6) (a7:=a7) hw ha hN un fu' (fun k hk=>by have:0 ≤ now.getD k 0 - aim.getD k 0:=nn k hk; omega) ou fo' (fun k h1 h2=>by have:now.getD k 0 - aim.getD k 0 ≤ 0:=mo k h1 h2; omega) (by omega)
      have no:=hN.lt o (by omega)
      have nu:=hN.lt u un
      have nne:nm.getD o 0 ≠ nm.getD u 0:=fun z=>by have:=hN.inj o u (by omega) un z; omega
      have dm:=df_mv (aim:=aim) hw ou un
      have pm:=pos_mv ou fo fu n
      rw [if_pos (by omega:o < n)] at pm
      obtain ⟨ds,b5,b6,b7,e1,e2,e3,e4,e5⟩:=ev_loop hn ha hA hN (R1:=R1) m (k + 1) (mvI now o u) (mvI cur (nm.getD o 0) (nm.getD u 0)) (acc ++ [ddD (true,nm.getD o 0,nm.getD u 0)]) (.d (.int (k:Int))) (.d (.int (o:Int))) (.d (.int (u:Int))) (by rw [mvI_len]; exact hw) (by rw [mvI_len]; exact hc) (lnk_mv hN hc hw hl ou un) (by rw [dm]; exact bal_mv hB un nn ou fo) (by rw [dm,pm]; omega) (by rw [List.length_append,List.length_singleton]; omega)
      rw [dm,pm] at e2
      refine ⟨(true,nm.getD o 0,nm.getD u 0) :: ds,b5,b6,b7,?_,by rw [List.length_cons]; omega,fun d hd=>?_,⟨fun _=>?_,e4⟩,e5⟩
      · refine (loop_nx (G1:=gEv nm R1 aim acc now (.d (.int (k:Int))) a6 a7) rfl st).trans ?_
        rw [e1,List.append_assoc]
        rfl
      · rcases List.mem_cons.mp hd with rfl | hd
        · exact ⟨rfl,no,nu,nne⟩
        · exact e3 d hd
      · show cur.getD (nm.getD u 0) 0 < cur.getD (nm.getD o 0) 0
        rw [hl u un,hl o (by omega)]
        have:=pw_get hA (Nat.le_of_lt ou) (by omega)
        omega
theorem e_evening (hn:n ≤ 5) (ha:aim.length = n) (hA:aim.Pairwise fun a b=>b ≤ a) (a0:∀ x ∈ aim,0 ≤ x) (hN:NmK n nm) {now cur:List Int} (hw:now.length = n) (w0:∀ x ∈ now,0 ≤ x ∧ x ≤ 24) (hc:cur.length = n) (hl:Lnk n nm cur now) (hB:Bal (df now aim) n) :
    ∃ ds:List Dd,f_evening_deeds [.d (.list (nmD nm)),.d (.list (now.map .int)),.d (.list (aim.map .int))] t = .ok (.d (.list (ds.map ddD))) t ∧ (ds.length:Int) = pos (df now aim) n ∧ (∀ d ∈ ds,d.1 = true ∧ dOk n d) ∧ canAll cur ds ∧ Lnk n nm (ds.foldl rbI cur) aim:=by
  have nn:∀ (l:List Int),(∀ x ∈ l,0 ≤ x) → ∀ k,0 ≤ l.getD k 0:=fun l h k=>by
    rcases Nat.lt_or_ge k l.length with z | z
    · rw [getD_ge z]; exact h _ (List.getElem_mem z)
    · rw [List.getD_eq_getElem?_getD,List.getElem?_eq_none z]; exact Int.le_refl _
  have s0:∀ l:List Int,(∀ x ∈ l,0 ≤ x ∧ x ≤ 24) → 0 ≤ l.sum ∧ l.sum ≤ 24 * (l.length:Int):=fun l=>by
    induction l with
    | nil=>intro _; exact ⟨Int.le_refl _,Int.le_refl _⟩
    | cons x l ih =>
      intro h
      obtain ⟨a,b⟩:=ih fun y hy=>h y (List.mem_cons_of_mem _ hy)
      obtain ⟨c,d⟩:=h x List.mem_cons_self
      rw [List.sum_cons,List.length_cons]
      omega
  obtain ⟨s1,s2⟩:=s0 now w0
  have pl:pos (df now aim) n ≤ now.sum:=by
    have:=pos_sum (f:=df now aim) (g:=fun k=>now.getD k 0) n fun k hk=>by
      have a:=nn aim a0 k
      have b:=nn now (fun x hx=>(w0 x hx).1) k
      exact ⟨by show now.getD k 0 - aim.getD k 0 ≤ now.getD k 0; omega,b⟩
    rw [← hw,ps_list] at this
    rw [← hw]
    exact this
  obtain ⟨ds,b5,b6,b7,e1,e2,e3,e4,e5⟩:=ev_loop (t:=t) hn ha hA hN (R1:=.list (now.map .int)) now.sum.toNat 0 now cur [] .un .un .un hw hc hl hB (by omega) (by rw [List.length_nil]; omega)
  refine ⟨ds,?_,e2,e3,e4,e5⟩
  rw [← rng_r',List.nil_append] at e1
  have r1:rngOk now.sum = true:=by
    have:=rng_nat now.sum.toNat (by omega)
    rwa [Int.toNat_of_nonneg s1] at this
  have sm:f1 gSum [.d (.list (now.map .int))] = some (.d (.int now.sum)):=by
    show ((dInts (now.map .int)).map fun ns=>PyData.int ns.sum).map Rv.d = _
    rw [dI_map]
    rfl
  rw [u_evening_deeds]
  refine run_rt (G:=[.d (.list (nmD nm)),.d (.list (now.map .int)),.d (.list (aim.map .int))]) rfl ?_
  show m_evening_deeds [.d (.list (nmD nm)),.d (.list (now.map .int)),.d (.list (aim.map .int)),.un,.un,.un,.un,.un] t = _
  have e1:loop (.nm 5) L_evening_deeds_0 (rangeD 0 now.sum.toNat) [.d (.list (nmD nm)),.d (.list (now.map .int)),.d (.list (aim.map .int)),.l [],.l (now.map .int),.un,.un,.un] t = .nx [.d (.list (nmD nm)),.d (.list (now.map .int)),.d (.list (aim.map .int)),.l (ds.map ddD),.l (aim.map .int),b5,b6,b7] t:=e1
  simp! [m_evening_deeds,sm,r1,e1]
end
section
variable {t:Option DS} {n:Nat} {goal:List Int} {NOW:D}
abbrev gSd (NOW:D) (goal:List Int) (acc:List D) (row:List Int) (a4 a5:Sl):Gm:=[.d NOW,.d (.tuple (goal.map .int)),.l acc,.l (row.map .int),a4,a5]
theorem sd_same {acc:List D} {row:List Int} {k:Nat} {a5:Sl} (hr:row.length = n) (hg:goal.length = n) (hk:k < n) (e:row.getD k 0 = goal.getD k 0):L_sorting_deeds_0 (gSd NOW goal acc row (.d (.int (k:Int))) a5) t = .nx (gSd NOW goal acc row (.d (.int (k:Int))) a5) t:=by
  have x1:=ix_rowB (row:=row) (i:=k) (by omega)
  have x2:=ix_rowT (row:=goal) (i:=k) (by omega)
  rw [e] at x1
  unfold L_sorting_deeds_0
  rw [sif_no (t:=t) (t1:=t) (by simp! [x1,x2])]
  rfl
theorem sd_move {acc:List D} {row:List Int} {k o:Nat} {a5:Sl} (hn:n ≤ 5) (hr:row.length = n) (hg:goal.length = n) (ho:o < n) (ko:k < o) (ne:row.getD k 0 ≠ goal.getD k 0) (e:row.getD o 0 = goal.getD k 0) (mo:∀ j,k < j → j < o → row.getD j 0 ≠ goal.getD k 0) (hacc:acc.length < 1000) :
    L_sorting_deeds_0 (gSd NOW goal acc row (.d (.int (k:Int))) a5) t = .nx (gSd NOW goal (acc ++ [ddD (false,k,o)]) (exI row k o) (.d (.int (k:Int))) (.d (.int (o:Int)))) t:=by
  have x1:=ix_rowB (row:=row) (i:=k) (by omega)
  have x2:=ix_rowT (row:=goal) (i:=k) (by omega)
  have l1:acc.length < 16777216:=by omega
  have c1:∀ (i:Nat) ,i < n → mCmpB fNe (mBin fIx (mVar 3) (mVar 5)) (mBin fIx (mVar 1) (mVar 4)) (gSd NOW goal acc row (.d (.int (k:Int))) (.d (.int (i:Int)))) t = .ok (!decide (row.getD i 0 = goal.getD k 0)) t:=fun i hi=>by
    have x3:=ix_rowB (row:=row) (i:=i) (by omega)
    by_cases q:row.getD i 0 = goal.getD k 0
    · rw [decide_eq_true q]
      rw [q] at x3
      simp! [x2,x3]
    · rw [decide_eq_false q]
      simp! [x2,x3,q]
  have w:=wl_up (t:=t) (c:=mCmpB fNe (mBin fIx (mVar 3) (mVar 5)) (mBin fIx (mVar 1) (mVar 4))) (b:=sSeq (sAugN 5 (mC (.int 1)) (fun x y=>x + y)) (sSkip)) (Gf:=fun i=>gSd NOW goal acc row (.d (.int (k:Int))) (.d (.int (i:Int)))) (lo:=k + 1) (u:=o) (fun i _ hi=>by
      rw [seq_nx (augN_i (x:=(i:Int)) (y:=1) rfl rfl)]
      rfl) (fun i h1 hi=>by rw [c1 i (by omega),decide_eq_false (mo i (by omega) hi)]; rfl) (by rw [c1 o ho,decide_eq_true e]; rfl) (o - (k + 1)) (k + 1) 64 (by omega) (by omega) (by omega)
  unfold L_sorting_deeds_0
  rw [seq_nx (t:=t) (G1:=gSd NOW goal (acc ++ [ddD (false,k,o)]) (exI row k o) (.d (.int (k:Int))) (.d (.int (o:Int)))) (t1:=t) ?_]
  · rfl
  rw [if_yes (t:=t) (t1:=t) (by simp! [x1,x2,ne])]
  rw [seq_nx (t:=t) (G1:=gSd NOW goal acc row (.d (.int (k:Int))) (.d (.int ((k + 1:Nat):Int)))) (t1:=t) (by
    show sSet 5 (mBin fAdd (mVar 4) (mC (.int 1))) _ t = .nx (gSd NOW goal acc row (.d (.int (k:Int))) (.d (.int ((k:Int) + 1)))) t
    simp! [])]
  rw [seq_nx w]
  rw [seq_nx (t:=t) (put_row (t:=t) (row:=row) (i:=o) (x:=row.getD k 0) (by simp! [x1]) (by rfl) (by simp! []) (by omega))]
  rw [seq_nx (t:=t) (G1:=gSd NOW goal acc (exI row k o) (.d (.int (k:Int))) (.d (.int (o:Int)))) (t1:=t) (by
    show sPut 3 (mVar 4) (mBin fIx (mVar 1) (mVar 4)) (gSd NOW goal acc (row.set o (row.getD k 0)) (.d (.int (k:Int))) (.d (.int (o:Int)))) t = _
    rw [put_row (t:=t) (row:=row.set o (row.getD k 0)) (i:=k) (x:=goal.getD k 0) (by simp! [x2]) (by rfl) (by simp! []) (by rw [List.length_set]; omega)]
    rw [List.set_comm _ _ (by omega:o ≠ k),← e]
    rfl)]
  show sSeq (sFrz 5 (sApp 2 (mTup (mCons (mC (.str "exchange")) (mCons (mVar 4) (mCons (mVar 5) (mNil))))))) sSkip _ t = .nx (gSd NOW goal (acc ++ [.tuple [.str "exchange",.int (k:Int),.int (o:Int)]]) _ _ _) t
  simp! [l1]
theorem sd_loop (hn:n ≤ 5) (hg:goal.length = n):∀ (m k:Nat) (row:List Int) (acc:List D) (a4 a5:Sl),k + m = n → row.Perm goal → (∀ j,j < k → row.getD j 0 = goal.getD j 0) → acc.length + m ≤ 1000 →
    ∃ (ds:List Dd) (b4 b5:Sl),loop (.nm 4) L_sorting_deeds_0 ((List.range' k m).map fun i:Nat=>PyData.int (i:Int)) (gSd NOW goal acc row a4 a5) t = .nx (gSd NOW goal (acc ++ ds.map ddD) goal b4 b5) t ∧ ds.length ≤ m - 1 ∧ (∀ d ∈ ds,d.1 = false ∧ dOk n d) ∧ ds.foldl rbI row = goal
  | 0,k,row,acc,a4,a5,hk,hp,pre,_=>by
    have e:row = goal:=row_ext hp.length_eq fun j hj=>pre j (by rw [hp.length_eq] at hj; omega)
    subst e
    exact ⟨[],a4,a5,by rw [List.map_nil,List.append_nil]; rfl,Nat.le_refl _,fun d h=>(by cases h),rfl⟩
  | m + 1,k,row,acc,a4,a5,hk,hp,pre,hm=>by
    have hr:row.length = n:=by rw [hp.length_eq]; exact hg
    rw [List.range'_succ,List.map_cons]
    by_cases e:row.getD k 0 = goal.getD k 0
    · obtain ⟨ds,b4,b5,e1,e2,e3,e4⟩:=sd_loop hn hg m (k + 1) row acc (.d (.int (k:Int))) a5 (by omega) hp (fun j hj=>by
        by_cases q:j = k
        · rw [q]; exact e
        · exact pre j (by omega)) (by omega)
      exact ⟨ds,b4,b5,(loop_nx (G1:=gSd NOW goal acc row (.d (.int (k:Int))) a5) rfl (sd_same hr hg (by omega) e)).trans e1,by omega,e3,e4⟩
    · obtain ⟨o,ko,ho,eo,mo⟩:=sort_next hp pre (by omega) e
      have st:=sd_move (t:=t) (NOW:=NOW) (acc:=acc) (a5:=a5) hn hr hg (by omega) ko e eo mo (by omega)
      have hp2:=(exI_perm (row:=row) (i:=k) (j:=o) (by omega) ho).trans hp
      obtain ⟨ds,b4,b5,e1,e2,e3,e4⟩:=sd_loop hn hg m (k + 1) (exI row k o) (acc ++ [ddD (false,k,o)]) (.d (.int (k:Int))) (.d (.int (o:Int))) (by omega) hp2 (ex_pre (by omega) pre ko ho eo) (by rw [List.length_append,List.length_singleton]; omega)
      refine ⟨(false,k,o) :: ds,b4,b5,?_,by rw [List.length_cons]; omega,fun d hd=>?_,e4⟩
      · refine (loop_nx (G1:=gSd NOW goal acc row (.d (.int (k:Int))) a5) rfl st).trans ?_
        rw [e1,List.append_assoc]
        rfl
      · rcases List.mem_cons.mp hd with rfl | hd
        · refine ⟨rfl,?_,?_,?_⟩
          · show k < n
            omega
          · show o < n
            omega
          · show k ≠ o
            omega
        · exact e3 d hd
theorem e_sorting (hn:n ≤ 5) (hg:goal.length = n) {row:List Int} (hp:row.Perm goal):∃ ds:List Dd,f_sorting_deeds [.d (.list (row.map .int)),.d (tupI goal)] t = .ok (.d (.list (ds.map ddD))) t ∧ ds.length ≤ n - 1 ∧ (∀ d ∈ ds,d.1 = false ∧ dOk n d) ∧ ds.foldl rbI row = goal:=by
  obtain ⟨ds,b4,b5,e1,e2,e3,e4⟩:=sd_loop (t:=t) (NOW:=.list (row.map .int)) hn hg n 0 row [] .un .un (by omega) hp (fun j h=>absurd h (Nat.not_lt_zero _)) (by rw [List.length_nil]; omega)
  refine ⟨ds,?_,e2,e3,e4⟩
  rw [← rng_r',List.nil_append] at e1
  have r1:rngOk (((goal.map PyData.int).length:Nat):Int) = true:=rng_nat _ (by rw [List.length_map]; omega)
  have tn:(((goal.map PyData.int).length:Nat):Int).toNat = n:=by rw [List.length_map,Int.toNat_natCast,hg]
  rw [u_sorting_deeds]
  unfold tupI
  refine run_rt (G:=[.d (.list (row.map .int)),.d (.tuple (goal.map .int))]) rfl ?_
  show m_sorting_deeds [.d (.list (row.map .int)),.d (.tuple (goal.map .int)),.un,.un,.un,.un] t = _
  have e1:loop (.nm 4) L_sorting_deeds_0 (rangeD 0 n) [.d (.list (row.map .int)),.d (.tuple (goal.map .int)),.l [],.l (row.map .int),.un,.un] t = .nx [.d (.list (row.map .int)),.d (.tuple (goal.map .int)),.l (ds.map ddD),.l (goal.map .int),b4,b5] t:=e1
  simp! [m_sorting_deeds,r1,tn,e1]
end
theorem ge_int (a b:Int):PySem.W.dataLe true (id:D → D) (.int a) (.int b) = decide (b ≤ a):=by
  have e:=congrFun (congrFun (PySem.W.dataGe_int (β:=Int) (fun b=>b)) a) b
  exact e
theorem srt_R (ls:List Int):srtD true (ls.map .int) = (fal ls).map .int:=by
  have h1:(srtD true (ls.map .int)).Perm (ls.map .int):=List.mergeSort_perm _ _
  have h2:(srtD true (ls.map .int)).Pairwise (fun a b=>PySem.W.dataLe true (id:D → D) a b = true):=PySem.W.sort_pairwise (PySem.W.sortLe_total _ _ _) _
  have h3:=h1.trans ((fal_perm ls).symm.map PyData.int)
  refine List.Perm.eq_of_pairwise (fun a b ha hb x y=>?_) h2 (List.pairwise_map.mpr ((fal_pw ls).imp fun h=>(ge_int _ _).trans (decide_eq_true h))) h3
  obtain ⟨a',_,rfl⟩:=List.mem_map.mp (h1.mem_iff.mp ha)
  obtain ⟨b',_,rfl⟩:=List.mem_map.mp hb
  rw [ge_int,decide_eq_true_eq] at x y
  have:a' = b':=by omega
  rw [this]
section
variable {t:Option DS}
theorem sortRv_d {m:EM} {G:Gm} {xs:List Int} (hx:xs.length ≤ 1000) (h:m G t = .ok (.l (xs.map .int)) t ∨ m G t = .ok (.d (.tuple (xs.map .int))) t):mSortRv m G t = .ok (.l ((fal xs).map .int)) t:=by
  have ok:=ok_Is (ls:=xs) (by omega)
  unfold mSortRv
  rcases h with h | h
  · rw [h]
    show Rs.of (if sortOk (xs.map .int) = true then some (Rv.l (srtD true (xs.map .int))) else none) t = _
    rw [if_pos ok,srt_R]
    rfl
  · rw [h]
    show Rs.of (if sortOk (xs.map .int) = true then some (Rv.l (srtD true (xs.map .int))) else none) t = _
    rw [if_pos ok,srt_R]
    rfl
theorem e_falling {row:List Int} (hr:row.length ≤ 1000):f_falling [.d (tupI row)] t = .ok (.d (.list ((fal row).map .int))) t:=by
  have e:=sortRv_d (t:=t) (m:=mCallB fList (mCons (mVar 0) (mNil))) (G:=[.d (.tuple (row.map .int))]) (xs:=row) hr (.inl (by simp! []))
  rw [u_falling]
  unfold tupI
  refine run_rt (G:=[.d (.tuple (row.map .int))]) rfl ?_
  show m_falling [.d (.tuple (row.map .int))] t = _
  simp! [m_falling,e]
def tp:Int → List Int → List Int
  | a,[]=>[a]
  | a,x :: xs=>a :: tp (a + x) xs
theorem tp_len:∀ (xs:List Int) (a:Int),(tp a xs).length = xs.length + 1
  | [],_=>rfl
  | x :: xs,a=>by show (tp (a + x) xs).length + 1 = _; rw [tp_len xs]; rfl
theorem tp_get:∀ (xs:List Int) (a:Int) (k:Nat),k ≤ xs.length → (tp a xs).getD k 0 = a + ps (fun i=>xs.getD i 0) k
  | [],a,k,h=>by
    have:k = 0:=by simpa using h
    subst this
    show a = a + 0
    omega
  | x :: xs,a,0,_=>by show a = a + 0; omega
  | x :: xs,a,k + 1,h=>by
    show (tp (a + x) xs).getD k 0 = _
    rw [tp_get xs (a + x) k (by simpa using h)]
    have gen:∀ k,ps (fun i=>(x :: xs).getD i 0) (k + 1) = x + ps (fun i=>xs.getD i 0) k:=fun k=>by
      induction k with
      | zero=>show (0:Int) + x = x + 0; omega
      | succ k ih =>
        show ps (fun i=>(x :: xs).getD i 0) (k + 1) + xs.getD k 0 = x + (ps (fun i=>xs.getD i 0) k + xs.getD k 0)
        rw [ih]
        omega
    rw [gen]
    omega
theorem tp_loop {R:D}:∀ (xs:List Int) (a:Int) (acc:List D) (a2:Sl),acc.length + xs.length ≤ 1000 → ∃ b2,loop (.nm 2) L_top_sums_0 (xs.map .int) [.d R,.l (acc ++ [.int a]),a2] t = .nx [.d R,.l (acc ++ (tp a xs).map .int),b2] t
  | [],a,acc,a2,_=>⟨a2,rfl⟩
  | x :: xs,a,acc,a2,h=>by
    rw [List.length_cons] at h
    obtain ⟨b2,e⟩:=tp_loop (R:=R) xs (a + x) (acc ++ [.int a]) (.d (.int x)) (by rw [List.length_append,List.length_singleton]; omega)
    refine ⟨b2,?_⟩
    have lx:=last_ix (acc:=acc) (x:=.int a)
    have bl:(acc ++ [PyData.int a]).length < 16777216:=by rw [List.length_append,List.length_singleton]; omega
    have eS:acc ++ (tp a (x :: xs)).map PyData.int = acc ++ [.int a] ++ (tp (a + x) xs).map .int:=by
      show acc ++ (.int a :: (tp (a + x) xs).map .int) = _
      rw [List.append_assoc]
      rfl
    rw [eS,List.map_cons]
    refine (loop_nx rfl ?_).trans e
    simp! [L_top_sums_0,lx,bl]
theorem e_tops {row:List Int} (hr:row.length ≤ 900):f_top_sums [.d (tupI row)] t = .ok (.d (.list ((tp 0 (fal row)).map .int))) t ∧ f__law_tops [.d (tupI row)] t = .ok (.d (tupI (tp 0 (fal row)))) t:=by
  have e:=e_falling (t:=t) (row:=row) (by omega)
  obtain ⟨b2,e1⟩:=tp_loop (t:=t) (R:=tupI row) (fal row) 0 [] .un (by rw [fal_len,List.length_nil]; omega)
  rw [List.nil_append,List.nil_append] at e1
  have e2:loop (.nm 2) L__law_tops_0 ((fal row).map .int) [.d (tupI row),.l [.int 0],.un] t = .nx [.d (tupI row),.l ((tp 0 (fal row)).map .int),b2] t:=e1
  refine ⟨?_,?_⟩
  · rw [u_top_sums]
    unfold tupI at e e1 ⊢
    refine run_rt (G:=[.d (.tuple (row.map .int))]) rfl ?_
    show m_top_sums [.d (.tuple (row.map .int)),.un,.un] t = _
    simp! [m_top_sums,e,e1]
  · have e3:=sortRv_d (t:=t) (m:=mVar 0) (G:=[.d (.tuple (row.map .int)),.l [.int 0],.un]) (xs:=row) (by omega) (.inr (by simp! []))
    rw [u__law_tops]
    unfold tupI at e2 ⊢
    refine run_rt (G:=[.d (.tuple (row.map .int))]) rfl ?_
    show m__law_tops [.d (.tuple (row.map .int)),.un,.un] t = _
    simp! [m__law_tops,e3,e2]
end
def leB (a b:List Int):Bool:=(List.range a.length).all fun i=>decide (a.getD i 0 ≤ b.getD i 0)
def evB (g s:List Int):Bool:=decide ((fal g).sum = (fal s).sum) && leB (tp 0 (fal g)) (tp 0 (fal s))
theorem leB_iff {a b:List Int}:leB a b = true ↔ ∀ i,i < a.length → a.getD i 0 ≤ b.getD i 0:=by
  unfold leB
  rw [List.all_eq_true]
  constructor
  · intro h i hi
    exact of_decide_eq_true (h i (List.mem_range.mpr hi))
  · intro h i hi
    exact decide_eq_true (h i (List.mem_range.mp hi))
theorem tp_last:∀ (xs:List Int) (a:Int),∃ l,tp a xs = l ++ [a + xs.sum]
  | [],a=>⟨[],by show [a] = [a + 0]; rw [Int.add_zero]⟩
  | x :: xs,a=>by
    obtain ⟨l,e⟩:=tp_last xs (a + x)
    refine ⟨a :: l,?_⟩
    show a :: tp (a + x) xs = _
    rw [e,List.sum_cons,Int.add_assoc]
    rfl
theorem ix_lastL {xs:List Int}:fIx (.d (.list ((tp 0 xs).map .int))) (.d (.int (-1))) = some (.d (.int xs.sum)) ∧ fIx (.d (tupI (tp 0 xs))) (.d (.int (-1))) = some (.d (.int xs.sum)):=by
  obtain ⟨l,e⟩:=tp_last xs 0
  rw [Int.zero_add] at e
  have g:((tp 0 xs).map PyData.int).getLast? = some (.int xs.sum):=by rw [e,List.map_append,List.getLast?_append]; rfl
  refine ⟨?_,?_⟩
  · rw [ix_l,atI_last g]
    rfl
  · unfold tupI
    rw [ix_t,atI_last g]
    rfl
section
variable {t:Option DS} {a b:List Int} {A B:D}
abbrev gGu (A B:D) (a b:List Int) (a4:Sl):Gm:=[.d A,.d B,.d (.list (a.map .int)),.d (.list (b.map .int)),a4]
theorem gu_one {k:Nat} (ha:k < a.length) (hb:k < b.length):L_goes_under_0 (gGu A B a b (.d (.int (k:Int)))) t = if a.getD k 0 ≤ b.getD k 0 then .nx (gGu A B a b (.d (.int (k:Int)))) t else .rt (.bool false) t:=by
  have x1:=ix_rowL ha
  have x2:=ix_rowL hb
  by_cases q:a.getD k 0 ≤ b.getD k 0
  · have q':¬ b.getD k 0 < a.getD k 0:=by omega
    rw [if_pos q]
    simp! [L_goes_under_0,x1,x2,q']
  · have q':b.getD k 0 < a.getD k 0:=by omega
    rw [if_neg q]
    simp! [L_goes_under_0,x1,x2,q']
theorem loop_rt' {pt:Pt} {body:SM} {x:D} {xs:List D} {G G1:Gm} {t t2:Option DS} {v:D} (h1:asg pt x G = some G1) (h2:body G1 t = .rt v t2):loop pt body (x :: xs) G t = .rt v t2:=by
  simp only [loop,h1,h2]
theorem gu_loop (hl:a.length = b.length):∀ (m k:Nat) (a4:Sl),k + m = a.length → ((∀ j,k ≤ j → j < a.length → a.getD j 0 ≤ b.getD j 0) → ∃ b4,loop (.nm 4) L_goes_under_0 ((List.range' k m).map fun i:Nat=>PyData.int (i:Int)) (gGu A B a b a4) t = .nx (gGu A B a b b4) t) ∧ ((∃ j,k ≤ j ∧ j < a.length ∧ ¬ a.getD j 0 ≤ b.getD j 0) → loop (.nm 4) L_goes_under_0 ((List.range' k m).map fun i:Nat=>PyData.int (i:Int)) (gGu A B a b a4) t = .rt (.bool false) t)
  | 0,k,a4,hk=>⟨fun _=>⟨a4,rfl⟩,fun ⟨j,h1,h2,_⟩=>by omega⟩
  | m + 1,k,a4,hk=>by
    have e:=gu_one (t:=t) (A:=A) (B:=B) (a:=a) (b:=b) (k:=k) (by omega) (by omega)
    obtain ⟨i1,i2⟩:=gu_loop hl m (k + 1) (.d (.int (k:Int))) (by omega)
    rw [List.range'_succ,List.map_cons]
    refine ⟨fun h=>?_,fun ⟨j,h1,h2,h3⟩=>?_⟩
    · obtain ⟨b4,q⟩:=i1 fun j h1 h2=>h j (by omega) h2
      rw [if_pos (h k (Nat.le_refl _) (by omega))] at e
      exact ⟨b4,(loop_nx (G1:=gGu A B a b (.d (.int (k:Int)))) rfl e).trans q⟩
    · by_cases c:a.getD k 0 ≤ b.getD k 0
      · rw [if_pos c] at e
        refine (loop_nx (G1:=gGu A B a b (.d (.int (k:Int)))) rfl e).trans (i2 ⟨j,?_,h2,h3⟩)
        by_cases z:j = k
        · subst z; exact absurd c h3
        · omega
      · rw [if_neg c] at e
        exact loop_rt' (G1:=gGu A B a b (.d (.int (k:Int)))) rfl e
theorem e_goes {g s:List Int} (hg:g.length ≤ 900) (hs:s.length = g.length):f_goes_under [.d (tupI g),.d (tupI s)] t = .ok (.d (.bool (evB g s))) t:=by
  have e1:=(e_tops (t:=t) (row:=g) hg).1
  have e2:=(e_tops (t:=t) (row:=s) (by omega)).1
  have l1:=(ix_lastL (xs:=fal g)).1
  have l2:=(ix_lastL (xs:=fal s)).1
  have len:(tp 0 (fal g)).length = (tp 0 (fal s)).length:=by rw [tp_len,tp_len,fal_len,fal_len,hs]
  have lg:(tp 0 (fal g)).length = g.length + 1:=by rw [tp_len,fal_len]
  obtain ⟨i1,i2⟩:=gu_loop (t:=t) (A:=tupI g) (B:=tupI s) len (tp 0 (fal g)).length 0 .un (by omega)
  rw [← rng_r'] at i1 i2
  have r1:rngOk ((((tp 0 (fal g)).map PyData.int).length:Nat):Int) = true:=rng_nat _ (by rw [List.length_map]; omega)
  have tn:((((tp 0 (fal g)).map PyData.int).length:Nat):Int).toNat = (tp 0 (fal g)).length:=by rw [List.length_map,Int.toNat_natCast]
  rw [u_goes_under]
  unfold evB
  generalize tupI g = A at e1 i1 i2 ⊢
  generalize tupI s = B at e2 i1 i2 ⊢
  refine run_rt (G:=[.d A,.d B]) rfl ?_
  show m_goes_under [.d A,.d B,.un,.un,.un] t = _
  by_cases q:(fal g).sum = (fal s).sum
  · rw [decide_eq_true q]
    rw [q] at l1
    cases c:leB (tp 0 (fal g)) (tp 0 (fal s)) with
    | true =>
      obtain ⟨b4,i1⟩:=i1 fun j _ h=>leB_iff.mp c j h
      simp! [m_goes_under,e1,e2,l1,l2,r1,tn,i1]
    | false =>
      have i2:=i2 (by
        rcases Classical.em (∃ j,0 ≤ j ∧ j < (tp 0 (fal g)).length ∧ ¬ (tp 0 (fal g)).getD j 0 ≤ (tp 0 (fal s)).getD j 0) with z | z
        · exact z
        · rw [leB_iff.mpr fun j hj=>by
            rcases Int.lt_or_le ((tp 0 (fal s)).getD j 0) ((tp 0 (fal g)).getD j 0) with y | y
            · exact absurd ⟨j,Nat.zero_le _,hj,by omega⟩ z
            · exact y] at c
          cases c)
      simp! [m_goes_under,e1,e2,l1,l2,r1,tn,i2]
      try rfl
  · rw [decide_eq_false q]
    simp! [m_goes_under,e1,e2,l1,l2,q]
    try rfl
def gtP:D → Bool
  | .tuple [.int a,.int b]=>decide (b < a)
  | _=>false
theorem zip_gt:∀ (a b:List Int),a.length = b.length → ((zipD (a.map .int) (b.map .int)).filter gtP = [] ↔ ∀ i,i < a.length → a.getD i 0 ≤ b.getD i 0)
  | [],[],_=>⟨fun _ i h=>absurd h (Nat.not_lt_zero _),fun _=>rfl⟩
  | [],_ :: _,h=>by cases h
  | _ :: _,[],h=>by cases h
  | x :: a,y :: b,h=>by
    have ih:=zip_gt a b (by simpa using h)
    show ((PyData.tuple [.int x,.int y] :: zipD (a.map .int) (b.map .int)).filter gtP = []) ↔ _
    have e:gtP (.tuple [.int x,.int y]) = decide (y < x):=rfl
    by_cases c:y < x
    · rw [List.filter_cons_of_pos (by rw [e]; exact decide_eq_true c)]
      refine ⟨fun z=>(by cases z),fun z=>?_⟩
      have:x ≤ y:=z 0 (by simp)
      omega
    · rw [List.filter_cons_of_neg (by rw [e,decide_eq_false c]; exact Bool.false_ne_true),ih]
      refine ⟨fun z i hi=>?_,fun z i hi=>z (i + 1) (by simpa using hi)⟩
      cases i with
      | zero=>show x ≤ y; omega
      | succ i=>exact z i (by simpa using hi)
theorem eq_ll (a b:List Int):fEq (.d (.list (a.map .int))) (.d (.list (b.map .int))) = some (.d (.bool (decide (a = b)))):=eq_bl a b
theorem e_evener {g s:List Int} (hg:g.length ≤ 900) (hs:s.length = g.length):f__law_evener [.d (tupI g),.d (tupI s)] t = .ok (.d (.bool (evB g s))) t:=by
  have e1:=(e_tops (t:=t) (row:=g) hg).2
  have e2:=(e_tops (t:=t) (row:=s) (by omega)).2
  have l1:=(ix_lastL (xs:=fal g)).2
  have l2:=(ix_lastL (xs:=fal s)).2
  have len:(tp 0 (fal g)).length = (tp 0 (fal s)).length:=by rw [tp_len,tp_len,fal_len,fal_len,hs]
  have lg:(tp 0 (fal g)).length = g.length + 1:=by rw [tp_len,fal_len]
  have zl:∀ (a b:List D),(zipD a b).length ≤ a.length:=fun a=>by
    induction a with
    | nil=>intro b; cases b <;> exact Nat.le_refl _
    | cons x a ih =>
      intro b
      cases b with
      | nil=>exact Nat.zero_le _
      | cons y b=>exact Nat.succ_le_succ (ih b)
  have zi:∀ (a b:List Int),∀ x ∈ zipD (a.map .int) (b.map .int),∃ i j:Int,x = .tuple [.int i,.int j]:=fun a=>by
    induction a with
    | nil=>intro b x hx; cases b <;> cases hx
    | cons i a ih =>
      intro b x hx
      cases b with
      | nil=>cases hx
      | cons j b =>
        rcases List.mem_cons.mp hx with rfl | hx
        · exact ⟨i,j,rfl⟩
        · exact ih b x hx
  have C:∀ (A B:D),M__law_evener_0 [.d A,.d B,.d (tupI (tp 0 (fal g))),.d (tupI (tp 0 (fal s))),.un,.un] t = .ok (.l ((((zipD ((tp 0 (fal g)).map .int) ((tp 0 (fal s)).map .int)).filter gtP).map fun _=>(1:Int)).map .int)) t:=fun A B=>by
    unfold M__law_evener_0
    rw [ap_lc2]
    have z:mZip (mVar 2) (mVar 3) [.d A,.d B,.d (tupI (tp 0 (fal g))),.d (tupI (tp 0 (fal s))),.un,.un] t = .ok (zipD ((tp 0 (fal g)).map .int) ((tp 0 (fal s)).map .int)) t:=rfl
    rw [z,lc_go,lc_ok (p:=gtP) (f:=fun _=>.int 1)]
    · rw [List.nil_append,List.map_map]
      rfl
    · have:=zl ((tp 0 (fal g)).map .int) ((tp 0 (fal s)).map .int)
      rw [List.length_map] at this
      rw [List.length_nil]
      omega
    · intro x hx
      obtain ⟨i,j,rfl⟩:=zi _ _ x hx
      refine ⟨[.d A,.d B,.d (tupI (tp 0 (fal g))),.d (tupI (tp 0 (fal s))),.d (.int i),.d (.int j)],rfl,?_,fun _=>rfl⟩
      have q:mCmpB (fCm iGt) (mVar 4) (mVar 5) [.d A,.d B,.d (tupI (tp 0 (fal g))),.d (tupI (tp 0 (fal s))),.d (.int i),.d (.int j)] t = .ok (decide (j < i)) t:=by
        by_cases c:j < i
        · simp! [c]
        · simp! [c]
      simp only [cst,q,Rs.nox]
      rfl
  have nl:mLst mNil [.d (tupI g),.d (tupI s),.d (tupI (tp 0 (fal g))),.d (tupI (tp 0 (fal s))),.un,.un] t = .ok (.l (([]:List Int).map .int)) t:=rfl
  have C:=C (tupI g) (tupI s)
  have q1:=eq_ll (((zipD ((tp 0 (fal g)).map .int) ((tp 0 (fal s)).map .int)).filter gtP).map fun _=>(1:Int)) []
  have q2:decide ((((zipD ((tp 0 (fal g)).map .int) ((tp 0 (fal s)).map .int)).filter gtP).map fun _=>(1:Int)) = []) = leB (tp 0 (fal g)) (tp 0 (fal s)):=by
    have z:=zip_gt (tp 0 (fal g)) (tp 0 (fal s)) len
    cases c:leB (tp 0 (fal g)) (tp 0 (fal s)) with
    | true=>exact decide_eq_true (by rw [List.map_eq_nil_iff]; exact z.mpr (leB_iff.mp c))
    | false =>
      refine decide_eq_false fun w=>?_
      rw [List.map_eq_nil_iff] at w
      rw [leB_iff.mpr (z.mp w)] at c
      cases c
  rw [q2] at q1
  rw [u__law_evener]
  unfold evB
  generalize (((zipD ((tp 0 (fal g)).map .int) ((tp 0 (fal s)).map .int)).filter gtP).map fun _=>(1:Int)) = L at C q1
  generalize tupI (tp 0 (fal g)) = U at e1 l1 C nl
  generalize tupI (tp 0 (fal s)) = V at e2 l2 C nl
  generalize tupI g = A at e1 C nl ⊢
  generalize tupI s = B at e2 C nl ⊢
  refine run_rt (G:=[.d A,.d B]) rfl ?_
  show m__law_evener [.d A,.d B,.un,.un,.un,.un] t = _
  have q3:fEq (.d (.int (fal g).sum)) (.d (.int (fal s).sum)) = some (.d (.bool (decide ((fal g).sum = (fal s).sum)))):=by rw [eq_i]
  have q4:fEq (.d (.list (L.map .int))) (.d (.list [])) = some (.d (.bool (leB (tp 0 (fal g)) (tp 0 (fal s))))):=q1
  generalize leB (tp 0 (fal g)) (tp 0 (fal s)) = W at q4 ⊢
  by_cases c:(fal g).sum = (fal s).sum
  · rw [decide_eq_true c] at q3 ⊢
    cases W <;> simp! [m__law_evener,e1,e2,l1,l2,q3,C,nl,q4] <;> try rfl
  · rw [decide_eq_false c] at q3 ⊢
    simp! [m__law_evener,e1,e2,l1,l2,q3]
    try rfl
end
theorem bal_ev {g s:List Int} {n:Nat} (hg:g.length = n) (hs:s.length = n) (h:evB g s = true):Bal (df (fal s) (fal g)) n:=by
  unfold evB at h
  rw [Bool.and_eq_true,decide_eq_true_eq,leB_iff] at h
  obtain ⟨h1,h2⟩:=h
  have P:∀ k,ps (df (fal s) (fal g)) k = ps (fun i=>(fal s).getD i 0) k - ps (fun i=>(fal g).getD i 0) k:=fun k=>ps_sub _ _ k
  refine ⟨fun k hk=>?_,?_⟩
  · have q:=h2 k (by rw [tp_len,fal_len]; omega)
    rw [tp_get _ _ _ (by rw [fal_len]; omega),tp_get _ _ _ (by rw [fal_len]; omega)] at q
    rw [P]
    omega
  · have a:=ps_list (fal s)
    have b:=ps_list (fal g)
    rw [fal_len,hs] at a
    rw [fal_len,hg] at b
    rw [P,a,b]
    omega
def absd (a b:Int):Int:=if a - b < 0 then -(a - b) else a - b
theorem ab_cons (x y:Int) (a b:List Int):∀ k,ab (df (x :: a) (y :: b)) (k + 1) = absd x y + ab (df a b) k
  | 0=>by
    show (0:Int) + (if 0 ≤ x - y then x - y else - (x - y)) = (if x - y < 0 then -(x - y) else x - y) + 0
    by_cases c:x - y < 0
    · rw [if_neg (by omega),if_pos c]; omega
    · rw [if_pos (by omega),if_neg c]; omega
  | k + 1=>by
    show ab (df (x :: a) (y :: b)) (k + 1) + (if 0 ≤ a.getD k 0 - b.getD k 0 then a.getD k 0 - b.getD k 0 else - (a.getD k 0 - b.getD k 0)) = absd x y + (ab (df a b) k + (if 0 ≤ a.getD k 0 - b.getD k 0 then a.getD k 0 - b.getD k 0 else - (a.getD k 0 - b.getD k 0)))
    rw [ab_cons x y a b k]
    omega
theorem ab_zip:∀ (a b:List Int),a.length = b.length → (List.zipWith absd a b).sum = ab (df a b) a.length
  | [],b,_=>rfl
  | _ :: _,[],h=>by cases h
  | x :: a,y :: b,h=>by
    rw [List.zipWith_cons_cons,List.sum_cons,ab_zip a b (by simpa using h),List.length_cons,ab_cons]
theorem srI_rev (l:List Int):srI l = (fal l).reverse:=
  List.Perm.eq_of_pairwise (le:=fun a b:Int=>a ≤ b) (fun a b _ _ x y=>Int.le_antisymm x y) (srI_pw l) (List.pairwise_reverse.mpr (fal_pw l)) ((srI_perm l).trans ((fal_perm l).symm.trans (List.reverse_perm _).symm))
/-- half the sum of the differences -/
def hfS (s g:List Int):Int:=(List.zipWith absd (fal s) (fal g)).sum
theorem hf_asc {s g:List Int} (h:s.length = g.length):(List.zipWith absd (srI s) (srI g)).sum = hfS s g:=by
  rw [srI_rev,srI_rev]
  unfold hfS
  rw [← List.reverse_zipWith (by rw [fal_len,fal_len,h])]
  exact sum_perm (List.reverse_perm _)
theorem hf_pos {s g:List Int} {n:Nat} (hg:g.length = n) (hs:s.length = n) (h:evB g s = true):hfS s g = 2 * pos (df (fal s) (fal g)) n:=by
  unfold hfS
  rw [ab_zip _ _ (by rw [fal_len,fal_len]; omega),fal_len,hs,ab_pos,(bal_ev hg hs h).tot]
  omega
theorem rng_zip {a b:List Int} {n:Nat} (ha:a.length = n) (hb:b.length = n):((List.range' 0 n).map fun i:Nat=>PyData.int (absd (a.getD i 0) (b.getD i 0))) = (List.zipWith absd a b).map .int:=by
  apply List.ext_getElem
  · rw [List.length_map,List.length_map,List.length_range',List.length_zipWith]; omega
  · intro i h1 h2
    rw [List.length_map,List.length_range'] at h1
    rw [List.getElem_map,List.getElem_map,List.getElem_range',List.getElem_zipWith,Nat.zero_add,Nat.one_mul,getD_ge (by omega),getD_ge (by omega)]
section
variable {t:Option DS}
theorem sumT (xs:List Int):f1 gSum [.d (.tuple (xs.map .int))] = some (.d (.int xs.sum)) ∧ f1 gSum [.d (.list (xs.map .int))] = some (.d (.int xs.sum)):=by
  refine ⟨?_,?_⟩
  · show ((dInts (xs.map .int)).map fun ns=>PyData.int ns.sum).map Rv.d = _
    rw [dI_map]
    rfl
  · show ((dInts (xs.map .int)).map fun ns=>PyData.int ns.sum).map Rv.d = _
    rw [dI_map]
    rfl
def uF (a b:List Int):D → D
  | .int i=>.int (absd (a.getD i.toNat 0) (b.getD i.toNat 0))
  | d=>d
theorem M_un {A B C:D} {a b:List Int} {n:Nat} (hn:n ≤ 1000) (hA:A = .int (n:Int)) (ha:a.length = n) (hb:b.length = n):M_units_0 [.d A,.d B,.d C,.d (.list (a.map .int)),.d (.list (b.map .int)),.un] t = .ok (.l ((List.zipWith absd a b).map .int)) t:=by
  subst hA
  unfold M_units_0
  rw [ap_lc1]
  have z:mRange1 (mVar 0) [.d (.int (n:Int)),.d B,.d C,.d (.list (a.map .int)),.d (.list (b.map .int)),.un] t = .ok (rangeD 0 n) t:=range_ok rfl (by omega)
  rw [z,lc_go,lc_ok (p:=fun _=>true) (f:=uF a b)]
  · rw [List.nil_append,rng_r',List.filter_eq_self.mpr (fun _ _=>rfl),List.map_map,← rng_zip ha hb]
    rfl
  · rw [List.length_nil,rangeD_len]; omega
  · intro x hx
    rw [rng_r'] at hx
    obtain ⟨i,hi,rfl⟩:=List.mem_map.mp hx
    obtain ⟨hi0,hi1⟩:=List.mem_range'_1.mp hi
    refine ⟨[.d (.int (n:Int)),.d B,.d C,.d (.list (a.map .int)),.d (.list (b.map .int)),.d (.int (i:Int))],rfl,rfl,fun _=>?_⟩
    have x1:=ix_rowL (row:=a) (i:=i) (by omega)
    have x2:=ix_rowL (row:=b) (i:=i) (by omega)
    show (mCallB (f1 gAbs) (mCons (mBin fSub (mBin fIx (mVar 3) (mVar 5)) (mBin fIx (mVar 4) (mVar 5))) (mNil)) _ t).fz = .ok (.d (.int (if a.getD i 0 - b.getD i 0 < 0 then -(a.getD i 0 - b.getD i 0) else a.getD i 0 - b.getD i 0))) t
    simp! [x1,x2]
    rfl
def zF:D → D
  | .tuple [.int a,.int b]=>.int (absd a b)
  | d=>d
theorem zF_map:∀ (a b:List Int),(zipD (a.map .int) (b.map .int)).map zF = (List.zipWith absd a b).map .int
  | [],b=>by cases b <;> rfl
  | _ :: _,[]=>rfl
  | x :: a,y :: b=>by
    show zF (.tuple [.int x,.int y]) :: (zipD (a.map .int) (b.map .int)).map zF = _
    rw [zF_map a b]
    rfl
theorem divO (i:Int):divOk i 2 = true:=rfl
end
def ksI (n:Nat):List Int:=(List.range n).map fun i:Nat=>(i:Int)
def nmK (n:Nat) (row:List Int):List Nat:=(srtKN row (ksI n)).map Int.toNat
theorem key_le (row:List Int) (a b:Int):PySem.W.dataLe false (keyKN row) a b = decide (-(row.getD a.toNat 0) < -(row.getD b.toNat 0) ∨ (-(row.getD a.toNat 0) = -(row.getD b.toNat 0) ∧ a ≤ b)):=by
  have e:=congrFun (congrFun (PySem.W.dataLe_ii (β:=Int) (fun k=>-(row.getD k.toNat 0)) (fun k=>k)) a) b
  exact e
theorem nmK_perm (n:Nat) (row:List Int):(nmK n row).Perm (List.range n):=by
  have h:(srtKN row (ksI n)).Perm (ksI n):=List.mergeSort_perm _ _
  have h2:=h.map Int.toNat
  have e:(ksI n).map Int.toNat = List.range n:=by
    unfold ksI
    rw [List.map_map]
    have:(Int.toNat ∘ fun i:Nat=>(i:Int)) = id:=by funext i; exact Int.toNat_natCast i
    rw [this,List.map_id]
  rw [e] at h2
  exact h2
theorem nm_ok {n:Nat} {nm:List Nat} (h:nm.Perm (List.range n)):NmK n nm:=by
  have len:nm.length = n:=by rw [h.length_eq,List.length_range]
  have nd:nm.Nodup:=h.nodup_iff.mpr List.nodup_range
  have gd:∀ k (hk:k < n),nm.getD k 0 = nm[k]'(by omega):=fun k hk=>by
    rw [List.getD_eq_getElem?_getD,List.getElem?_eq_getElem (by omega:k < nm.length)]
    rfl
  refine ⟨len,fun k hk=>?_,fun j k hj hk e=>?_⟩
  · rw [gd k hk]
    exact List.mem_range.mp (h.mem_iff.mp (List.getElem_mem _))
  · rw [gd j hj,gd k hk] at e
    have pw:=List.pairwise_iff_getElem.mp nd
    rcases Nat.lt_trichotomy j k with z | z | z
    · exact absurd e (pw j k (by omega) (by omega) z)
    · exact z
    · exact absurd e.symm (pw k j (by omega) (by omega) z)
theorem nm_sur {n:Nat} {nm:List Nat} (h:nm.Perm (List.range n)) {i:Nat} (hi:i < n):∃ k,k < n ∧ nm.getD k 0 = i:=by
  have len:nm.length = n:=by rw [h.length_eq,List.length_range]
  obtain ⟨k,hk,e⟩:=List.mem_iff_getElem.mp (h.mem_iff.mpr (List.mem_range.mpr hi))
  refine ⟨k,by omega,?_⟩
  rw [List.getD_eq_getElem?_getD,List.getElem?_eq_getElem hk]
  exact e
theorem rng_row {row:List Int} {n:Nat} (hr:row.length = n):(List.range n).map (fun i=>row.getD i 0) = row:=by
  apply List.ext_getElem
  · rw [List.length_map,List.length_range,hr]
  · intro i h1 h2
    rw [List.getElem_map,List.getElem_range,getD_ge h2]
theorem nm_row {n:Nat} {nm:List Nat} (h:nm.Perm (List.range n)) {row:List Int} (hr:row.length = n):(nm.map fun i=>row.getD i 0).Perm row:=by
  have h2:=h.map fun i=>row.getD i 0
  rwa [rng_row hr] at h2
theorem map_get {nm:List Nat} {f:Nat → Int} {k:Nat} (hk:k < nm.length):(nm.map f).getD k 0 = f (nm.getD k 0):=by
  rw [List.getD_eq_getElem?_getD,List.getElem?_map,List.getD_eq_getElem?_getD,List.getElem?_eq_getElem hk]
  rfl
theorem nmK_lnk {n:Nat} {row:List Int} (hr:row.length = n):Lnk n (nmK n row) row (fal row):=by
  have hp:=nmK_perm n row
  have len:(nmK n row).length = n:=by rw [hp.length_eq,List.length_range]
  have pw:((nmK n row).map fun i=>row.getD i 0).Pairwise (fun a b=>b ≤ a):=by
    unfold nmK
    rw [List.map_map,List.pairwise_map]
    have h2:(srtKN row (ksI n)).Pairwise (fun a b=>PySem.W.dataLe false (keyKN row) a b = true):=PySem.W.sort_pairwise (PySem.W.sortLe_total _ _ _) _
    refine h2.imp fun {a b} h=>?_
    rw [key_le,decide_eq_true_eq] at h
    show row.getD b.toNat 0 ≤ row.getD a.toNat 0
    omega
  have e:=pw_same ((nm_row hp hr).trans (fal_perm row).symm) pw (fal_pw row)
  intro k hk
  rw [← e,map_get (by omega)]
theorem lnk_perm {n:Nat} {nm:List Nat} (h:nm.Perm (List.range n)) {row aim:List Int} (hr:row.length = n) (ha:aim.length = n) (l:Lnk n nm row aim):row.Perm aim:=by
  have len:nm.length = n:=by rw [h.length_eq,List.length_range]
  have e:nm.map (fun i=>row.getD i 0) = aim:=row_ext (by rw [List.length_map,len,ha]) fun k hk=>by
    rw [List.length_map] at hk
    rw [map_get hk,l k (by omega)]
  have:=nm_row h hr
  rw [e] at this
  exact this.symm
theorem lnk_same {n:Nat} {nm:List Nat} (h:nm.Perm (List.range n)) {a b aim:List Int} (ha:a.length = n) (hb:b.length = n) (la:Lnk n nm a aim) (lb:Lnk n nm b aim):a = b:=
  row_ext (by omega) fun i hi=>by
    obtain ⟨k,hk,e⟩:=nm_sur h (i:=i) (by omega)
    have x:=la k hk
    have y:=lb k hk
    rw [e] at x y
    omega
section
variable {t:Option DS} {n:Nat}
theorem nmD_K {n:Nat} {row:List Int}:(srtKN row (ksI n)).map PyData.int = nmD (nmK n row):=by
  unfold nmD nmK
  rw [List.map_map]
  refine List.map_congr_left fun k hk=>?_
  have h:(srtKN row (ksI n)).Perm (ksI n):=List.mergeSort_perm _ _
  obtain ⟨i,_,rfl⟩:=List.mem_map.mp (h.mem_iff.mp hk)
  show PyData.int (i:Int) = .int (((i:Int).toNat:Nat):Int)
  rw [Int.toNat_natCast]
theorem e_sortKN {G:Gm} {s:List Int} (hn:n ≤ 1000) (hs:s.length = n) (h1:G[1]? = some (.d (.tuple (s.map .int)))) (h0:G[0]? = some (.d (.int (n:Int)))):mSortKN 1 (mListR1 (mVar 0)) G t = .ok (.l (nmD (nmK n s))) t:=by
  have z:mListR1 (mVar 0) G t = .ok (.l ((ksI n).map .int)) t:=by
    rw [ap_listR,var_d h0,lr_ok,if_pos]
    · rw [Int.toNat_natCast,rng_r']
      unfold ksI
      rw [List.map_map,List.range_eq_range']
      rfl
    · unfold lrOk
      rw [Bool.and_eq_true,decide_eq_true_eq]
      exact ⟨rng_nat _ (by omega),by omega⟩
  have c:(ksI n).length ≤ 16777216 ∧ s.length ≤ 16777216 ∧ ((ksI n).all fun k=>decide (0 ≤ k) && decide (k < (s.length:Int))) = true:=by
    refine ⟨by unfold ksI; rw [List.length_map,List.length_range]; omega,by omega,?_⟩
    rw [List.all_eq_true]
    intro k hk
    obtain ⟨i,hi,rfl⟩:=List.mem_map.mp hk
    have:=List.mem_range.mp hi
    rw [Bool.and_eq_true,decide_eq_true_eq,decide_eq_true_eq]
    omega
  unfold mSortKN
  rw [h1]
  simp only [dI_map,z,Rs.fz,Rv.fz,Rs.bind,Rv.items,Option.bind_some]
  rw [if_pos c,nmD_K]
abbrev gWy (N S Gl:D) (nm:List Nat) (aim row:List Int) (a6:Sl):Gm:=[.d N,.d S,.d Gl,.l (nmD nm),.d (.list (aim.map .int)),.l (row.map .int),a6]
theorem ix_nmB {nm:List Nat} {k:Nat} (h:k < nm.length):fIx (.b (nmD nm)) (.d (.int (k:Int))) = some (.d (.int ((nm.getD k 0:Nat):Int))):=by
  rw [ix_b,atI_nat (v:=.int ((nm.getD k 0:Nat):Int))]
  · rfl
  · unfold nmD
    rw [List.getElem?_map,List.getElem?_eq_getElem h,List.getD_eq_getElem?_getD,List.getElem?_eq_getElem h]
    rfl
theorem wy_loop {N S Gl:D} {nm:List Nat} {aim:List Int} (hN:NmK n nm) (ha:aim.length = n):∀ (m k:Nat) (row:List Int) (a6:Sl),k + m = n → row.length = n → (∀ j,j < k → row.getD (nm.getD j 0) 0 = aim.getD j 0) →
    ∃ (r:List Int) (b6:Sl),loop (.nm 6) L_way_to_0 ((List.range' k m).map fun i:Nat=>PyData.int (i:Int)) (gWy N S Gl nm aim row a6) t = .nx (gWy N S Gl nm aim r b6) t ∧ r.length = n ∧ Lnk n nm r aim
  | 0,k,row,a6,hk,hr,h=>⟨row,a6,rfl,hr,fun j hj=>h j (by omega)⟩
  | m + 1,k,row,a6,hk,hr,h=>by
    have hlt:=hN.lt k (by omega)
    have x1:=ix_nmB (nm:=nm) (k:=k) (by rw [hN.len]; omega)
    have x2:=ix_rowL (row:=aim) (i:=k) (by omega)
    obtain ⟨r,b6,e1,e2,e3⟩:=wy_loop (N:=N) (S:=S) (Gl:=Gl) hN ha m (k + 1) (row.set (nm.getD k 0) (aim.getD k 0)) (.d (.int (k:Int))) (by omega) (by rw [List.length_set]; exact hr) (fun j hj=>by
      by_cases q:j = k
      · subst q
        exact getD_set_eq (by omega)
      · rw [getD_set_ne (fun z=>q (hN.inj j k (by omega) (by omega) z.symm))]
        exact h j (by omega))
    refine ⟨r,b6,?_,e2,e3⟩
    rw [List.range'_succ,List.map_cons]
    refine (loop_nx (G1:=gWy N S Gl nm aim row (.d (.int (k:Int)))) rfl ?_).trans e1
    unfold L_way_to_0
    rw [seq_nx (t:=t) (put_row (t:=t) (row:=row) (i:=nm.getD k 0) (x:=aim.getD k 0) (by simp! [x2]) (by rfl) (by simp! [x1]) (by omega))]
    rfl
theorem canAll_two:∀ (ds es:List Dd) (row:List Int),canAll row ds → canAll (ds.foldl rbI row) es → canAll row (ds ++ es)
  | [],_,_,_,h=>h
  | d :: ds,es,row,h,g=>⟨h.1,canAll_two ds es (rbI row d) h.2 g⟩
/-- what a way from s to g is -/
structure WayS (n:Nat) (s g:List Int) (ds es:List Dd):Prop where
  tr:∀ d ∈ ds,d.1 = true ∧ dOk n d
  ex:∀ d ∈ es,d.1 = false ∧ dOk n d
  len:(ds.length:Int) = pos (df (fal s) (fal g)) n
  le:es.length ≤ n - 1
  can:canAll s (ds ++ es)
  to:(ds ++ es).foldl rbI s = g
theorem e_wayto (hn:n = 2 ∨ n = 3 ∨ n = 4 ∨ n = 5) {s g:List Int} (hs:s.length = n) (hg:g.length = n) (s0:∀ x ∈ s,0 ≤ x ∧ x ≤ 24) (g0:∀ x ∈ g,0 ≤ x ∧ x ≤ 24) :
    (evB g s = false → f_way_to [.d (.int (n:Int)),.d (tupI s),.d (tupI g)] t = .ok (.d .none) t) ∧
    (evB g s = true → ∃ ds es,WayS n s g ds es ∧ f_way_to [.d (.int (n:Int)),.d (tupI s),.d (tupI g)] t = .ok (.d (.tuple ((ds ++ es).map ddD))) t):=by
  have e1:f_need_many [.d (.int (n:Int))] t = .ok (.d (.int (n:Int))) t:=e_many (n:Int) (by omega) t
  have e2:=e_need_row hn (t:=t) hs s0
  have e3:=e_need_row hn (t:=t) hg g0
  have e4:=e_goes (t:=t) (g:=g) (s:=s) (by omega) (by omega)
  have e5:=e_falling (t:=t) (row:=g) (by omega)
  have e6:=e_falling (t:=t) (row:=s) (by omega)
  refine ⟨fun h=>?_,fun h=>?_⟩
  · rw [h] at e4
    rw [u_way_to]
    generalize tupI s = S at e2 e4 ⊢
    generalize tupI g = Gl at e3 e4 ⊢
    refine run_rt (G:=[.d (.int (n:Int)),.d S,.d Gl]) rfl ?_
    show m_way_to [.d (.int (n:Int)),.d S,.d Gl,.un,.un,.un,.un] t = _
    simp! [m_way_to,e1,e2,e3,e4]
  · rw [h] at e4
    have hp:=nmK_perm n s
    have hN:=nm_ok hp
    have hL:=nmK_lnk hs
    have hB:=bal_ev hg hs h
    have g5:n ≤ 5:=by omega
    have k1:∀ x ∈ fal g,0 ≤ x:=fun x hx=>(g0 x ((fal_perm g).mem_iff.mp hx)).1
    have k2:∀ x ∈ fal s,0 ≤ x ∧ x ≤ 24:=fun x hx=>s0 x ((fal_perm s).mem_iff.mp hx)
    obtain ⟨ds,v1,v2,v3,v4,v5⟩:=e_evening (t:=t) g5 (by rw [fal_len]; exact hg) (fal_pw g) k1 hN (now:=fal s) (cur:=s) (by rw [fal_len]; exact hs) k2 hs hL hB
    obtain ⟨r,b6,w1,w2,w3⟩:=wy_loop (t:=t) (N:=.int (n:Int)) (S:=tupI s) (Gl:=tupI g) (nm:=nmK n s) (aim:=fal g) hN (by rw [fal_len]; exact hg) n 0 (List.replicate n 0) .un (by omega) (by rw [List.length_replicate]) (fun j hj=>absurd hj (Nat.not_lt_zero _))
    have er:ds.foldl rbI s = r:=lnk_same hp (fold_len n ds s hs) w2 v5 w3
    have rp:r.Perm g:=(lnk_perm hp w2 (by rw [fal_len]; exact hg) w3).trans (fal_perm g)
    obtain ⟨es,x1,x2,x3,x4⟩:=e_sorting (t:=t) g5 hg rp
    refine ⟨ds,es,⟨v3,x3,v2,x2,canAll_two ds es s v4 (canAll_ex es _ fun d hd=>(x3 d hd).1),by rw [List.foldl_append,er,x4]⟩,?_⟩
    rw [← rng_r'] at w1
    have ks:=e_sortKN (t:=t) (n:=n) (G:=[.d (.int (n:Int)),.d (tupI s),.d (tupI g),.un,.un,.un,.un]) (by omega) hs rfl rfl
    have r1:rngOk (n:Int) = true:=rng_nat _ (by omega)
    have rp0:mRep (mLst (mCons (mC (.int 0)) (mNil))) (mVar 0) [.d (.int (n:Int)),.d (tupI s),.d (tupI g),.l (nmD (nmK n s)),.d (.list ((fal g).map .int)),.un,.un] t = .ok (.l ((List.replicate n (0:Int)).map .int)) t:=by
      rcases hn with rfl | rfl | rfl | rfl <;> rfl
    have al:ds.length + es.length ≤ 1000:=by
      have:=pos_sum (f:=df (fal s) (fal g)) (g:=fun k=>(fal s).getD k 0) n fun k hk=>by
        have a:0 ≤ (fal g).getD k 0:=by rw [getD_ge (by rw [fal_len]; omega)]; exact k1 _ (List.getElem_mem _)
        have b:0 ≤ (fal s).getD k 0:=by rw [getD_ge (by rw [fal_len]; omega)]; exact (k2 _ (List.getElem_mem _)).1
        exact ⟨by show (fal s).getD k 0 - (fal g).getD k 0 ≤ (fal s).getD k 0; omega,b⟩
      have c:∀ k,k ≤ n → ps (fun k=>(fal s).getD k 0) k ≤ 24 * (k:Int):=fun k=>by
        induction k with
        | zero=>intro _; exact Int.le_refl _
        | succ k ih =>
          intro hk
          have b:(fal s).getD k 0 ≤ 24:=by rw [getD_ge (by rw [fal_len]; omega)]; exact (k2 _ (List.getElem_mem _)).2
          have:=ih (by omega)
          show ps _ k + (fal s).getD k 0 ≤ _
          omega
      have:=c n (Nat.le_refl _)
      omega
    have ad:fAdd (.d (.list (ds.map ddD))) (.d (.list (es.map ddD))) = some (.l ((ds ++ es).map ddD)):=by
      rw [List.map_append]
      rw [add_ll,if_pos (by rw [List.length_map,List.length_map]; omega)]
    rw [u_way_to]
    generalize hS:tupI s = S at e2 e4 e6 ks w1 rp0 ⊢
    generalize hG:tupI g = Gl at e3 e4 e5 x1 ks w1 rp0 ⊢
    refine run_rt (G:=[.d (.int (n:Int)),.d S,.d Gl]) rfl ?_
    show m_way_to [.d (.int (n:Int)),.d S,.d Gl,.un,.un,.un,.un] t = _
    unfold m_way_to
    rw [seq_nx (t:=t) (G1:=[.d (.int (n:Int)),.d S,.d Gl,.un,.un,.un,.un]) (t1:=t) (by simp! [e1])]
    rw [seq_nx (t:=t) (G1:=[.d (.int (n:Int)),.d S,.d Gl,.un,.un,.un,.un]) (t1:=t) (by simp! [e2])]
    rw [seq_nx (t:=t) (G1:=[.d (.int (n:Int)),.d S,.d Gl,.un,.un,.un,.un]) (t1:=t) (by simp! [e3])]
    rw [sif_no (t:=t) (t1:=t) (by simp! [e4])]
    rw [seq_nx (t:=t) (set_lX ks (by simp))]
    show sSeq _ _ [.d (.int (n:Int)),.d S,.d Gl,.l (nmD (nmK n s)),.un,.un,.un] t = _
    rw [seq_nx (t:=t) (G1:=[.d (.int (n:Int)),.d S,.d Gl,.l (nmD (nmK n s)),.d (.list ((fal g).map .int)),.un,.un]) (t1:=t) (by simp! [e5])]
    rw [seq_nx (t:=t) (set_lX rp0 (by simp))]
    show sSeq _ _ (gWy (.int (n:Int)) S Gl (nmK n s) (fal g) (List.replicate n 0) .un) t = _
    rw [seq_nx (t:=t) (for_nx (range_ok rfl (by omega)) w1)]
    simp! [e6,v1,x1,ad]
end
section
variable {n:Nat} {t:Option DS}
theorem in_t:fIn (.d (.str "transfer")) (.d (.tuple [.str "transfer",.str "exchange"])) = some (.d (.bool true)):=by kernel_rfl
theorem in_e:fIn (.d (.str "exchange")) (.d (.tuple [.str "transfer",.str "exchange"])) = some (.d (.bool true)):=by kernel_rfl
theorem in_s:fIn (.d (.str "swap")) (.d (.tuple [.str "transfer",.str "exchange"])) = some (.d (.bool false)):=by kernel_rfl
theorem nin_s:fNotIn (.d (.str "swap")) (.d (.tuple [.str "transfer",.str "exchange"])) = some (.d (.bool true)):=by kernel_rfl
theorem sl3 {w x y:D}:fSl (.d (.tuple [w,x,y])) (some 1) none = some (.d (.tuple [x,y])):=rfl
theorem chD {T:D} {i:Int}:mChain (fCm iLe) (fCm iLt) (mC (.int 0)) (mVar 2) (mVar 0) [.d (.int (n:Int)),.d T,.d (.int i)] t = .ok (.d (.bool (decide (0 ≤ i) && decide (i < (n:Int))))) t:=ch_lt rfl rfl rfl
theorem ld_one {T:D} {i:Nat} (h:i < n):L__law_is_deed_0 [.d (.int (n:Int)),.d T,.d (.int (i:Int))] t = .nx [.d (.int (n:Int)),.d T,.d (.int (i:Int))] t:=by
  have c:=chD (n:=n) (t:=t) (T:=T) (i:=(i:Int))
  rw [decide_eq_true (by omega:(0:Int) ≤ (i:Int)),decide_eq_true (by omega:(i:Int) < (n:Int))] at c
  simp! [L__law_is_deed_0,c]
theorem ld_two {T:D} {i j:Nat} (hi:i < n) (hj:j < n):loop (.nm 2) L__law_is_deed_0 [.int (i:Int),.int (j:Int)] [.d (.int (n:Int)),.d T,.un] t = .nx [.d (.int (n:Int)),.d T,.d (.int (j:Int))] t:=
  (loop_nx rfl (ld_one hi)).trans ((loop_nx rfl (ld_one hj)).trans rfl)
theorem e_ldeed {d:Dd} (h:dOk n d):f__law_is_deed [.d (.int (n:Int)),.d (ddD d)] t = .ok (.d (.bool true)) t:=by
  obtain ⟨b,i,j⟩:=d
  obtain ⟨hi,hj,ne⟩:=h
  have hi:i < n:=hi
  have hj:j < n:=hj
  have ne:i ≠ j:=ne
  have n1:fNe (.d (.int (i:Int))) (.d (.int (j:Int))) = some (.d (.bool true)):=by rw [ne_i,decide_eq_false (by omega:¬ (i:Int) = (j:Int))]; rfl
  have s1:=in_t
  have s2:=in_e
  have d3:decide (((3:Nat):Int) = 3) = true:=by decide
  rw [u__law_is_deed]
  cases b with
  | true =>
    have l:=ld_two (t:=t) (T:=.tuple [.str "transfer",.int (i:Int),.int (j:Int)]) hi hj
    show runM m__law_is_deed 3 [.d (.int (n:Int)),.d (.tuple [.str "transfer",.int (i:Int),.int (j:Int)])] t = _
    simp! [m__law_is_deed,d3,sl3,l,s1,s2,n1]
  | false =>
    have l:=ld_two (t:=t) (T:=.tuple [.str "exchange",.int (i:Int),.int (j:Int)]) hi hj
    show runM m__law_is_deed 3 [.d (.int (n:Int)),.d (.tuple [.str "exchange",.int (i:Int),.int (j:Int)])] t = _
    simp! [m__law_is_deed,d3,sl3,l,s1,s2,n1]
def oddK (n:Nat):List D:=[.none,.tuple [.str "transfer",.int 0],.list [.str "transfer",.int 0,.int 1],.tuple [.str "exchange",.int (n:Int),.int 0],.tuple [.str "swap",.int 0,.int 1]]
theorem oddK_no (hn:2 ≤ n):∀ x ∈ oddK n,f_is_deed [.d (.int (n:Int)),.d x] t = .ok (.d (.bool false)) t ∧ f__law_is_deed [.d (.int (n:Int)),.d x] t = .ok (.d (.bool false)) t:=fun x hx=>by
  have d3:decide (((3:Nat):Int) = 3) = true:=by decide
  have d2:decide (((2:Nat):Int) = 3) = false:=by decide
  have s1:=nin_s
  have s2:=in_s
  have s3:=ni_e
  have en:=e_name (n:=n) (t:=t) (i:=(n:Int))
  rw [decide_eq_true (by omega:(0:Int) ≤ (n:Int)),decide_eq_false (by omega:¬ (n:Int) < (n:Int))] at en
  rw [u_is_deed,u__law_is_deed]
  unfold oddK at hx
  rcases List.mem_cons.mp hx with rfl | hx
  · refine ⟨?_,?_⟩
    · simp! [m_is_deed]
    · simp! [m__law_is_deed]
  rcases List.mem_cons.mp hx with rfl | hx
  · refine ⟨?_,?_⟩
    · simp! [m_is_deed,d2]
    · simp! [m__law_is_deed,d2]
  rcases List.mem_cons.mp hx with rfl | hx
  · refine ⟨?_,?_⟩
    · simp! [m_is_deed]
    · simp! [m__law_is_deed]
  rcases List.mem_cons.mp hx with rfl | hx
  · refine ⟨?_,?_⟩
    · simp! [m_is_deed,d3,s3,en]
    · have c:=chD (n:=n) (t:=t) (T:=.tuple [.str "exchange",.int (n:Int),.int 0]) (i:=(n:Int))
      rw [decide_eq_true (by omega:(0:Int) ≤ (n:Int)),decide_eq_false (by omega:¬ (n:Int) < (n:Int))] at c
      have l:loop (.nm 2) L__law_is_deed_0 [.int (n:Int),.int 0] [.d (.int (n:Int)),.d (.tuple [.str "exchange",.int (n:Int),.int 0]),.un] t = .rt (.bool false) t:=
        loop_rt' (G1:=[.d (.int (n:Int)),.d (.tuple [.str "exchange",.int (n:Int),.int 0]),.d (.int (n:Int))]) rfl (by simp! [L__law_is_deed_0,c])
      simp! [m__law_is_deed,d3,sl3,l]
  rw [List.mem_singleton.mp hx]
  refine ⟨?_,?_⟩
  · simp! [m_is_deed,d3,s1]
  · have l:=ld_two (n:=n) (t:=t) (T:=.tuple [.str "swap",.int 0,.int 1]) (i:=0) (j:=1) (by omega) (by omega)
    have l:loop (.nm 2) L__law_is_deed_0 [.int 0,.int 1] [.d (.int (n:Int)),.d (.tuple [.str "swap",.int 0,.int 1]),.un] t = .nx [.d (.int (n:Int)),.d (.tuple [.str "swap",.int 0,.int 1]),.d (.int 1)] t:=l
    simp! [m__law_is_deed,d3,sl3,l,s2]
abbrev gWe (n:Nat) (R W:D) (a3 a4 a5:Sl):Gm:=[.d (.int (n:Int)),.d R,.d W,a3,a4,a5]
theorem we_ok {R W:D} {a5:Sl} (rest:List D):∀ (ds:List Dd) (k:Nat) (a3 a4:Sl),(∀ d ∈ ds,dOk n d) → ∃ b3 b4,loop (.tup [3,4]) L__law_way_error_1 (enumD k (ds.map ddD ++ rest)) (gWe n R W a3 a4 a5) t = loop (.tup [3,4]) L__law_way_error_1 (enumD (k + ds.length) rest) (gWe n R W b3 b4 a5) t
  | [],k,a3,a4,_=>⟨a3,a4,rfl⟩
  | d :: ds,k,a3,a4,h=>by
    obtain ⟨b3,b4,e⟩:=we_ok (R:=R) (W:=W) (a5:=a5) rest ds (k + 1) (.d (.int (k:Int))) (.d (ddD d)) fun y hy=>h y (List.mem_cons_of_mem _ hy)
    have l:=e_ldeed (t:=t) (h d List.mem_cons_self)
    refine ⟨b3,b4,?_⟩
    rw [List.length_cons,show k + (ds.length + 1) = k + 1 + ds.length by omega,← e]
    show loop (.tup [3,4]) L__law_way_error_1 (.tuple [.int (k:Int),ddD d] :: enumD (k + 1) (ds.map ddD ++ rest)) _ t = _
    refine loop_nx (G1:=gWe n R W (.d (.int (k:Int))) (.d (ddD d)) a5) rfl ?_
    generalize ddD d = Y at l
    simp! [L__law_way_error_1,l]
theorem we_odd {R W x:D} {rest:List D} {k:Nat} {a3 a4 a5:Sl} (h:f__law_is_deed [.d (.int (n:Int)),.d x] t = .ok (.d (.bool false)) t):loop (.tup [3,4]) L__law_way_error_1 (enumD k (x :: rest)) (gWe n R W a3 a4 a5) t = .rt (.tuple [.str "way",.int (k:Int)]) t:=by
  show loop (.tup [3,4]) L__law_way_error_1 (.tuple [.int (k:Int),x] :: enumD (k + 1) rest) _ t = _
  refine loop_rt' (G1:=gWe n R W (.d (.int (k:Int))) (.d x) a5) rfl ?_
  simp! [L__law_way_error_1,h]
theorem ws_one {R W:D} {row:List Int} {d:Dd} {a3:Sl} (hr:row.length = n) (h:dOk n d):(canD row d → L__law_way_error_0 (gWe n R W a3 (.d (ddD d)) (.d (tupI row))) t = .nx (gWe n R W a3 (.d (ddD d)) (.d (tupI (rbI row d)))) t) ∧ (¬ canD row d → ∀ k:Int,a3 = .d (.int k) → L__law_way_error_0 (gWe n R W a3 (.d (ddD d)) (.d (tupI row))) t = .rt (.tuple [.str "step",.int k]) t):=by
  obtain ⟨b,i,j⟩:=d
  have hi:i < row.length:=by rw [hr]; exact h.1
  have hj:j < row.length:=by rw [hr]; exact h.2.1
  have x1:=ix_rowT hi
  have x2:=ix_rowT hj
  have rb:=e_lrb (t:=t) (row:=row) (d:=(b,i,j)) (by rw [hr]; exact h)
  cases b with
  | true =>
    refine ⟨fun c=>?_,fun c k hk=>?_⟩
    · have c:row.getD j 0 < row.getD i 0:=c rfl
      have c':¬ row.getD i 0 ≤ row.getD j 0:=by omega
      have rb:f__law_row_behind [.d (tupI row),.d (.tuple [.str "transfer",.int (i:Int),.int (j:Int)])] t = .ok (.d (tupI (rbI row (true,i,j)))) t:=rb
      generalize rbI row (true,i,j) = row2 at rb ⊢
      show L__law_way_error_0 (gWe n R W a3 (.d (.tuple [.str "transfer",.int (i:Int),.int (j:Int)])) (.d (tupI row))) t = .nx (gWe n R W a3 (.d (.tuple [.str "transfer",.int (i:Int),.int (j:Int)])) (.d (tupI row2))) t
      unfold tupI at rb ⊢
      simp! [L__law_way_error_0,x1,x2,c',rb]
    · subst hk
      have c':row.getD i 0 ≤ row.getD j 0:=by
        rcases Int.lt_or_le (row.getD j 0) (row.getD i 0) with z | z
        · exact absurd (fun _=>z) c
        · exact z
      show L__law_way_error_0 (gWe n R W (.d (.int k)) (.d (.tuple [.str "transfer",.int (i:Int),.int (j:Int)])) (.d (tupI row))) t = _
      unfold tupI
      simp! [L__law_way_error_0,x1,x2,c']
  | false =>
    refine ⟨fun _=>?_,fun c=>absurd (fun z=>by cases z) c⟩
    have rb:f__law_row_behind [.d (tupI row),.d (.tuple [.str "exchange",.int (i:Int),.int (j:Int)])] t = .ok (.d (tupI (rbI row (false,i,j)))) t:=rb
    generalize rbI row (false,i,j) = row2 at rb ⊢
    show L__law_way_error_0 (gWe n R W a3 (.d (.tuple [.str "exchange",.int (i:Int),.int (j:Int)])) (.d (tupI row))) t = .nx (gWe n R W a3 (.d (.tuple [.str "exchange",.int (i:Int),.int (j:Int)])) (.d (tupI row2))) t
    unfold tupI at rb ⊢
    simp! [L__law_way_error_0,x1,x2,rb]
theorem ws_ok {R W:D} (rest:List D):∀ (ds:List Dd) (k:Nat) (row:List Int) (a3 a4:Sl),row.length = n → (∀ d ∈ ds,dOk n d) → canAll row ds → ∃ b3 b4,loop (.tup [3,4]) L__law_way_error_0 (enumD k (ds.map ddD ++ rest)) (gWe n R W a3 a4 (.d (tupI row))) t = loop (.tup [3,4]) L__law_way_error_0 (enumD (k + ds.length) rest) (gWe n R W b3 b4 (.d (tupI (ds.foldl rbI row)))) t
  | [],k,row,a3,a4,_,_,_=>⟨a3,a4,rfl⟩
  | d :: ds,k,row,a3,a4,hr,h,hc=>by
    obtain ⟨b3,b4,e⟩:=ws_ok (R:=R) (W:=W) rest ds (k + 1) (rbI row d) (.d (.int (k:Int))) (.d (ddD d)) (by rw [rbI_len]; exact hr) (fun y hy=>h y (List.mem_cons_of_mem _ hy)) hc.2
    have l:=(ws_one (t:=t) (R:=R) (W:=W) (a3:=.d (.int (k:Int))) hr (h d List.mem_cons_self)).1 hc.1
    refine ⟨b3,b4,?_⟩
    rw [List.length_cons,show k + (ds.length + 1) = k + 1 + ds.length by omega]
    refine Eq.trans ?_ e
    show loop (.tup [3,4]) L__law_way_error_0 (.tuple [.int (k:Int),ddD d] :: enumD (k + 1) (ds.map ddD ++ rest)) _ t = _
    exact loop_nx (G1:=gWe n R W (.d (.int (k:Int))) (.d (ddD d)) (.d (tupI row))) rfl l
theorem lwe_T {R x:D} (h:isT "tuple" x = false):f__law_way_error [.d (.int (n:Int)),.d R,.d x] t = .ok (.d (.tuple [.str "way",.int 0])) t:=by
  rw [u__law_way_error]
  simp! [m__law_way_error,h]
theorem lwe_odd {R x:D} {ds:List Dd} {rest:List D} (hd:∀ d ∈ ds,dOk n d) (hx:f__law_is_deed [.d (.int (n:Int)),.d x] t = .ok (.d (.bool false)) t) (hl:ds.length + 1 + rest.length ≤ 60):f__law_way_error [.d (.int (n:Int)),.d R,.d (.tuple (ds.map ddD ++ x :: rest))] t = .ok (.d (.tuple [.str "way",.int (ds.length:Int)])) t:=by
  obtain ⟨b3,b4,e⟩:=we_ok (n:=n) (t:=t) (R:=R) (W:=.tuple (ds.map ddD ++ x :: rest)) (a5:=.un) (x :: rest) ds 0 .un .un hd
  rw [we_odd hx,Nat.zero_add] at e
  have l60:¬ (60:Int) < (((ds.map ddD ++ x :: rest).length:Nat):Int):=by rw [List.length_append,List.length_map,List.length_cons]; omega
  rw [u__law_way_error]
  generalize ds.map ddD ++ x :: rest = W at e l60 ⊢
  refine run_rt (G:=[.d (.int (n:Int)),.d R,.d (.tuple W)]) rfl ?_
  show m__law_way_error [.d (.int (n:Int)),.d R,.d (.tuple W),.un,.un,.un] t = _
  simp! [m__law_way_error,l60,e]
theorem lwe_ok {row:List Int} {ds:List Dd} (hr:row.length = n) (hd:∀ d ∈ ds,dOk n d) (hc:canAll row ds) (hl:ds.length ≤ 60):f__law_way_error [.d (.int (n:Int)),.d (tupI row),.d (.tuple (ds.map ddD))] t = .ok (.d .none) t:=by
  obtain ⟨b3,b4,e⟩:=we_ok (n:=n) (t:=t) (R:=tupI row) (W:=.tuple (ds.map ddD)) (a5:=.un) [] ds 0 .un .un hd
  obtain ⟨c3,c4,e2⟩:=ws_ok (n:=n) (t:=t) (R:=tupI row) (W:=.tuple (ds.map ddD)) [] ds 0 row b3 b4 hr hd hc
  rw [List.append_nil] at e e2
  have e:loop (.tup [3,4]) L__law_way_error_1 (enumD 0 (ds.map ddD)) (gWe n (tupI row) (.tuple (ds.map ddD)) .un .un .un) t = .nx (gWe n (tupI row) (.tuple (ds.map ddD)) b3 b4 .un) t:=e
  have e2:loop (.tup [3,4]) L__law_way_error_0 (enumD 0 (ds.map ddD)) (gWe n (tupI row) (.tuple (ds.map ddD)) b3 b4 (.d (tupI row))) t = .nx (gWe n (tupI row) (.tuple (ds.map ddD)) c3 c4 (.d (tupI (ds.foldl rbI row)))) t:=e2
  have l60:¬ (60:Int) < (((ds.map ddD).length:Nat):Int):=by rw [List.length_map]; omega
  rw [u__law_way_error]
  generalize tupI row = R at e e2 ⊢
  generalize tupI (ds.foldl rbI row) = R2 at e2 ⊢
  generalize ds.map ddD = W at e e2 l60 ⊢
  refine run_rt (G:=[.d (.int (n:Int)),.d R,.d (.tuple W)]) rfl ?_
  show m__law_way_error [.d (.int (n:Int)),.d R,.d (.tuple W),.un,.un,.un] t = _
  simp! [m__law_way_error,l60,e,e2]
theorem lwe_step {row:List Int} {ds:List Dd} {b:Dd} {es:List Dd} (hr:row.length = n) (hd:∀ d ∈ ds,dOk n d) (hb:dOk n b) (he:∀ d ∈ es,dOk n d) (hc:canAll row ds) (hno:¬ canD (ds.foldl rbI row) b) (hl:ds.length + 1 + es.length ≤ 60):f__law_way_error [.d (.int (n:Int)),.d (tupI row),.d (.tuple (ds.map ddD ++ ddD b :: es.map ddD))] t = .ok (.d (.tuple [.str "step",.int (ds.length:Int)])) t:=by
  have eW:ds.map ddD ++ ddD b :: es.map ddD = (ds ++ b :: es).map ddD:=by rw [List.map_append,List.map_cons]
  have hall:∀ d ∈ ds ++ b :: es,dOk n d:=fun d h=>by
    rcases List.mem_append.mp h with h | h
    · exact hd d h
    · rcases List.mem_cons.mp h with rfl | h
      · exact hb
      · exact he d h
  obtain ⟨b3,b4,e⟩:=we_ok (n:=n) (t:=t) (R:=tupI row) (W:=.tuple (ds.map ddD ++ ddD b :: es.map ddD)) (a5:=.un) [] (ds ++ b :: es) 0 .un .un hall
  obtain ⟨c3,c4,e2⟩:=ws_ok (n:=n) (t:=t) (R:=tupI row) (W:=.tuple (ds.map ddD ++ ddD b :: es.map ddD)) (ddD b :: es.map ddD) ds 0 row b3 b4 hr hd hc
  rw [List.append_nil,← eW] at e
  have st:=(ws_one (t:=t) (R:=tupI row) (W:=.tuple (ds.map ddD ++ ddD b :: es.map ddD)) (a3:=.d (.int (ds.length:Int))) (fold_len n ds row hr) hb).2 hno _ rfl
  have e3:loop (.tup [3,4]) L__law_way_error_0 (enumD ds.length (ddD b :: es.map ddD)) (gWe n (tupI row) (.tuple (ds.map ddD ++ ddD b :: es.map ddD)) c3 c4 (.d (tupI (ds.foldl rbI row)))) t = .rt (.tuple [.str "step",.int (ds.length:Int)]) t:=by
    show loop (.tup [3,4]) L__law_way_error_0 (.tuple [.int (ds.length:Int),ddD b] :: enumD (ds.length + 1) (es.map ddD)) _ t = _
    exact loop_rt' (G1:=gWe n (tupI row) (.tuple (ds.map ddD ++ ddD b :: es.map ddD)) (.d (.int (ds.length:Int))) (.d (ddD b)) (.d (tupI (ds.foldl rbI row)))) rfl st
  rw [Nat.zero_add,e3] at e2
  have e:loop (.tup [3,4]) L__law_way_error_1 (enumD 0 (ds.map ddD ++ ddD b :: es.map ddD)) (gWe n (tupI row) (.tuple (ds.map ddD ++ ddD b :: es.map ddD)) .un .un .un) t = .nx (gWe n (tupI row) (.tuple (ds.map ddD ++ ddD b :: es.map ddD)) b3 b4 .un) t:=e
  have l60:¬ (60:Int) < (((ds.map ddD ++ ddD b :: es.map ddD).length:Nat):Int):=by rw [List.length_append,List.length_map,List.length_cons,List.length_map]; omega
  rw [u__law_way_error]
  generalize tupI row = R at e e2 ⊢
  generalize ds.map ddD ++ ddD b :: es.map ddD = W at e e2 l60 ⊢
  refine run_rt (G:=[.d (.int (n:Int)),.d R,.d (.tuple W)]) rfl ?_
  show m__law_way_error [.d (.int (n:Int)),.d R,.d (.tuple W),.un,.un,.un] t = _
  simp! [m__law_way_error,l60,e,e2]
end
theorem hd_rt {th:Th} {t t1:Option DS} {x:D} (h:m__law_heard [.c th,.un] t = .rt x t1):h__law_heard th t = .ok (.d x) t1:=by
  show heardF m__law_heard 2 th t = _
  unfold heardF
  show (match m__law_heard [.c th,.un] t with | .nx _ t=>(Rs.ok (Rv.d .none) t:Rs Rv) | .rt x t=>Rs.ok (Rv.d x) t | .rl x t=>Rs.ok (Rv.l x) t | .ex c fs _ t=>Rs.ex c fs t | _=>Rs.stuck) = _
  rw [h]
section
variable {th:Th} {t t1:Option DS} {p:D}
theorem ht_ok (h:th t = .ok (.d p) t1):h__law_heard th t = .ok (.d (.list [p])) t1:=by
  refine hd_rt ?_
  simp! [m__law_heard,h]
theorem ht_many (h:th t = .ex "BadMany" [("value",p)] t1):h__law_heard th t = .ok (.d (.tuple [.str "many",p])) t1:=by
  refine hd_rt ?_
  simp! [m__law_heard,h]
  rfl
theorem ht_content (h:th t = .ex "BadContent" [("value",p)] t1):h__law_heard th t = .ok (.d (.tuple [.str "content",p])) t1:=by
  refine hd_rt ?_
  simp! [m__law_heard,h]
  rfl
theorem ht_total (h:th t = .ex "BadTotal" [("value",p)] t1):h__law_heard th t = .ok (.d (.tuple [.str "total",p])) t1:=by
  refine hd_rt ?_
  simp! [m__law_heard,h]
  rfl
theorem ht_way (h:th t = .ex "BadWay" [("place",p)] t1):h__law_heard th t = .ok (.d (.tuple [.str "way",p])) t1:=by
  refine hd_rt ?_
  simp! [m__law_heard,h]
  rfl
theorem ht_step (h:th t = .ex "BadStep" [("place",p)] t1):h__law_heard th t = .ok (.d (.tuple [.str "step",p])) t1:=by
  refine hd_rt ?_
  simp! [m__law_heard,h]
  rfl
end
theorem hd_mh {m:EM} {G:Gm} {f:Option DS → Rs Rv} {r:D} {t t1:Option DS} (e:∀ t',m (capG G) t' = f t') (z:h__law_heard f t = .ok (.d r) t1):mHeard h__law_heard m G t = .ok (.d r) t1:=by
  have q:(fun t'=>m (capG G) t') = f:=funext e
  show h__law_heard (fun t'=>m (capG G) t') t = _
  rw [q]
  exact z
def wE (b:Bool):Str:=if b = true then "BadWay" else "BadStep"
def wW (b:Bool):Str:=if b = true then "way" else "step"
/-- a way let, or an error at a place -/
inductive WRes (n:Nat) (row:List Int):D → Prop where
  | ok (ds:List Dd) (hd:∀ d ∈ ds,dOk n d) (hc:canAll row ds) (hl:ds.length ≤ 60):WRes n row (.tuple (ds.map ddD))
  | bad (W:D) (b:Bool) (p:Int) (hp:0 ≤ p ∧ p ≤ 100) (h1:∀ t,f_need_way [.d (.int (n:Int)),.d (tupI row),.d W] t = .ex (wE b) [("place",.int p)] t) (h2:∀ t,f__law_way_error [.d (.int (n:Int)),.d (tupI row),.d W] t = .ok (.d (.tuple [.str (wW b),.int p])) t):WRes n row W
theorem not_all:∀ (ds:List Dd) (row:List Int),¬ canAll row ds → ∃ ds' b es,ds = ds' ++ b :: es ∧ canAll row ds' ∧ ¬ canD (ds'.foldl rbI row) b
  | [],row,h=>absurd trivial h
  | d :: ds,row,h=>by
    by_cases c:canD row d
    · obtain ⟨ds',b,es,e,h1,h2⟩:=not_all ds (rbI row d) fun z=>h ⟨c,z⟩
      exact ⟨d :: ds',b,es,by rw [e]; rfl,⟨c,h1⟩,h2⟩
    · exact ⟨[],d,ds,rfl,trivial,c⟩
section
variable {n:Nat} (hn:n = 2 ∨ n = 3 ∨ n = 4 ∨ n = 5) {row:List Int}
include hn
theorem wr_deeds (hr:row.length = n) {ds:List Dd} (hd:∀ d ∈ ds,dOk n d) (hl:ds.length ≤ 60):WRes n row (.tuple (ds.map ddD)):=by
  rcases Classical.em (canAll row ds) with c | c
  · exact .ok ds hd c hl
  · obtain ⟨ds',b,es,rfl,c1,c2⟩:=not_all ds row c
    have h1:∀ d ∈ ds',dOk n d:=fun d h=>hd d (List.mem_append_left _ h)
    have h2:dOk n b:=hd b (List.mem_append_right _ List.mem_cons_self)
    have h3:∀ d ∈ es,dOk n d:=fun d h=>hd d (List.mem_append_right _ (List.mem_cons_of_mem _ h))
    have hl':ds'.length + 1 + es.length ≤ 60:=by rw [List.length_append,List.length_cons] at hl; omega
    have b1:b.1 = true:=by
      cases e:b.1 with
      | true=>rfl
      | false=>exact absurd (fun z=>by rw [e] at z; cases z) c2
    have le:(ds'.foldl rbI row).getD b.2.1 0 ≤ (ds'.foldl rbI row).getD b.2.2 0:=by
      rcases Int.lt_or_le ((ds'.foldl rbI row).getD b.2.2 0) ((ds'.foldl rbI row).getD b.2.1 0) with z | z
      · exact absurd (fun _=>z) c2
      · exact z
    rw [List.map_append,List.map_cons]
    exact .bad _ false (ds'.length:Int) (by omega) (fun t=>e_wayStep (by omega) hr h1 h2 h3 b1 c1 le hl') (fun t=>lwe_step hr h1 h2 h3 c1 c2 hl')
theorem wr_odd {ds:List Dd} {x:D} {rest:List D} (hd:∀ d ∈ ds,dOk n d) (hx:x ∈ oddK n) (hl:ds.length + 1 + rest.length ≤ 60):WRes n row (.tuple (ds.map ddD ++ x :: rest)):=
  .bad _ true (ds.length:Int) (by omega) (fun t=>e_wayOdd hd (oddK_no (t:=t) (by omega) x hx).1 hl) (fun t=>lwe_odd hd (oddK_no (t:=t) (by omega) x hx).2 hl)
theorem wr_T {x:D} (h:isT "tuple" x = false):WRes n row x:=.bad _ true 0 (by omega) (fun t=>e_wayT h) (fun t=>lwe_T h)
variable {t:Option DS}
theorem last_scn (ds:List Dd):∀ row:List Int,∃ l,(scn row ds).map tupI = l ++ [tupI (ds.foldl rbI row)]:=by
  induction ds with
  | nil=>intro row; exact ⟨[],rfl⟩
  | cons d ds ih =>
    intro row
    obtain ⟨l,e⟩:=ih (rbI row d)
    exact ⟨tupI row :: l,by show tupI row :: (scn (rbI row d) ds).map tupI = _; rw [e]; rfl⟩
theorem ix_scn (ds:List Dd) (row:List Int):fIx (.d (.list ((scn row ds).map tupI))) (.d (.int (-1))) = some (.d (tupI (ds.foldl rbI row))):=by
  obtain ⟨l,e⟩:=last_scn hn ds row
  rw [ix_l,atI_last (x:=tupI (ds.foldl rbI row)) (by rw [e,List.getLast?_append]; rfl)]
  rfl
/-- is_way of a let way -/
theorem iw_ok {goal:List Int} {ds:List Dd} (hr:row.length = n) (r0:∀ x ∈ row,0 ≤ x ∧ x ≤ 24) (hg:goal.length = n) (g0:∀ x ∈ goal,0 ≤ x ∧ x ≤ 24) (hd:∀ d ∈ ds,dOk n d) (hc:canAll row ds) (hl:ds.length ≤ 60) :
    f_is_way [.d (.int (n:Int)),.d (tupI row),.d (tupI goal),.d (.tuple (ds.map ddD))] t = .ok (.d (.bool (decide (ds.foldl rbI row = goal)))) t ∧ f__law_leads [.d (.int (n:Int)),.d (tupI row),.d (tupI goal),.d (.tuple (ds.map ddD))] t = .ok (.d (.bool (decide (ds.foldl rbI row = goal)))) t:=by
  have e1:f_need_many [.d (.int (n:Int))] t = .ok (.d (.int (n:Int))) t:=e_many (n:Int) (by omega) t
  have e2:=e_need_row hn (t:=t) hr r0
  have e3:=e_need_row hn (t:=t) hg g0
  have e4:=e_way (t:=t) (by omega:n ≤ 5) hr hd hc hl
  have e5:=lwe_ok (t:=t) hr hd hc hl
  have e6:=e_lrows (t:=t) (by omega:n ≤ 5) hr hd hl
  have l:=ix_scn hn ds row
  have q:=eq_rw (ds.foldl rbI row) goal
  rw [u_is_way,u__law_leads]
  generalize decide (ds.foldl rbI row = goal) = B at q ⊢
  generalize tupI (ds.foldl rbI row) = E at l q
  generalize (scn row ds).map tupI = S at e4 e6 l
  generalize ds.map ddD = W at e4 e5 e6 ⊢
  generalize tupI row = R at e2 e4 e5 e6 ⊢
  generalize tupI goal = Gl at e3 q ⊢
  refine ⟨?_,?_⟩
  · refine run_rt (G:=[.d (.int (n:Int)),.d R,.d Gl,.d (.tuple W)]) rfl ?_
    show m_is_way [.d (.int (n:Int)),.d R,.d Gl,.d (.tuple W),.un] t = _
    simp! [m_is_way,e1,e2,e3,e4,l,q]
  · refine run_rt (G:=[.d (.int (n:Int)),.d R,.d Gl,.d (.tuple W)]) rfl ?_
    show m__law_leads [.d (.int (n:Int)),.d R,.d Gl,.d (.tuple W)] t = _
    simp! [m__law_leads,e5,e6,l,q]
theorem iw_bad {goal:List Int} {W:D} {b:Bool} {p:D} (hr:row.length = n) (r0:∀ x ∈ row,0 ≤ x ∧ x ≤ 24) (hg:goal.length = n) (g0:∀ x ∈ goal,0 ≤ x ∧ x ≤ 24) (h1:f_need_way [.d (.int (n:Int)),.d (tupI row),.d W] t = .ex (wE b) [("place",p)] t) :
    f_is_way [.d (.int (n:Int)),.d (tupI row),.d (tupI goal),.d W] t = .ok (.d (.bool false)) t:=by
  have e1:f_need_many [.d (.int (n:Int))] t = .ok (.d (.int (n:Int))) t:=e_many (n:Int) (by omega) t
  have e2:=e_need_row hn (t:=t) hr r0
  have e3:=e_need_row hn (t:=t) hg g0
  rw [u_is_way]
  generalize tupI row = R at e2 h1 ⊢
  generalize tupI goal = Gl at e3 ⊢
  refine run_rt (G:=[.d (.int (n:Int)),.d R,.d Gl,.d W]) rfl ?_
  show m_is_way [.d (.int (n:Int)),.d R,.d Gl,.d W,.un] t = _
  cases b with
  | true =>
    have h1:f_need_way [.d (.int (n:Int)),.d R,.d W] t = .ex "BadWay" [("place",p)] t:=h1
    simp! [m_is_way,e1,e2,e3,h1]
    rfl
  | false =>
    have h1:f_need_way [.d (.int (n:Int)),.d R,.d W] t = .ex "BadStep" [("place",p)] t:=h1
    simp! [m_is_way,e1,e2,e3,h1]
    rfl
theorem ll_bad {goal:List Int} {W:D} {x:List D} (h2:f__law_way_error [.d (.int (n:Int)),.d (tupI row),.d W] t = .ok (.d (.tuple x)) t):f__law_leads [.d (.int (n:Int)),.d (tupI row),.d (tupI goal),.d W] t = .ok (.d (.bool false)) t:=by
  rw [u__law_leads]
  generalize tupI row = R at h2 ⊢
  generalize tupI goal = Gl
  refine run_rt (G:=[.d (.int (n:Int)),.d R,.d Gl,.d W]) rfl ?_
  show m__law_leads [.d (.int (n:Int)),.d R,.d Gl,.d W] t = _
  simp! [m__law_leads,h2]
end
theorem mem_get {l:List Int} {P:Int → Prop} (h:∀ x ∈ l,P x) {k:Nat} (hk:k < l.length):P (l.getD k 0):=by
  rw [getD_ge hk]
  exact h _ (List.getElem_mem _)
theorem zip_bd:∀ (a b:List Int),(∀ x ∈ a,0 ≤ x ∧ x ≤ 24) → (∀ x ∈ b,0 ≤ x ∧ x ≤ 24) → 0 ≤ (List.zipWith absd a b).sum ∧ (List.zipWith absd a b).sum ≤ 24 * (a.length:Int)
  | [],b,_,_=>⟨Int.le_refl _,Int.le_refl _⟩
  | x :: a,[],_,_=>⟨Int.le_refl _,by show (0:Int) ≤ _; omega⟩
  | x :: a,y :: b,h,g=>by
    obtain ⟨u,v⟩:=zip_bd a b (fun z hz=>h z (List.mem_cons_of_mem _ hz)) (fun z hz=>g z (List.mem_cons_of_mem _ hz))
    obtain ⟨x1,x2⟩:=h x List.mem_cons_self
    obtain ⟨y1,y2⟩:=g y List.mem_cons_self
    have c:0 ≤ absd x y ∧ absd x y ≤ 24:=by
      unfold absd
      split <;> omega
    rw [List.zipWith_cons_cons,List.sum_cons,List.length_cons]
    omega
theorem sum_bd:∀ (a:List Int),(∀ x ∈ a,0 ≤ x ∧ x ≤ 24) → 0 ≤ a.sum ∧ a.sum ≤ 24 * (a.length:Int)
  | [],_=>⟨Int.le_refl _,Int.le_refl _⟩
  | x :: a,h=>by
    obtain ⟨u,v⟩:=sum_bd a fun z hz=>h z (List.mem_cons_of_mem _ hz)
    obtain ⟨x1,x2⟩:=h x List.mem_cons_self
    rw [List.sum_cons,List.length_cons]
    omega
theorem scn_bd:∀ (ds:List Dd) (row:List Int) (B:Int),(∀ x ∈ row,-B ≤ x ∧ x ≤ B) → 0 ≤ B → ∀ r ∈ scn row ds,r.length = row.length ∧ ∀ x ∈ r,-(B + (ds.length:Int)) ≤ x ∧ x ≤ B + (ds.length:Int)
  | [],row,B,h,_,r,hr=>by
    rw [List.mem_singleton.mp hr]
    refine ⟨rfl,fun x hx=>?_⟩
    have:=h x hx
    rw [List.length_nil]
    omega
  | d :: ds,row,B,h,hB,r,hr=>by
    have hr:r ∈ row :: scn (rbI row d) ds:=hr
    rw [List.length_cons]
    rcases List.mem_cons.mp hr with rfl | hr
    · exact ⟨rfl,fun x hx=>by have:=h x hx; omega⟩
    · have gd:∀ k,-B ≤ row.getD k 0 ∧ row.getD k 0 ≤ B:=fun k=>by
        rcases Nat.lt_or_ge k row.length with z | z
        · exact mem_get h z
        · rw [List.getD_eq_getElem?_getD,List.getElem?_eq_none z]
          show -B ≤ (0:Int) ∧ (0:Int) ≤ B
          omega
      have st:∀ x ∈ rbI row d,-(B + 1) ≤ x ∧ x ≤ B + 1:=fun x hx=>by
        have set1:∀ {l:List Int} {i:Nat} {a x:Int},x ∈ l.set i a → x ∈ l ∨ x = a:=fun {l i a x} h=>List.mem_or_eq_of_mem_set h
        have a1:=gd d.2.1
        have a2:=gd d.2.2
        unfold rbI mvI exI at hx
        split at hx
        · rcases set1 hx with hx | hx
          · rcases set1 hx with hx | hx
            · have:=h x hx; omega
            · omega
          · omega
        · rcases set1 hx with hx | hx
          · rcases set1 hx with hx | hx
            · have:=h x hx; omega
            · omega
          · omega
      obtain ⟨a,b⟩:=scn_bd ds (rbI row d) (B + 1) st (by omega) r hr
      refine ⟨by rw [a,rbI_len],fun x hx=>?_⟩
      have:=b x hx
      omega
theorem sh_scn {n:Nat} {row:List Int} {ds:List Dd} (hn:n ≤ 5) (hr:row.length = n) (r0:∀ x ∈ row,0 ≤ x ∧ x ≤ 24) (hl:ds.length ≤ 60):Sh (.tuple ((scn row ds).map tupI)) 2 1300000:=
  sh_tuple (m:=1) (k:=20000) (fun x hx=>by
    obtain ⟨r,hr',rfl⟩:=List.mem_map.mp hx
    obtain ⟨a,b⟩:=scn_bd ds row 24 (fun x hx=>by have:=r0 x hx; omega) (by decide) r hr'
    exact sh_tupI (fun i hi=>by have:=b i hi; omega) (by omega)) (by rw [List.length_map,scn_len]; omega)
section
variable {n:Nat} (hn:n = 2 ∨ n = 3 ∨ n = 4 ∨ n = 5) {s g:List Int} (hs:s.length = n) (hg:g.length = n) (s0:∀ x ∈ s,0 ≤ x ∧ x ≤ 24) (g0:∀ x ∈ g,0 ≤ x ∧ x ≤ 24) {t:Option DS}
include hn hs hg s0 g0
theorem e_units:f_units [.d (.int (n:Int)),.d (tupI s),.d (tupI g)] t = if s.sum = g.sum then .ok (.d (.int ((hfS s g).fdiv 2))) t else .ex "BadTotal" [("value",.int g.sum)] t:=by
  have e1:f_need_many [.d (.int (n:Int))] t = .ok (.d (.int (n:Int))) t:=e_many (n:Int) (by omega) t
  have e2:=e_need_row hn (t:=t) hs s0
  have e3:=e_need_row hn (t:=t) hg g0
  have e5:=e_falling (t:=t) (row:=g) (by omega)
  have e6:=e_falling (t:=t) (row:=s) (by omega)
  have u1:=(sumT s).1
  have u2:=(sumT g).1
  have M:=M_un (t:=t) (A:=.int (n:Int)) (B:=tupI s) (C:=tupI g) (a:=fal s) (b:=fal g) (n:=n) (by omega) rfl (by rw [fal_len]; exact hs) (by rw [fal_len]; exact hg)
  have u3:=(sumT (List.zipWith absd (fal s) (fal g))).2
  have d2:=divO (List.zipWith absd (fal s) (fal g)).sum
  rw [u_units]
  unfold hfS
  unfold tupI at e2 e3 e5 e6 M ⊢
  by_cases q:s.sum = g.sum
  · rw [if_pos q]
    refine run_rt (G:=[.d (.int (n:Int)),.d (.tuple (s.map .int)),.d (.tuple (g.map .int))]) rfl ?_
    show m_units [.d (.int (n:Int)),.d (.tuple (s.map .int)),.d (.tuple (g.map .int)),.un,.un,.un] t = _
    simp! [m_units,e1,e2,e3,u1,u2,q,e5,e6,M,u3,d2]
  · rw [if_neg q]
    refine run_ex (G:=[.d (.int (n:Int)),.d (.tuple (s.map .int)),.d (.tuple (g.map .int))]) (G':=[.d (.int (n:Int)),.d (.tuple (s.map .int)),.d (.tuple (g.map .int)),.un,.un,.un]) rfl ?_
    show m_units [.d (.int (n:Int)),.d (.tuple (s.map .int)),.d (.tuple (g.map .int)),.un,.un,.un] t = _
    simp! [m_units,e1,e2,e3,u1,u2,q]
abbrev gGr (n:Nat) (S Gl:D) (a3 a4 a5 a6 a7 a8 a9:Sl):Gm:=[.d (.int (n:Int)),.d S,.d Gl,a3,a4,a5,a6,a7,a8,a9]
theorem half_bd:0 ≤ (hfS s g).fdiv 2 ∧ (hfS s g).fdiv 2 ≤ 60:=by
  have z:=zip_bd (fal s) (fal g) (fun x hx=>s0 x ((fal_perm s).mem_iff.mp hx)) (fun x hx=>g0 x ((fal_perm g).mem_iff.mp hx))
  rw [fal_len] at z
  have z:0 ≤ hfS s g ∧ hfS s g ≤ 24 * (s.length:Int):=z
  rw [Int.fdiv_eq_ediv_of_nonneg _ (by decide:(0:Int) ≤ 2)]
  omega
theorem M_gr:M__law_goal_right_1 (gGr n (tupI s) (tupI g) .un .un .un .un .un .un .un) t = .ok (.l ((List.zipWith absd (srI s) (srI g)).map .int)) t:=by
  have srt:∀ (x:List Int),x.length ≤ 1000 → fSortW [.d (.tuple (x.map .int))] = some (.l ((srI x).map .int)):=fun x hx=>by
    have a:fSortA [.d (.tuple (x.map .int))] = if sortOk (x.map .int) = true then some (.l (srtD false (x.map .int))) else none:=rfl
    unfold fSortW
    rw [a,if_pos (ok_Is (by omega)),srt_Is]
  have r1:=srt s (by omega)
  have r2:=srt g (by omega)
  unfold M__law_goal_right_1
  rw [ap_lc2]
  have z:mZip (mCallB fSortW (mCons (mVar 1) (mNil))) (mCallB fSortW (mCons (mVar 2) (mNil))) (gGr n (tupI s) (tupI g) .un .un .un .un .un .un .un) t = .ok (zipD ((srI s).map .int) ((srI g).map .int)) t:=by
    have z1:mCallB fSortW (mCons (mVar 1) (mNil)) (gGr n (tupI s) (tupI g) .un .un .un .un .un .un .un) t = .ok (.l ((srI s).map .int)) t:=by unfold tupI; simp! [r1]
    have z2:mCallB fSortW (mCons (mVar 2) (mNil)) (gGr n (tupI s) (tupI g) .un .un .un .un .un .un .un) t = .ok (.l ((srI g).map .int)) t:=by unfold tupI; simp! [r2]
    unfold mZip
    rw [z1]
    show ((mCallB fSortW (mCons (mVar 2) (mNil)) _ t).fz.bind fun r' t=>_) = _
    rw [z2]
    rfl
  have zi:∀ (a b:List Int),(∀ x ∈ zipD (a.map .int) (b.map .int),∃ i j:Int,x = .tuple [.int i,.int j]) ∧ (zipD (a.map .int) (b.map .int)).length ≤ a.length:=fun a=>by
    induction a with
    | nil=>intro b; cases b <;> exact ⟨fun x hx=>(by cases hx),Nat.le_refl _⟩
    | cons i a ih =>
      intro b
      cases b with
      | nil=>exact ⟨fun x hx=>(by cases hx),Nat.zero_le _⟩
      | cons j b =>
        refine ⟨fun x hx=>?_,Nat.succ_le_succ (ih b).2⟩
        rcases List.mem_cons.mp hx with rfl | hx
        · exact ⟨i,j,rfl⟩
        · exact (ih b).1 x hx
  show Rs.lc (mZip (mCallB fSortW (mCons (mVar 1) (mNil))) (mCallB fSortW (mCons (mVar 2) (mNil))) (gGr n (tupI s) (tupI g) .un .un .un .un .un .un .un) t) (.tup [8,9]) none _ (gGr n (tupI s) (tupI g) .un .un .un .un .un .un .un) = _
  rw [z,lc_go,lc_ok (p:=fun _=>true) (f:=zF)]
  · rw [List.nil_append,List.filter_eq_self.mpr (fun _ _=>rfl),zF_map]
  · have:=(zi (srI s) (srI g)).2
    rw [(srI_perm s).length_eq] at this
    rw [List.length_nil]
    omega
  · intro x hx
    obtain ⟨i,j,rfl⟩:=(zi _ _).1 x hx
    refine ⟨gGr n (tupI s) (tupI g) .un .un .un .un .un (.d (.int i)) (.d (.int j)),rfl,rfl,fun _=>?_⟩
    show (mCallB (f1 gAbs) (mCons (mBin fSub (mVar 8) (mVar 9)) (mNil)) _ t).fz = .ok (.d (.int (if i - j < 0 then -(i - j) else i - j))) t
    simp! []
    rfl
theorem M_tr {a3 a4 a6:Sl} (ds es:List Dd) (h1:∀ d ∈ ds,d.1 = true) (h2:∀ d ∈ es,d.1 = false) (hl:ds.length + es.length ≤ 1000):mCallB (f1 gLen) (mCons (M__law_goal_right_0) (mNil)) (gGr n (tupI s) (tupI g) a3 a4 (.d (.tuple ((ds ++ es).map ddD))) a6 .un .un .un) t = .ok (.d (.int (ds.length:Int))) t:=by
  have M:M__law_goal_right_0 (gGr n (tupI s) (tupI g) a3 a4 (.d (.tuple ((ds ++ es).map ddD))) a6 .un .un .un) t = .ok (.l ((((ds ++ es).map ddD).filter fun x=>match x with | .tuple (.str w :: _)=>decide (w = "transfer") | _=>false).map fun _=>.int 1)) t:=by
    unfold M__law_goal_right_0
    rw [ap_lc1]
    have z:mSeq (mVar 5) (gGr n (tupI s) (tupI g) a3 a4 (.d (.tuple ((ds ++ es).map ddD))) a6 .un .un .un) t = .ok ((ds ++ es).map ddD) t:=rfl
    rw [z,lc_go,lc_ok (p:=fun x=>match x with | .tuple (.str w :: _)=>decide (w = "transfer") | _=>false) (f:=fun _=>.int 1)]
    · rfl
    · rw [List.length_nil,List.length_map,List.length_append]; omega
    · intro x hx
      obtain ⟨⟨b,i,j⟩,_,rfl⟩:=List.mem_map.mp hx
      refine ⟨gGr n (tupI s) (tupI g) a3 a4 (.d (.tuple ((ds ++ es).map ddD))) a6 (.d (ddD (b,i,j))) .un .un,rfl,?_,fun _=>rfl⟩
      generalize (PyData.tuple ((ds ++ es).map ddD)) = W
      cases b with
      | true =>
        have q:mCmpB fEq (mBin fIx (mVar 7) (mC (.int 0))) (mC (.str "transfer")) (gGr n (tupI s) (tupI g) a3 a4 (.d W) a6 (.d (.tuple [.str "transfer",.int (i:Int),.int (j:Int)])) .un .un) t = .ok true t:=by simp! []
        simp only [cst,Rs.nox]
        show (match mCmpB fEq (mBin fIx (mVar 7) (mC (.int 0))) (mC (.str "transfer")) (gGr n (tupI s) (tupI g) a3 a4 (.d W) a6 (.d (.tuple [.str "transfer",.int (i:Int),.int (j:Int)])) .un .un) t with | .ok a t=>Rs.ok a t | _=>Rs.stuck) = _
        rw [q]
        rfl
      | false =>
        have q:mCmpB fEq (mBin fIx (mVar 7) (mC (.int 0))) (mC (.str "transfer")) (gGr n (tupI s) (tupI g) a3 a4 (.d W) a6 (.d (.tuple [.str "exchange",.int (i:Int),.int (j:Int)])) .un .un) t = .ok false t:=by simp! []
        simp only [cst,Rs.nox]
        show (match mCmpB fEq (mBin fIx (mVar 7) (mC (.int 0))) (mC (.str "transfer")) (gGr n (tupI s) (tupI g) a3 a4 (.d W) a6 (.d (.tuple [.str "exchange",.int (i:Int),.int (j:Int)])) .un .un) t with | .ok a t=>Rs.ok a t | _=>Rs.stuck) = _
        rw [q]
        rfl
  have L:((((ds ++ es).map ddD).filter fun x=>match x with | .tuple (.str w :: _)=>decide (w = "transfer") | _=>false).map fun _=>PyData.int 1).length = ds.length:=by
    rw [List.length_map,List.map_append,List.filter_append,List.filter_eq_self.mpr,List.filter_eq_nil_iff.mpr,List.append_nil,List.length_map]
    · intro x hx
      obtain ⟨⟨b,i,j⟩,hd,rfl⟩:=List.mem_map.mp hx
      have:b = false:=h2 _ hd
      subst this
      exact Bool.false_ne_true
    · intro x hx
      obtain ⟨⟨b,i,j⟩,hd,rfl⟩:=List.mem_map.mp hx
      have:b = true:=h1 _ hd
      subst this
      rfl
  generalize ((((ds ++ es).map ddD).filter fun x=>match x with | .tuple (.str w :: _)=>decide (w = "transfer") | _=>false).map fun _=>PyData.int 1) = X at M L
  rw [← L]
  simp! [M]
end
theorem cons_d {m:EM} {ms:AM} {G:Gm} {t t1 t2:Option DS} {x:D} {rs:List Rv} (h:m G t = .ok (.d x) t1) (h2:ms G t1 = .ok rs t2):mCons m ms G t = .ok (.d x :: rs) t2:=by
  simp only [mCons,h,h2,Rs.bind,Rs.fz,Rv.fz]
theorem sh_more {d:D} {m k m' k':Nat} (h:Sh d m k) (hm:m ≤ m') (hk:k ≤ k'):Sh d m' k':=⟨h.ok,Nat.le_trans h.dp hm,Nat.le_trans h.len hk,h.nd⟩
theorem sh_strk {w:Str} {k:Nat} (h:(PyData.shown (.str w)).length ≤ k):Sh (.str w) 0 k:=⟨rfl,Nat.le_refl _,h,by simp [PyData.hasDict]⟩
section
variable {n:Nat} (hn:n = 2 ∨ n = 3 ∨ n = 4 ∨ n = 5) {s g:List Int} (hs:s.length = n) (hg:g.length = n) (s0:∀ x ∈ s,0 ≤ x ∧ x ≤ 24) (g0:∀ x ∈ g,0 ≤ x ∧ x ≤ 24) {t:Option DS}
include hn hs hg s0 g0
theorem gr_told:∃ T:D,Sh T 1 20000 ∧ mHeard h__law_heard (mCall 3 f_units [] (mCons (mVar 0) (mCons (mVar 1) (mCons (mVar 2) (mNil))))) (gGr n (tupI s) (tupI g) (.d (.int ((hfS s g).fdiv 2))) .un .un .un .un .un .un) t = .ok (.d T) t ∧
    ∀ (a4:Sl),mCons (mIf (mCmpB fEq (mCallB (f1 gSum) (mCons (mVar 1) (mNil))) (mCallB (f1 gSum) (mCons (mVar 2) (mNil)))) (mLst (mCons (mVar 3) (mNil))) (mTup (mCons (mC (.str "total")) (mCons (mCallB (f1 gSum) (mCons (mVar 2) (mNil))) (mNil))))) (mNil) (gGr n (tupI s) (tupI g) (.d (.int ((hfS s g).fdiv 2))) a4 .un .un .un .un .un) t = .ok [.d T] t:=by
  have u:=e_units hn hs hg s0 g0 (t:=t)
  have hb:=half_bd hn hs hg s0 g0
  have sb:=sum_bd g g0
  have u1:=(sumT s).1
  have u2:=(sumT g).1
  by_cases q:s.sum = g.sum
  · rw [if_pos q] at u
    refine ⟨.list [.int ((hfS s g).fdiv 2)],sh_list (m:=0) (k:=1001) (fun x hx=>by rw [List.mem_singleton.mp hx]; exact sh_int_small (by omega)) (by show (1001 + 2) * 1 + 5 ≤ 20000; decide),?_,fun a4=>?_⟩
    · refine hd_mh (f:=fun t'=>f_units [.d (.int (n:Int)),.d (tupI s),.d (tupI g)] t') (fun t'=>rfl) (ht_ok u)
    · unfold tupI
      simp! [u1,u2,q]
  · rw [if_neg q] at u
    refine ⟨.tuple [.str "total",.int g.sum],sh_tuple (m:=0) (k:=1001) (fun x hx=>by
      rcases List.mem_cons.mp hx with rfl | hx
      · exact sh_more (sh_strk (k:=100) (by decide +kernel)) (by decide) (by decide)
      · rw [List.mem_singleton.mp hx]; exact sh_int_small (by omega)) (by show (1001 + 2) * 2 + 5 ≤ 20000; decide),?_,fun a4=>?_⟩
    · refine hd_mh (f:=fun t'=>f_units [.d (.int (n:Int)),.d (tupI s),.d (tupI g)] t') (fun t'=>rfl) (ht_total u)
    · unfold tupI
      simp! [u1,u2,q]
theorem e_goal:f__law_goal_right [.d (.int (n:Int)),.d (tupI s),.d (tupI g)] t = .ok (.d (.bool true)) t:=by
  obtain ⟨T,shT,h1,h2⟩:=gr_told hn hs hg s0 g0 (t:=t)
  have M:=M_gr hn hs hg s0 g0 (t:=t)
  have su:=(sumT (List.zipWith absd (srI s) (srI g))).2
  rw [hf_asc (by omega)] at su
  have d2:=divO (hfS s g)
  have lk:=like_sh shT (by decide) (by decide) t
  obtain ⟨w1,w2⟩:=e_wayto hn hs hg s0 g0 (t:=t)
  have ev:=e_evener (t:=t) (g:=g) (s:=s) (by omega) (by omega)
  rw [u__law_goal_right]
  refine run_rt (G:=[.d (.int (n:Int)),.d (tupI s),.d (tupI g)]) rfl ?_
  show m__law_goal_right (gGr n (tupI s) (tupI g) .un .un .un .un .un .un .un) t = _
  unfold m__law_goal_right
  rw [seq_nx (t:=t) (G1:=gGr n (tupI s) (tupI g) (.d (.int ((hfS s g).fdiv 2))) .un .un .un .un .un .un) (t1:=t) (by
    generalize tupI s = S at M ⊢
    generalize tupI g = Gl at M ⊢
    simp! [M,su,d2])]
  rw [seq_nx (t:=t) (G1:=gGr n (tupI s) (tupI g) (.d (.int ((hfS s g).fdiv 2))) (.d T) .un .un .un .un .un) (t1:=t) (set_dX h1 (by simp))]
  rw [seq_nx (t:=t) (G1:=gGr n (tupI s) (tupI g) (.d (.int ((hfS s g).fdiv 2))) (.d T) .un .un .un .un .un) (t1:=t) (by
    have h2:=h2 (.d T)
    rw [frz_d (x:=T) rfl,if_no (t1:=t)]
    · rfl
    · have c:mCall 2 f__law_like [] (mCons (mVar 4) (mCons (mIf (mCmpB fEq (mCallB (f1 gSum) (mCons (mVar 1) (mNil))) (mCallB (f1 gSum) (mCons (mVar 2) (mNil)))) (mLst (mCons (mVar 3) (mNil))) (mTup (mCons (mC (.str "total")) (mCons (mCallB (f1 gSum) (mCons (mVar 2) (mNil))) (mNil))))) (mNil))) (gGr n (tupI s) (tupI g) (.d (.int ((hfS s g).fdiv 2))) (.d T) .un .un .un .un .un) t = .ok (.d (.bool true)) t:=by
        have cc:=cons_d (m:=mVar 4) (G:=gGr n (tupI s) (tupI g) (.d (.int ((hfS s g).fdiv 2))) (.d T) .un .un .un .un .un) (t:=t) (t1:=t) (x:=T) rfl h2
        simp only [mCall,cc,Rs.bind]
        exact lk
      simp only [mNotB,mTru,c,Rs.fz,Rv.fz,Rs.bind,Rv.truth,Rs.of]
      rfl)]
  cases e:evB g s with
  | false =>
    rw [e] at ev
    have w1:=w1 e
    rw [seq_nx (t:=t) (G1:=gGr n (tupI s) (tupI g) (.d (.int ((hfS s g).fdiv 2))) (.d T) (.d .none) .un .un .un .un) (t1:=t) (by
      generalize tupI s = S at w1 ⊢
      generalize tupI g = Gl at w1 ⊢
      simp! [w1])]
    generalize tupI s = S at ev ⊢
    generalize tupI g = Gl at ev ⊢
    simp! [ev]
  | true =>
    rw [e] at ev
    obtain ⟨ds,es,W,w2⟩:=w2 e
    have B:=bal_ev hg hs e
    have hp:=hf_pos hg hs e
    have len:=W.len
    have le:=W.le
    have bd:∀ k,k < n → -24 ≤ df (fal s) (fal g) k ∧ df (fal s) (fal g) k ≤ 24:=fun k hk=>by
      have a:=mem_get (l:=fal s) (P:=fun x=>0 ≤ x ∧ x ≤ 24) (fun x hx=>s0 x ((fal_perm s).mem_iff.mp hx)) (k:=k) (by rw [fal_len]; omega)
      have b:=mem_get (l:=fal g) (P:=fun x=>0 ≤ x ∧ x ≤ 24) (fun x hx=>g0 x ((fal_perm g).mem_iff.mp hx)) (k:=k) (by rw [fal_len]; omega)
      show -24 ≤ (fal s).getD k 0 - (fal g).getD k 0 ∧ (fal s).getD k 0 - (fal g).getD k 0 ≤ 24
      omega
    have p48:=pos_le (by omega:n ≤ 5) bd B.tot
    have hl:(ds ++ es).length ≤ 60:=by rw [List.length_append]; omega
    have hd:∀ d ∈ ds ++ es,dOk n d:=fun d h=>by
      rcases List.mem_append.mp h with h | h
      · exact (W.tr d h).2
      · exact (W.ex d h).2
    have iw:=iw_ok hn hs s0 hg g0 hd W.can hl (t:=t)
    rw [decide_eq_true W.to] at iw
    obtain ⟨i1,i2⟩:=iw
    have nw:=e_way (t:=t) (by omega:n ≤ 5) hs hd W.can hl
    have ro:=(e_rowson hn (t:=t) (W:=.tuple ((ds ++ es).map ddD)) hs s0).1 _ nw
    have lr:=e_lrows (t:=t) (by omega:n ≤ 5) hs hd hl
    have half:(hfS s g).fdiv 2 = (ds.length:Int):=by
      rw [Int.fdiv_eq_ediv_of_nonneg _ (by decide:(0:Int) ≤ 2)]
      omega
    have Mt:=M_tr hn hs hg s0 g0 (t:=t) (a3:=.d (.int ((hfS s g).fdiv 2))) (a4:=.d T) (a6:=.un) ds es (fun d h=>(W.tr d h).1) (fun d h=>(W.ex d h).1) (by rw [List.length_append] at hl; omega)
    have shL:Sh (.list [.bool true,.tuple ((scn s (ds ++ es)).map tupI)]) 3 3000000:=sh_list (m:=2) (k:=1300000) (fun x hx=>by
      rcases List.mem_cons.mp hx with rfl | hx
      · exact sh_more (sh_bool true) (by decide) (by decide)
      · rw [List.mem_singleton.mp hx]; exact sh_scn (by omega) hs s0 hl) (by show (1300000 + 2) * 2 + 5 ≤ 3000000; decide)
    have lk2:=like_sh shL (by decide) (by decide) t
    have ll:(((ds ++ es).map ddD).length:Int) = (ds.length:Int) + (es.length:Int):=by rw [List.length_map,List.length_append]; omega
    rw [half] at Mt ⊢
    generalize (scn s (ds ++ es)).map tupI = R at ro lr lk2
    generalize (ds ++ es).map ddD = X at w2 i1 i2 ro lr ll Mt
    generalize tupI s = S at w2 ev i1 i2 ro lr Mt ⊢
    generalize tupI g = Gl at w2 ev i1 i2 Mt ⊢
    rw [seq_nx (t:=t) (G1:=gGr n S Gl (.d (.int (ds.length:Int))) (.d T) (.d (.tuple X)) .un .un .un .un) (t1:=t) (by simp! [w2])]
    rw [sif_no (t:=t) (t1:=t) (by simp! [ev])]
    rw [sif_no (t:=t) (t1:=t) (by simp! [i2])]
    rw [seq_nx (t:=t) (G1:=gGr n S Gl (.d (.int (ds.length:Int))) (.d T) (.d (.tuple X)) (.d (.int (ds.length:Int))) .un .un .un) (t1:=t) (set_dX Mt (by simp))]
    have gt:¬ (n:Int) - 1 < (ds.length:Int) + (es.length:Int) - (ds.length:Int):=by omega
    rw [sif_no (t:=t) (t1:=t) (by simp! [ll,gt])]
    simp! [i1,ro,lr,lk2]
end
theorem slT {xs:List D} {j:Nat} (h:j ≤ xs.length):fSl (.d (.tuple xs)) none (some (j:Int)) = some (.d (.tuple (xs.take j))):=by
  show some (Rv.d (.tuple ((xs.drop (HT.sIx xs.length 0 none)).take (HT.sIx xs.length xs.length (some (j:Int)) - HT.sIx xs.length 0 none)))) = _
  rw [HT.sIx_none,HT.sIx_nat,Nat.min_eq_left h,List.drop_zero,Nat.sub_zero]
theorem slF {xs:List D} {j:Nat} (h:j ≤ xs.length):fSl (.d (.tuple xs)) (some (j:Int)) none = some (.d (.tuple (xs.drop j))):=by
  show some (Rv.d (.tuple ((xs.drop (HT.sIx xs.length 0 (some (j:Int)))).take (HT.sIx xs.length xs.length none - HT.sIx xs.length 0 (some (j:Int)))))) = _
  rw [HT.sIx_none,HT.sIx_nat,Nat.min_eq_left h,List.take_of_length_le (by rw [List.length_drop]; omega)]
theorem lay_dd:∀ ds:List Dd,PyData.canLayAll0 (ds.map ddD) = true ∧ PyData.depthAll (ds.map ddD) ≤ 1
  | []=>⟨rfl,Nat.zero_le _⟩
  | (b,i,j) :: ds=>by
    obtain ⟨x,y⟩:=lay_dd ds
    have h:(ddD (b,i,j)).canLay0 = true ∧ (ddD (b,i,j)).depth = 1:=by
      cases b <;> exact ⟨by simp [ddD,PyData.canLay0,PyData.canLayAll0]; decide +kernel,by simp [ddD,PyData.depth,PyData.depthAll]⟩
    exact ⟨by rw [List.map_cons]; simp only [PyData.canLayAll0,h.1,x,Bool.and_self],by rw [List.map_cons]; simp only [PyData.depthAll,h.2]; omega⟩
theorem eq_E0 {d:Dd} {ds:List Dd}:fEq (.d (.tuple ((d :: ds).map ddD))) (.d (.tuple [])) = some (.d (.bool false)):=by
  obtain ⟨a,b⟩:=lay_dd (d :: ds)
  have s1:SeqAt.shaped (.tuple ((d :: ds).map ddD)) = true:=by
    unfold SeqAt.shaped
    rw [Bool.and_eq_true]
    exact ⟨by simpa only [PyData.canLay0] using a,decide_eq_true (by simp only [PyData.depth]; omega)⟩
  have e:gEq (.tuple ((d :: ds).map ddD)) (.tuple []) = some false:=by
    show (if SeqAt.shaped (.tuple ((d :: ds).map ddD)) && SeqAt.shaped (.tuple []) then some (PyData.eqv (.tuple ((d :: ds).map ddD)) (.tuple [])) else none) = _
    rw [s1]
    rfl
  show (fRead (fun a b=>(gEq a b).map .bool) (.d (.tuple ((d :: ds).map ddD))) (.d (.tuple []))) = _
  simp only [fRead,Rv.toD,Option.bind_some,e,Option.map_some]
section
variable {n:Nat} (hn:n = 2 ∨ n = 3 ∨ n = 4 ∨ n = 5) {row:List Int} (hr:row.length = n)
include hn hr
/-- the deed that is bent, at its place -/
theorem wr_mid {ds:List Dd} {a:Nat} (hd:∀ d ∈ ds,dOk n d) (hl:ds.length ≤ 20) (ys:List Dd) (hy:∀ d ∈ ys,dOk n d) (hyl:ys.length ≤ 2):WRes n row (.tuple ((ds.map ddD).take a ++ ys.map ddD ++ (ds.map ddD).drop (a + 1))):=by
  rw [← List.map_take,← List.map_drop,← List.map_append,← List.map_append]
  refine wr_deeds hn hr (fun d h=>?_) ?_
  · rcases List.mem_append.mp h with h | h
    · rcases List.mem_append.mp h with h | h
      · exact hd d (List.mem_of_mem_take h)
      · exact hy d h
    · exact hd d (List.mem_of_mem_drop h)
  · rw [List.length_append,List.length_append,List.length_take,List.length_drop]
    omega
theorem e_bent {ds:List Dd} (hd:∀ d ∈ ds,dOk n d) (hl:ds.length ≤ 20) {k:Nat} {t:Option DS} (hJ:J k t) (hk:k ≤ 700000):∃ (W:D) (t':Option DS),f__law_bent_way [.s,.d (.int (n:Int)),.d (.tuple (ds.map ddD))] t = .ok (.d W) t' ∧ J (k + 6) t' ∧ WRes n row W:=by
  rw [u__law_bent_way]
  cases ds with
  | nil =>
    obtain ⟨z,t1,e1,j1,z0,z1⟩:=dr (l:=2) hJ (by omega) (by decide) (by decide)
    have e0:fEq (.d (.tuple [])) (.d (.tuple [])) = some (.d (.bool true)):=rfl
    by_cases q:z = 0
    · subst q
      refine ⟨.tuple [.tuple [.str "transfer",.int 0,.int 1]],t1,?_,j1.more (by omega),?_⟩
      · refine run_rt (G:=[.s,.d (.int (n:Int)),.d (.tuple [])]) rfl ?_
        show m__law_bent_way [.s,.d (.int (n:Int)),.d (.tuple []),.un,.un,.un] t = _
        simp! [m__law_bent_way,e0,e1]
      · have:=wr_deeds hn hr (ds:=[(true,0,1)]) (fun d h=>by
          rw [List.mem_singleton.mp h]
          refine ⟨?_,?_,?_⟩
          · show 0 < n; omega
          · show 1 < n; omega
          · show 0 ≠ 1; decide) (by decide)
        exact this
    · refine ⟨.list [],t1,?_,j1.more (by omega),wr_T hn rfl⟩
      refine run_rt (G:=[.s,.d (.int (n:Int)),.d (.tuple [])]) rfl ?_
      show m__law_bent_way [.s,.d (.int (n:Int)),.d (.tuple []),.un,.un,.un] t = _
      simp! [m__law_bent_way,e0,e1,q]
  | cons d0 ds0 =>
    have e0:=eq_E0 (d:=d0) (ds:=ds0)
    generalize hds:d0 :: ds0 = ds at hd hl e0 ⊢
    have lp:0 < ds.length:=by rw [← hds,List.length_cons]; omega
    clear hds
    obtain ⟨z,t1,e1,j1,z0,z1⟩:=dr (l:=((ds.map ddD).length:Int)) hJ (by omega) (by rw [List.length_map]; omega) (by rw [List.length_map]; omega)
    obtain ⟨p,t2,e2,j2,p0,p1⟩:=dr (l:=6) j1 (by omega) (by decide) (by decide)
    rw [List.length_map] at z1
    obtain ⟨a,rfl⟩:∃ m:Nat,z = (m:Int):=⟨z.toNat,by omega⟩
    have ha:a < ds.length:=by omega
    obtain ⟨d,hda,hdm⟩:∃ d,fIx (.d (.tuple (ds.map ddD))) (.d (.int (a:Int))) = some (.d (ddD d)) ∧ d ∈ ds:=by
      refine ⟨ds[a],?_,List.getElem_mem _⟩
      rw [ix_t,atI_nat (v:=ddD ds[a]) (by rw [List.getElem?_map,List.getElem?_eq_getElem ha]; rfl)]
      rfl
    have s1:=slT (xs:=ds.map ddD) (j:=a) (by rw [List.length_map]; omega)
    have s2:=slF (xs:=ds.map ddD) (j:=a + 1) (by rw [List.length_map]; omega)
    have s2:fSl (.d (.tuple (ds.map ddD))) (some ((a:Int) + 1)) none = some (.d (.tuple ((ds.map ddD).drop (a + 1)))):=s2
    have lt:((ds.map ddD).take a).length ≤ 20:=by rw [List.length_take,List.length_map]; omega
    have ld:((ds.map ddD).drop (a + 1)).length ≤ 20:=by rw [List.length_drop,List.length_map]; omega
    have cat:∀ {x y:List D},x.length + y.length ≤ 100 → fAdd (.d (.tuple x)) (.d (.tuple y)) = some (.d (.tuple (x ++ y))):=fun {x y} h=>by rw [add_t,if_pos (by omega)]
    have hdo:=hd d hdm
    obtain ⟨b,i,j⟩:=d
    have hi:i < n:=hdo.1
    have hj:j < n:=hdo.2.1
    have ne:i ≠ j:=hdo.2.2
    generalize hw:(if b = true then ("transfer" : Str) else "exchange") = wd at *
    have hdw:ddD (b,i,j) = .tuple [.str wd,.int (i:Int),.int (j:Int)]:=by rw [← hw]; rfl
    rw [hdw] at hda
    have c1:=fun Y:D=>cat (x:=(ds.map ddD).take a) (y:=[Y]) (by show _ + 1 ≤ 100; omega)
    have c2:=fun Y:D=>cat (x:=(ds.map ddD).take a ++ [Y]) (y:=(ds.map ddD).drop (a + 1)) (by rw [List.length_append]; show _ + 1 + _ ≤ 100; omega)
    have c3:=cat (x:=(ds.map ddD).take a) (y:=(ds.map ddD).drop (a + 1)) (by omega)
    have c4:=fun Y:D=>cat (x:=(ds.map ddD).take a) (y:=[Y,Y]) (by show _ + 2 ≤ 100; omega)
    have c5:=fun Y:D=>cat (x:=(ds.map ddD).take a ++ [Y,Y]) (y:=(ds.map ddD).drop (a + 1)) (by rw [List.length_append]; show _ + 2 + _ ≤ 100; omega)
    have cs:p = 0 ∨ p = 1 ∨ p = 2 ∨ p = 3 ∨ p = 4 ∨ p = 5:=by omega
    have start:∀ {W:D} {t3:Option DS},(m__law_bent_way [.s,.d (.int (n:Int)),.d (.tuple (ds.map ddD)),.un,.un,.un] t = .rt W t3) → runM m__law_bent_way 6 [.s,.d (.int (n:Int)),.d (.tuple (ds.map ddD))] t = .ok (.d W) t3:=fun {W t3} h=>run_rt (G:=[.s,.d (.int (n:Int)),.d (.tuple (ds.map ddD))]) rfl h
    have W1:=fun ys hy hyl=>wr_mid hn hr (a:=a) hd hl ys hy hyl
    rcases cs with rfl | rfl | rfl | rfl | rfl | rfl
    · have w:=W1 [] (fun d h=>(by cases h)) (by decide)
      rw [List.map_nil,List.append_nil] at w
      refine ⟨_,t2,start ?_,j2.more (by omega),w⟩
      generalize (ds.map ddD).take a = TA at s1 c3
      generalize (ds.map ddD).drop (a + 1) = DA at s2 c3
      generalize ds.map ddD = X at e0 e1 hda s1 s2
      simp! [m__law_bent_way,e0,e1,e2,hda,s1,s2,c3]
    · have w:=W1 [(b,i,j),(b,i,j)] (fun d h=>by
        rcases List.mem_cons.mp h with rfl | h
        · exact hdo
        · rw [List.mem_singleton.mp h]; exact hdo) (by simp)
      have w:WRes n row (.tuple ((ds.map ddD).take a ++ [ddD (b,i,j),ddD (b,i,j)] ++ (ds.map ddD).drop (a + 1))):=w
      rw [hdw] at w
      refine ⟨_,t2,start ?_,j2.more (by omega),w⟩
      generalize (ds.map ddD).take a = TA at s1 c4 c5
      generalize (ds.map ddD).drop (a + 1) = DA at s2 c5
      generalize ds.map ddD = X at e0 e1 hda s1 s2
      simp! [m__law_bent_way,e0,e1,e2,hda,s1,s2,c4,c5]
    · have w:=W1 [(b,j,i)] (fun d h=>by rw [List.mem_singleton.mp h]; exact ⟨hj,hi,fun z=>ne z.symm⟩) (by simp)
      have w:WRes n row (.tuple ((ds.map ddD).take a ++ [ddD (b,j,i)] ++ (ds.map ddD).drop (a + 1))):=w
      have e:ddD (b,j,i) = .tuple [.str wd,.int (j:Int),.int (i:Int)]:=by rw [← hw]; rfl
      rw [e] at w
      refine ⟨_,t2,start ?_,j2.more (by omega),w⟩
      generalize (ds.map ddD).take a = TA at s1 c1 c2
      generalize (ds.map ddD).drop (a + 1) = DA at s2 c2
      generalize ds.map ddD = X at e0 e1 hda s1 s2
      simp! [m__law_bent_way,e0,e1,e2,hda,s1,s2,c1,c2]
    · have w:=W1 [(!b,i,j)] (fun d h=>by rw [List.mem_singleton.mp h]; exact ⟨hi,hj,ne⟩) (by simp)
      have w:WRes n row (.tuple ((ds.map ddD).take a ++ [ddD (!b,i,j)] ++ (ds.map ddD).drop (a + 1))):=w
      refine ⟨_,t2,start ?_,j2.more (by omega),w⟩
      generalize (ds.map ddD).take a = TA at s1 c1 c2
      generalize (ds.map ddD).drop (a + 1) = DA at s2 c2
      generalize ds.map ddD = X at e0 e1 hda s1 s2
      cases b with
      | true =>
        have hw:("transfer" : Str) = wd:=hw
        subst hw
        show m__law_bent_way _ t = .rt (.tuple (TA ++ [.tuple [.str "exchange",.int (i:Int),.int (j:Int)]] ++ DA)) t2
        simp! [m__law_bent_way,e0,e1,e2,hda,s1,s2,c1,c2]
      | false =>
        have hw:("exchange" : Str) = wd:=hw
        subst hw
        show m__law_bent_way _ t = .rt (.tuple (TA ++ [.tuple [.str "transfer",.int (i:Int),.int (j:Int)]] ++ DA)) t2
        simp! [m__law_bent_way,e0,e1,e2,hda,s1,s2,c1,c2]
    · obtain ⟨x,t3,e3,j3,hx⟩:=e_of (ds:=oddK n) (by unfold oddK; simp) (by unfold oddK; simp) j2 (by omega)
      have w:=wr_odd hn (row:=row) (ds:=ds.take a) (x:=x) (rest:=(ds.map ddD).drop (a + 1)) (fun d h=>hd d (List.mem_of_mem_take h)) hx (by rw [List.length_take]; omega)
      rw [List.map_take] at w
      have w:WRes n row (.tuple ((ds.map ddD).take a ++ [x] ++ (ds.map ddD).drop (a + 1))):=by rw [List.append_assoc]; exact w
      have e3:f__law_of [.s,.d (.list [.none,.tuple [.str "transfer",.int 0],.list [.str "transfer",.int 0,.int 1],.tuple [.str "exchange",.int (n:Int),.int 0],.tuple [.str "swap",.int 0,.int 1]])] t2 = .ok (.d x) t3:=e3
      refine ⟨_,t3,start ?_,j3.more (by omega),w⟩
      generalize (ds.map ddD).take a = TA at s1 c1 c2
      generalize (ds.map ddD).drop (a + 1) = DA at s2 c2
      generalize ds.map ddD = X at e0 e1 hda s1 s2
      simp! [m__law_bent_way,e0,e1,e2,hda,e3,s1,s2,c1,c2]
    · obtain ⟨i',j',t3,e3,j3,hi',hj',ne'⟩:=e_twoN hn j2 (by omega)
      have w:=W1 [(b,i',j')] (fun d h=>by rw [List.mem_singleton.mp h]; exact ⟨hi',hj',ne'⟩) (by simp)
      have w:WRes n row (.tuple ((ds.map ddD).take a ++ [ddD (b,i',j')] ++ (ds.map ddD).drop (a + 1))):=w
      have e:ddD (b,i',j') = .tuple [.str wd,.int (i':Int),.int (j':Int)]:=by rw [← hw]; rfl
      rw [e] at w
      refine ⟨_,t3,start ?_,j3.more (by omega),w⟩
      have c6:fAdd (.d (.tuple [.str wd])) (.d (.tuple [.int (i':Int),.int (j':Int)])) = some (.d (.tuple [.str wd,.int (i':Int),.int (j':Int)])):=rfl
      generalize (ds.map ddD).take a = TA at s1 c1 c2
      generalize (ds.map ddD).drop (a + 1) = DA at s2 c2
      generalize ds.map ddD = X at e0 e1 hda s1 s2
      simp! [m__law_bent_way,e0,e1,e2,hda,e3,c6,s1,s2,c1,c2]
end
theorem rb_bd {n:Nat} {row:List Int} {d:Dd} (hr:row.length = n) (r0:∀ x ∈ row,0 ≤ x ∧ x ≤ 24) (hd:dOk n d) (hc:canD row d):∀ x ∈ rbI row d,0 ≤ x ∧ x ≤ 24:=fun x hx=>by
  have a1:=mem_get r0 (k:=d.2.1) (by have:=hd.1; omega)
  have a2:=mem_get r0 (k:=d.2.2) (by have:=hd.2.1; omega)
  have set1:∀ {l:List Int} {i:Nat} {a x:Int},x ∈ l.set i a → x ∈ l ∨ x = a:=fun {l i a x} h=>List.mem_or_eq_of_mem_set h
  unfold rbI mvI exI at hx
  split at hx
  · rename_i b1
    have c:=hc b1
    rcases set1 hx with hx | hx
    · rcases set1 hx with hx | hx
      · exact r0 x hx
      · omega
    · omega
  · rcases set1 hx with hx | hx
    · rcases set1 hx with hx | hx
      · exact r0 x hx
      · omega
    · omega
theorem fold_bd {n:Nat}:∀ (ds:List Dd) {row:List Int},row.length = n → (∀ x ∈ row,0 ≤ x ∧ x ≤ 24) → (∀ d ∈ ds,dOk n d) → canAll row ds → ∀ x ∈ ds.foldl rbI row,0 ≤ x ∧ x ≤ 24
  | [],row,_,r0,_,_=>r0
  | d :: ds,row,hr,r0,hd,hc=>fold_bd ds (by rw [rbI_len]; exact hr) (rb_bd hr r0 (hd d List.mem_cons_self) hc.1) (fun e h=>hd e (List.mem_cons_of_mem _ h)) hc.2
abbrev gWr (n:Nat) (S W0 Gl:D) (a5 a6 a7 a8 a9 a10 a11:Sl):Gm:=[.s,.d (.int (n:Int)),.d S,.d W0,.d Gl,a5,a6,a7,a8,a9,a10,a11]
section
variable {n:Nat} (hn:n = 2 ∨ n = 3 ∨ n = 4 ∨ n = 5) {s g:List Int} (hs:s.length = n) (hg:g.length = n) (s0:∀ x ∈ s,0 ≤ x ∧ x ≤ 24) (g0:∀ x ∈ g,0 ≤ x ∧ x ≤ 24) {t:Option DS}
include hn hs hg s0 g0
theorem frz_dd {i:Nat} {m:SM} {G:Gm} {x:D} (hG:G[i]? = some (.d x)):sFrz i m G t = m G t:=by simp only [sFrz,hG]
/-- one turn, behind the bending -/
theorem turn_tail {W0 W:D} (h:WRes n s W) {a5 a7 a8 a9 a10 a11:Sl} {e:EM} {t0:Option DS} {a6:Sl} (hE:e (gWr n (tupI s) W0 (tupI g) a5 a6 a7 a8 a9 a10 a11) t0 = .ok (.d W) t) (hL:L__law_ways_right_1 = sSeq (sSet 6 e) (sSeq (sFrz 6 (sSet 7 (mCall 3 f__law_way_error [] (mCons (mVar 1) (mCons (mVar 2) (mCons (mVar 6) (mNil))))))) (sSeq (sFrz 6 (sSet 8 (mIf (mCmpB fIs (mVar 7) (mC .none)) (mLst (mCons (mCallB fTuple (mCons (mCall 2 f__law_rows_on [] (mCons (mVar 2) (mCons (mVar 6) (mNil)))) (mNil))) (mNil))) (mVar 7)))) (sSeq (sFrz 8 (sFrz 6 (sIf (mNotB (mTru (mCall 2 f__law_like [] (mCons (mHeard h__law_heard (mCall 3 f_rows_on [] (mCons (mVar 1) (mCons (mVar 2) (mCons (mVar 6) (mNil)))))) (mCons (mVar 8) (mNil)))))) (sSeq (sRet (mC (.bool false))) (sSkip)) (sSkip)))) (sSeq (sFrz 6 (sIf (mNotB (mTru (mCall 2 f__law_like [] (mCons (mCall 4 f_is_way [] (mCons (mVar 1) (mCons (mVar 2) (mCons (mVar 4) (mCons (mVar 6) (mNil)))))) (mCons (mCall 4 f__law_leads [] (mCons (mVar 1) (mCons (mVar 2) (mCons (mVar 4) (mCons (mVar 6) (mNil)))))) (mNil)))))) (sSeq (sRet (mC (.bool false))) (sSkip)) (sSkip))) (sSkip)))))) :
    ∃ b7 b8,L__law_ways_right_1 (gWr n (tupI s) W0 (tupI g) a5 a6 a7 a8 a9 a10 a11) t0 = .nx (gWr n (tupI s) W0 (tupI g) a5 (.d W) b7 b8 a9 a10 a11) t:=by
  rw [hL]
  -- the due, the told, the answer
  obtain ⟨E7,D8,a8',T,B,shT,q7,q8,q8',qh,qw,ql⟩:∃ (E7:D) (T8:Sl) (R8:Sl) (T:D) (B:Bool),Sh T 3 3000000 ∧ f__law_way_error [.d (.int (n:Int)),.d (tupI s),.d W] t = .ok (.d E7) t ∧
      (∀ a8:Sl,sFrz 6 (sSet 8 (mIf (mCmpB fIs (mVar 7) (mC .none)) (mLst (mCons (mCallB fTuple (mCons (mCall 2 f__law_rows_on [] (mCons (mVar 2) (mCons (mVar 6) (mNil)))) (mNil))) (mNil))) (mVar 7))) (gWr n (tupI s) W0 (tupI g) a5 (.d W) (.d E7) a8 a9 a10 a11) t = .nx (gWr n (tupI s) W0 (tupI g) a5 (.d W) (.d E7) T8 a9 a10 a11) t) ∧
      ((T8 = .d T ∨ ∃ xs,T8 = .l xs ∧ T = .list xs)) ∧
      h__law_heard (fun t'=>f_rows_on [.d (.int (n:Int)),.d (tupI s),.d W] t') t = .ok (.d T) t ∧
      f_is_way [.d (.int (n:Int)),.d (tupI s),.d (tupI g),.d W] t = .ok (.d (.bool B)) t ∧ f__law_leads [.d (.int (n:Int)),.d (tupI s),.d (tupI g),.d W] t = .ok (.d (.bool B)) t:=by
    cases h with
    | ok ds hd hc hl =>
      obtain ⟨i1,i2⟩:=iw_ok hn hs s0 hg g0 hd hc hl (t:=t)
      have nw:=e_way (t:=t) (by omega:n ≤ 5) hs hd hc hl
      have ro:=(e_rowson hn (t:=t) (W:=.tuple (ds.map ddD)) hs s0).1 _ nw
      have lr:=e_lrows (t:=t) (by omega:n ≤ 5) hs hd hl
      have e7:=lwe_ok (t:=t) hs hd hc hl
      refine ⟨.none,.l [.tuple ((scn s ds).map tupI)],.un,.list [.tuple ((scn s ds).map tupI)],decide (ds.foldl rbI s = g),sh_list (m:=2) (k:=1300000) (fun x hx=>by rw [List.mem_singleton.mp hx]; exact sh_scn (by omega) hs s0 hl) (by show (1300000 + 2) * 1 + 5 ≤ 3000000; decide),e7,fun a8=>?_,.inr ⟨_,rfl,rfl⟩,ht_ok ro,i1,i2⟩
      rw [frz_dd hn hs hg s0 g0 (x:=.tuple (ds.map ddD)) rfl]
      generalize (scn s ds).map tupI = R at lr ⊢
      generalize ds.map ddD = X at lr ⊢
      generalize tupI s = S at lr ⊢
      generalize tupI g = Gl
      simp! [lr]
    | bad _ b p hp h1 h2 =>
      have i1:=iw_bad hn hs s0 hg g0 (h1 t)
      have i2:=ll_bad hn (goal:=g) (h2 t)
      have ro:=(e_rowson hn (t:=t) (W:=W) hs s0).2 _ _ (h1 t)
      refine ⟨.tuple [.str (wW b),.int p],.d (.tuple [.str (wW b),.int p]),.un,.tuple [.str (wW b),.int p],false,?_,h2 t,fun a8=>?_,.inl rfl,?_,i1,i2⟩
      · refine sh_more (sh_tuple (m:=0) (k:=1001) (n:=20000) (fun x hx=>by
          rcases List.mem_cons.mp hx with rfl | hx
          · cases b <;> exact sh_more (sh_strk (k:=100) (by decide +kernel)) (by decide) (by decide)
          · rw [List.mem_singleton.mp hx]; exact sh_int_small (by omega)) (by show (1001 + 2) * 2 + 5 ≤ 20000; decide)) (by decide) (by decide)
      · rw [frz_dd hn hs hg s0 g0 (x:=W) rfl]
        generalize tupI s = S
        generalize tupI g = Gl
        simp! []
      · cases b with
        | true=>exact ht_way ro
        | false=>exact ht_step ro
  have lk:=like_sh shT (by decide) (by decide) t
  have lb:=like_sh (sh_bool B) (by decide) (by decide) t
  have hh:∀ a8:Sl,mHeard h__law_heard (mCall 3 f_rows_on [] (mCons (mVar 1) (mCons (mVar 2) (mCons (mVar 6) (mNil))))) (gWr n (tupI s) W0 (tupI g) a5 (.d W) (.d E7) a8 a9 a10 a11) t = .ok (.d T) t:=fun a8=>hd_mh (f:=fun t'=>f_rows_on [.d (.int (n:Int)),.d (tupI s),.d W] t') (fun t'=>rfl) qh
  have c1:sIf (mNotB (mTru (mCall 2 f__law_like [] (mCons (mHeard h__law_heard (mCall 3 f_rows_on [] (mCons (mVar 1) (mCons (mVar 2) (mCons (mVar 6) (mNil)))))) (mCons (mVar 8) (mNil)))))) (sSeq (sRet (mC (.bool false))) (sSkip)) (sSkip) (gWr n (tupI s) W0 (tupI g) a5 (.d W) (.d E7) (.d T) a9 a10 a11) t = .nx (gWr n (tupI s) W0 (tupI g) a5 (.d W) (.d E7) (.d T) a9 a10 a11) t:=by
    have hh:=hh (.d T)
    rw [if_no (t1:=t)]
    · rfl
    · have cc:=cons_d (m:=mHeard h__law_heard (mCall 3 f_rows_on [] (mCons (mVar 1) (mCons (mVar 2) (mCons (mVar 6) (mNil)))))) (ms:=mCons (mVar 8) mNil) (rs:=[.d T]) hh rfl
      have c:mCall 2 f__law_like [] (mCons (mHeard h__law_heard (mCall 3 f_rows_on [] (mCons (mVar 1) (mCons (mVar 2) (mCons (mVar 6) (mNil)))))) (mCons (mVar 8) (mNil))) (gWr n (tupI s) W0 (tupI g) a5 (.d W) (.d E7) (.d T) a9 a10 a11) t = .ok (.d (.bool true)) t:=by
        simp only [mCall,cc,Rs.bind]
        exact lk
      simp only [mNotB,mTru,c,Rs.fz,Rv.fz,Rs.bind,Rv.truth,Rs.of]
      rfl
  refine ⟨.d E7,.d T,?_⟩
  rw [seq_nx (G1:=gWr n (tupI s) W0 (tupI g) a5 (.d W) a7 a8 a9 a10 a11) (t1:=t) (set_dX hE (by simp))]
  rw [seq_nx (t:=t) (G1:=gWr n (tupI s) W0 (tupI g) a5 (.d W) (.d E7) a8 a9 a10 a11) (t1:=t) (by
    rw [frz_dd hn hs hg s0 g0 (x:=W) rfl]
    generalize tupI s = S at q7 ⊢
    generalize tupI g = Gl
    simp! [q7])]
  rw [seq_nx (t:=t) (q8 a8)]
  rw [seq_nx (t:=t) (G1:=gWr n (tupI s) W0 (tupI g) a5 (.d W) (.d E7) (.d T) a9 a10 a11) (t1:=t) (by
    rcases q8' with rfl | ⟨xs,rfl,rfl⟩
    · rw [frz_dd hn hs hg s0 g0 (x:=T) rfl,frz_dd hn hs hg s0 g0 (x:=W) rfl]
      exact c1
    · show sFrz 6 _ (gWr n (tupI s) W0 (tupI g) a5 (.d W) (.d E7) (.d (.list xs)) a9 a10 a11) t = _
      rw [frz_dd hn hs hg s0 g0 (x:=W) rfl]
      exact c1)]
  rw [seq_nx (t:=t) (G1:=gWr n (tupI s) W0 (tupI g) a5 (.d W) (.d E7) (.d T) a9 a10 a11) (t1:=t) (by
    rw [frz_dd hn hs hg s0 g0 (x:=W) rfl]
    generalize tupI s = S at qw ql ⊢
    generalize tupI g = Gl at qw ql ⊢
    simp! [qw,ql,lb])]
  rfl
end
section
variable {n:Nat} (hn:n = 2 ∨ n = 3 ∨ n = 4 ∨ n = 5) {s:List Int} (hs:s.length = n) (s0:∀ x ∈ s,0 ≤ x ∧ x ≤ 24)
include hn hs s0
theorem turns {ds:List Dd} {g:List Int} (hg:g.length = n) (g0:∀ x ∈ g,0 ≤ x ∧ x ≤ 24) (hd:∀ d ∈ ds,dOk n d) (hc:canAll s ds) (hl:ds.length ≤ 20) {k:Nat} {t:Option DS} (hJ:J k t) (hk:k ≤ 600000) {a9 a10 a11:Sl} :
    ∃ (t':Option DS) (b5 b6 b7 b8:Sl),loop (.nm 5) L__law_ways_right_1 (rangeD 0 4) (gWr n (tupI s) (.tuple (ds.map ddD)) (tupI g) .un .un .un .un a9 a10 a11) t = .nx (gWr n (tupI s) (.tuple (ds.map ddD)) (tupI g) b5 b6 b7 b8 a9 a10 a11) t' ∧ J (k + 24) t':=by
  obtain ⟨G',t',e,hj,b5,b6,b7,b8,hG⟩:=rng_loop (pt:=.nm 5) (body:=L__law_ways_right_1) (n:=4) (I:=fun i G t=>J (k + 6 * i) t ∧ ∃ a5 a6 a7 a8:Sl,G = gWr n (tupI s) (.tuple (ds.map ddD)) (tupI g) a5 a6 a7 a8 a9 a10 a11) (fun i G t hi hI=>by
    obtain ⟨hj,a5,a6,a7,a8,rfl⟩:=hI
    have key:∃ (W:D) (t1:Option DS),mIf (mCmpB fEq (mVar 5) (mC (.int 0))) (mVar 3) (mCall 3 f__law_bent_way [] (mCons (mVar 0) (mCons (mVar 1) (mCons (mVar 3) (mNil))))) (gWr n (tupI s) (.tuple (ds.map ddD)) (tupI g) (.d (.int (i:Int))) a6 a7 a8 a9 a10 a11) t = .ok (.d W) t1 ∧ J (k + 6 * (i + 1)) t1 ∧ WRes n s W:=by
      by_cases q:(i:Int) = 0
      · refine ⟨.tuple (ds.map ddD),t,?_,hj.more (by omega),.ok ds hd hc (by omega)⟩
        generalize ds.map ddD = X
        generalize tupI s = S
        generalize tupI g = Gl
        simp! [q]
      · obtain ⟨W,t1,e1,j1,w⟩:=e_bent hn hs hd hl hj (by omega)
        refine ⟨W,t1,?_,j1.more (by omega),w⟩
        generalize ds.map ddD = X at e1 ⊢
        generalize tupI s = S
        generalize tupI g = Gl
        simp! [q,e1]
    obtain ⟨W,t1,e1,j1,w⟩:=key
    obtain ⟨b7,b8,e2⟩:=turn_tail hn hs hg s0 g0 (t:=t1) (W0:=.tuple (ds.map ddD)) w e1 rfl
    exact ⟨gWr n (tupI s) (.tuple (ds.map ddD)) (tupI g) (.d (.int (i:Int))) a6 a7 a8 a9 a10 a11,_,t1,rfl,e2,j1,_,_,_,_,rfl⟩) (G:=gWr n (tupI s) (.tuple (ds.map ddD)) (tupI g) .un .un .un .un a9 a10 a11) (t:=t) ⟨hJ,_,_,_,_,rfl⟩
  subst hG
  exact ⟨t',b5,b6,b7,b8,e,hj⟩
/-- odd ways -/
theorem odd_ways {ds:List Dd} (hd:∀ d ∈ ds,dOk n d) (hl:ds.length ≤ 20):∀ x ∈ [PyData.none,.list (ds.map ddD),.str "",.int 5,.tuple [.none],.tuple (ds.map ddD ++ [.tuple [.str "transfer",.int 0]]),.tuple (List.replicate 61 (.tuple [.str "exchange",.int 0,.int 1])),.dict []],∀ t,∃ p,f_need_way [.d (.int (n:Int)),.d (tupI s),.d x] t = .ex (wE true) [("place",p)] t:=fun x hx t=>by
  rcases List.mem_cons.mp hx with rfl | hx
  · exact ⟨_,e_wayT rfl⟩
  rcases List.mem_cons.mp hx with rfl | hx
  · exact ⟨_,e_wayT rfl⟩
  rcases List.mem_cons.mp hx with rfl | hx
  · exact ⟨_,e_wayT rfl⟩
  rcases List.mem_cons.mp hx with rfl | hx
  · exact ⟨_,e_wayT rfl⟩
  rcases List.mem_cons.mp hx with rfl | hx
  · have:=e_wayOdd (n:=n) (t:=t) (st:=tupI s) (ds:=[]) (x:=.none) (rest:=[]) (fun d h=>(by cases h)) (oddK_no (t:=t) (by omega) .none (by unfold oddK; exact List.mem_cons_self)).1 (by decide)
    exact ⟨_,this⟩
  rcases List.mem_cons.mp hx with rfl | hx
  · have:=e_wayOdd (n:=n) (t:=t) (st:=tupI s) (ds:=ds) (x:=.tuple [.str "transfer",.int 0]) (rest:=[]) hd (oddK_no (t:=t) (by omega) _ (by unfold oddK; exact List.mem_cons_of_mem _ List.mem_cons_self)).1 (by rw [List.length_nil]; omega)
    exact ⟨_,this⟩
  rcases List.mem_cons.mp hx with rfl | hx
  · exact ⟨_,e_way60 (by rw [List.length_replicate]; decide)⟩
  rw [List.mem_singleton.mp hx]
  exact ⟨_,e_wayT rfl⟩
theorem M_wr {g:List Int} (hg:g.length = n) (g0:∀ x ∈ g,0 ≤ x ∧ x ≤ 24) {W0:D} {os:List D} (hos:∀ x ∈ os,∀ t,∃ p,f_need_way [.d (.int (n:Int)),.d (tupI s),.d x] t = .ex (wE true) [("place",p)] t) (ol:os.length ≤ 1000) {a5 a6 a7 a8 a10:Sl} {t:Option DS}:M__law_ways_right_0 (gWr n (tupI s) W0 (tupI g) a5 a6 a7 a8 (.d (.tuple os)) a10 .un) t = .ok (.l []) t:=by
  unfold M__law_ways_right_0
  rw [ap_lc1]
  have z:mSeq (mVar 9) (gWr n (tupI s) W0 (tupI g) a5 a6 a7 a8 (.d (.tuple os)) a10 .un) t = .ok os t:=rfl
  rw [z,lc_go,lc_ok (p:=fun _=>false) (f:=fun x=>x)]
  · rw [List.filter_eq_nil_iff.mpr (fun _ _=>Bool.false_ne_true)]
    rfl
  · rw [List.length_nil]; omega
  · intro x hx
    obtain ⟨p,e⟩:=hos x hx t
    have i1:=iw_bad hn hs s0 hg g0 e
    refine ⟨gWr n (tupI s) W0 (tupI g) a5 a6 a7 a8 (.d (.tuple os)) a10 (.d x),rfl,?_,fun h=>(by cases h)⟩
    have q:mCmpB fIsNt (mCall 4 f_is_way [] (mCons (mVar 1) (mCons (mVar 2) (mCons (mVar 4) (mCons (mVar 11) (mNil)))))) (mC (.bool false)) (gWr n (tupI s) W0 (tupI g) a5 a6 a7 a8 (.d (.tuple os)) a10 (.d x)) t = .ok false t:=by
      generalize tupI s = S at i1 ⊢
      generalize tupI g = Gl at i1 ⊢
      simp! [i1]
    simp only [cst,q,Rs.nox]
theorem e_ways {k:Nat} {t:Option DS} (hJ:J k t) (hk:k ≤ 500000):∃ t',f__law_ways_right [.s,.d (.int (n:Int)),.d (tupI s)] t = .ok (.d (.bool true)) t' ∧ J (k + 60) t':=by
  obtain ⟨z,t1,e1,j1,z0,z1⟩:=dr (l:=6) hJ (by omega) (by decide) (by decide)
  obtain ⟨m,rfl⟩:∃ m:Nat,z = (m:Int):=⟨z.toNat,by omega⟩
  obtain ⟨ds,t2,len,hd,hc,j2,e2⟩:=e_lway hn hs (m:=m) (by omega) j1 (by omega)
  have hl:ds.length ≤ 20:=by omega
  have lr:=e_lrows (t:=t2) (by omega:n ≤ 5) hs hd (by omega)
  have lx:=ix_scn hn ds s
  have gl:=fold_len n ds s hs
  have gb:=fold_bd ds hs s0 hd hc
  obtain ⟨t3,b5,b6,b7,b8,e3,j3⟩:=turns hn hs s0 gl gb hd hc hl j2 (by omega) (a9:=.un) (a10:=.un) (a11:=.un)
  have gr:=e_goal hn hs gl s0 gb (t:=t3)
  have M:=M_wr hn hs s0 gl gb (W0:=.tuple (ds.map ddD)) (os:=[PyData.none,.list (ds.map ddD),.str "",.int 5,.tuple [.none],.tuple (ds.map ddD ++ [.tuple [.str "transfer",.int 0]]),.tuple (List.replicate 61 (.tuple [.str "exchange",.int 0,.int 1])),.dict []]) (odd_ways hn hs s0 hd hl) (by simp) (a5:=b5) (a6:=b6) (a7:=b7) (a8:=b8) (a10:=.un) (t:=t3)
  refine ⟨t3,?_,j3.more (by omega)⟩
  have at1:fAdd (.d (.tuple (ds.map ddD))) (.d (.tuple [.tuple [.str "transfer",.int 0]])) = some (.d (.tuple (ds.map ddD ++ [.tuple [.str "transfer",.int 0]]))):=by
    rw [add_t,if_pos (by rw [List.length_map]; show _ + 1 ≤ _; omega)]
  rw [u__law_ways_right]
  generalize ds.foldl rbI s = g at lx e3 gr M
  generalize (scn s ds).map tupI = R at lr lx
  generalize ds.map ddD = X at e2 lr e3 M at1
  refine run_rt (G:=[.s,.d (.int (n:Int)),.d (tupI s)]) rfl ?_
  show m__law_ways_right [.s,.d (.int (n:Int)),.d (tupI s),.un,.un,.un,.un,.un,.un,.un,.un,.un] t = _
  have r4:mRange1 (mC (.int 4)) (gWr n (tupI s) (.tuple X) (tupI g) .un .un .un .un .un .un .un) t2 = .ok (rangeD 0 4) t2:=range_ok (n:=4) rfl (by decide)
  unfold m__law_ways_right
  rw [seq_nx (t:=t) (G1:=[.s,.d (.int (n:Int)),.d (tupI s),.d (.tuple X),.un,.un,.un,.un,.un,.un,.un,.un]) (t1:=t2) (by
    generalize tupI s = S at e2 ⊢
    simp! [e1,e2])]
  rw [seq_nx (t:=t2) (G1:=gWr n (tupI s) (.tuple X) (tupI g) .un .un .un .un .un .un .un) (t1:=t2) (by
    generalize tupI s = S at lr ⊢
    generalize tupI g = Gl at lx ⊢
    simp! [lr,lx])]
  rw [seq_nx (t:=t2) (for_nx r4 e3)]
  have os:mTup (mCons (mC .none) (mCons (mCallB fList (mCons (mVar 3) (mNil))) (mCons (mC (.str "")) (mCons (mC (.int 5)) (mCons (mTup (mCons (mC .none) (mNil))) (mCons (mBin fAdd (mVar 3) (mTup (mCons (mTup (mCons (mC (.str "transfer")) (mCons (mC (.int 0)) (mNil)))) (mNil)))) (mCons (mBin fMulT (mTup (mCons (mTup (mCons (mC (.str "exchange")) (mCons (mC (.int 0)) (mCons (mC (.int 1)) (mNil))))) (mNil))) (mC (.int 61))) (mCons (mDct) (mNil))))))))) (gWr n (tupI s) (.tuple X) (tupI g) b5 b6 b7 b8 .un .un .un) t3 = .ok (.d (.tuple [PyData.none,.list X,.str "",.int 5,.tuple [.none],.tuple (X ++ [.tuple [.str "transfer",.int 0]]),.tuple (List.replicate 61 (.tuple [.str "exchange",.int 0,.int 1])),.dict []])) t3:=by
    have dc:∀ G:Gm,mDct G t3 = .ok (.d (.dict [])) t3:=fun _=>rfl
    have m6:=m61 hn (x:=.tuple [.str "exchange",.int 0,.int 1])
    generalize List.replicate 61 (PyData.tuple [.str "exchange",.int 0,.int 1]) = Y at m6 ⊢
    generalize X ++ [PyData.tuple [.str "transfer",.int 0]] = Z at at1 ⊢
    generalize tupI s = S
    generalize tupI g = Gl
    simp! [at1,m6,dc]
    rfl
  rw [seq_nx (t:=t3) (set_dX os (by simp))]
  show sSeq _ _ (gWr n (tupI s) (.tuple X) (tupI g) b5 b6 b7 b8 (.d (.tuple [PyData.none,.list X,.str "",.int 5,.tuple [.none],.tuple (X ++ [.tuple [.str "transfer",.int 0]]),.tuple (List.replicate 61 (.tuple [.str "exchange",.int 0,.int 1])),.dict []])) .un .un) t3 = _
  rw [seq_nx (t:=t3) (set_lX M (by simp))]
  generalize (PyData.tuple [PyData.none,.list X,.str "",.int 5,.tuple [.none],.tuple (X ++ [.tuple [.str "transfer",.int 0]]),.tuple (List.replicate 61 (.tuple [.str "exchange",.int 0,.int 1])),.dict []]) = OO
  have q0:fEq (.b []) (.d (.list [])) = some (.d (.bool true)):=rfl
  show sSeq _ _ (gWr n (tupI s) (.tuple X) (tupI g) b5 b6 b7 b8 (.d OO) (.l []) .un) t3 = _
  generalize tupI s = S at gr ⊢
  generalize tupI g = Gl at gr ⊢
  simp! [q0,gr]
end
theorem set_bd {row:List Int} {i:Nat} {a:Int} (h:∀ x ∈ row,0 ≤ x ∧ x ≤ 24) (ha:0 ≤ a ∧ a ≤ 24):∀ x ∈ row.set i a,0 ≤ x ∧ x ≤ 24:=fun x hx=>by
  rcases List.mem_or_eq_of_mem_set hx with hx | rfl
  · exact h x hx
  · exact ha
section
variable {n:Nat} (hn:n = 2 ∨ n = 3 ∨ n = 4 ∨ n = 5)
include hn
theorem lc_dr {elt:EM} {G0:Gm} {B:Int} (hB:B ≤ 24) (hlen:7 = G0.length) (h1:G0[1]? = some (.d (.int (n:Int)))) {k:Nat} {t:Option DS} (hJ:J k t) (hk:k ≤ 800000) (he:∀ (x:D) (k:Nat) (t:Option DS),k < 900000 → J k t → ∃ z t1,elt (G0.set 6 (.d x)) t = .ok (.d (.int z)) t1 ∧ (0 ≤ z ∧ z ≤ B) ∧ J (k + 1) t1) (e6:G0.set 6 .un = G0) :
    ∃ (row:List Int) (t':Option DS),mCallB fTuple (mCons (mLc (mRange1 (mVar 1)) (.nm 6) none elt [6]) (mNil)) G0 t = .ok (.d (tupI row)) t' ∧ J (k + n) t' ∧ row.length = n ∧ ∀ x ∈ row,0 ≤ x ∧ x ≤ 24:=by
  obtain ⟨zs,t',e,zl,zv,j⟩:=lc_st (pt:=.nm 6) (elt:=elt) (G0:=G0) (J:=J) (V:=fun z=>0 ≤ z ∧ z ≤ B) (N:=900000) (items:=rangeD 0 n) (acc:=[]) (by rw [rangeD_len,List.length_nil]; omega) (by rw [rangeD_len]; omega) hJ (fun x _=>⟨G0.set 6 (.d x),by show (if 6 < G0.length then some (G0.set 6 (.d x)) else none) = _; rw [if_pos (by omega)],fun k t hk hJ=>he x k t hk hJ⟩)
  rw [rangeD_len] at zl j
  have z:mRange1 (mVar 1) G0 t = .ok (rangeD 0 n) t:=range_ok (var_d h1) (by omega)
  have m:mLc (mRange1 (mVar 1)) (.nm 6) none elt [6] G0 t = .ok (.l (zs.map .int)) t':=by
    rw [ap_lc1,z,lc_go,e6]
    exact e
  refine ⟨zs,t',?_,j,zl,fun x hx=>by have:=zv x hx; omega⟩
  simp! [m]
  rfl
theorem e_row {k:Nat} {t:Option DS} (hJ:J k t) (hk:k ≤ 700000):∃ (row:List Int) (t':Option DS),f__law_row [.s,.d (.int (n:Int))] t = .ok (.d (tupI row)) t' ∧ J (k + 10) t' ∧ row.length = n ∧ ∀ x ∈ row,0 ≤ x ∧ x ≤ 24:=by
  obtain ⟨p,t1,e1,j1,p0,p1⟩:=dr (l:=5) hJ (by omega) (by decide) (by decide)
  rw [u__law_row]
  by_cases q0:p = 0
  · subst q0
    obtain ⟨row,t',e,j,rl,rb⟩:=lc_dr hn (B:=24) (elt:=mCall 2 f__law_draw [] (mCons (mVar 0) (mCons (mC (.int 25)) (mNil)))) (G0:=[.s,.d (.int (n:Int)),.d (.int 0),.un,.un,.un,.un]) (by decide) rfl rfl j1 (by omega) (fun x k t hk hJ=>by
      obtain ⟨z,t1,e,j,a,b⟩:=dr (l:=25) hJ (by omega) (by decide) (by decide)
      exact ⟨z,t1,by simp! [e],by omega,j⟩) rfl
    refine ⟨row,t',?_,j.more (by omega),rl,rb⟩
    refine run_rt (G:=[.s,.d (.int (n:Int))]) rfl ?_
    show m__law_row [.s,.d (.int (n:Int)),.un,.un,.un,.un,.un] t = _
    unfold m__law_row
    rw [seq_nx (t:=t) (G1:=[.s,.d (.int (n:Int)),.d (.int 0),.un,.un,.un,.un]) (t1:=t1) (by simp! [e1])]
    rw [seq_rt (t:=t1) (x:=tupI row) (t1:=t') (by
      rw [if_yes (t1:=t1) (by simp! [])]
      exact ret_ok e)]
  · obtain ⟨top,htop,hm⟩:∃ top:Nat,(1 ≤ top ∧ top ≤ 24) ∧ mIf (mCmpB fEq (mVar 2) (mC (.int 1))) (mC (.int 24)) (mIf (mCmpB (fCm iLt) (mVar 2) (mC (.int 4))) (mC (.int 3)) (mC (.int 6))) [.s,.d (.int (n:Int)),.d (.int p),.un,.un,.un,.un] t1 = .ok (.d (.int (top:Int))) t1 ∧ (p = 1 → top = 24):=by
      by_cases q1:p = 1
      · subst q1
        exact ⟨24,by decide,by simp! []; rfl,fun _=>rfl⟩
      · by_cases q4:p < 4
        · exact ⟨3,by decide,by simp! [q1,q4]; rfl,fun z=>absurd z q1⟩
        · exact ⟨6,by decide,by simp! [q1,q4]; rfl,fun z=>absurd z q1⟩
    obtain ⟨hm,_⟩:=hm
    obtain ⟨o,t2,e2,j2,o0,o1⟩:=dr (l:=(top:Int) + 1) j1 (by omega) (by omega) (by omega)
    obtain ⟨f,t3,e3,j3,f0,f1⟩:=dr (l:=(top:Int) + 1) j2 (by omega) (by omega) (by omega)
    have st:∀ {W:D} {t4:Option DS},(sSeq (sIf (mCmpB fEq (mVar 2) (mC (.int 1))) (sSeq (sRet (mCallB fTuple (mCons (M__law_row_1) (mNil)))) (sSkip)) (sSkip)) (sSeq (sRet (mCallB fTuple (mCons (M__law_row_0) (mNil)))) (sSkip)) [.s,.d (.int (n:Int)),.d (.int p),.d (.int (top:Int)),.d (.int o),.d (.int f),.un] t3 = .rt W t4) → runM m__law_row 7 [.s,.d (.int (n:Int))] t = .ok (.d W) t4:=fun {W t4} h=>by
      refine run_rt (G:=[.s,.d (.int (n:Int))]) rfl ?_
      show m__law_row [.s,.d (.int (n:Int)),.un,.un,.un,.un,.un] t = _
      unfold m__law_row
      rw [seq_nx (t:=t) (G1:=[.s,.d (.int (n:Int)),.d (.int p),.un,.un,.un,.un]) (t1:=t1) (by simp! [e1])]
      rw [sif_no (t:=t1) (t1:=t1) (by simp! [q0])]
      rw [seq_nx (t:=t1) (set_dX hm (by simp))]
      rw [seq_nx (t:=t1) (G1:=[.s,.d (.int (n:Int)),.d (.int p),.d (.int (top:Int)),.d (.int o),.d (.int f),.un]) (t1:=t3) (by simp! [e2,e3])]
      exact h
    by_cases q1:p = 1
    · subst q1
      obtain ⟨row,t',e,j,rl,rb⟩:=lc_dr hn (B:=24) (elt:=mBin fIx (mLst (mCons (mVar 4) (mCons (mVar 5) (mNil)))) (mCall 2 f__law_draw [] (mCons (mVar 0) (mCons (mC (.int 2)) (mNil))))) (G0:=[.s,.d (.int (n:Int)),.d (.int 1),.d (.int (top:Int)),.d (.int o),.d (.int f),.un]) (by decide) rfl rfl j3 (by omega) (fun x k t hk hJ=>by
        obtain ⟨z,t1,e,j,a,b⟩:=dr (l:=2) hJ (by omega) (by decide) (by decide)
        have:z = 0 ∨ z = 1:=by omega
        rcases this with rfl | rfl
        · exact ⟨o,t1,by simp! [e],by omega,j⟩
        · exact ⟨f,t1,by simp! [e],by omega,j⟩) rfl
      refine ⟨row,t',st ?_,j.more (by omega),rl,rb⟩
      rw [seq_rt (t:=t3) (x:=tupI row) (t1:=t') (by
        rw [if_yes (t1:=t3) (by simp! [])]
        exact ret_ok e)]
    · obtain ⟨row,t',e,j,rl,rb⟩:=lc_dr hn (B:=24) (elt:=mCall 2 f__law_draw [] (mCons (mVar 0) (mCons (mVar 3) (mNil)))) (G0:=[.s,.d (.int (n:Int)),.d (.int p),.d (.int (top:Int)),.d (.int o),.d (.int f),.un]) (by decide) rfl rfl j3 (by omega) (fun x k t hk hJ=>by
        obtain ⟨z,t1,e,j,a,b⟩:=dr (l:=(top:Int)) hJ (by omega) (by omega) (by omega)
        exact ⟨z,t1,by simp! [e],by omega,j⟩) rfl
      refine ⟨row,t',st ?_,j.more (by omega),rl,rb⟩
      rw [sif_no (t:=t3) (t1:=t3) (by simp! [q1])]
      exact ret_ok e
end
abbrev gNr (n:Nat) (S:D) (row:List Int) (a4 a5 a6:Sl):Gm:=[.s,.d (.int (n:Int)),.d S,.l (row.map .int),a4,a5,a6]
section
variable {n:Nat} (hn:n = 2 ∨ n = 3 ∨ n = 4 ∨ n = 5)
include hn
theorem nr_step {S:D} {row:List Int} (hr:row.length = n) (r0:∀ x ∈ row,0 ≤ x ∧ x ≤ 24) {k:Nat} {t:Option DS} (hJ:J k t) (hk:k ≤ 800000) {a4 a5 a6:Sl}:∃ (row2:List Int) (t':Option DS) (b5 b6:Sl),L__law_near_row_0 (gNr n S row a4 a5 a6) t = .nx (gNr n S row2 a4 b5 b6) t' ∧ J (k + 3) t' ∧ row2.length = n ∧ ∀ x ∈ row2,0 ≤ x ∧ x ≤ 24:=by
  obtain ⟨i,j,t1,e1,j1,hi,hj,ne⟩:=e_twoN hn hJ (by omega)
  obtain ⟨p,t2,e2,j2,p0,p1⟩:=dr (l:=4) j1 (by omega) (by decide) (by decide)
  have x1:=ix_rowB (row:=row) (i:=i) (by omega)
  have x2:=ix_rowB (row:=row) (i:=j) (by omega)
  have m1:=mem_get r0 (k:=i) (by omega)
  have m2:=mem_get r0 (k:=j) (by omega)
  unfold L__law_near_row_0
  by_cases q:p = 0
  · subst q
    refine ⟨exI row i j,t2,.d (.int (i:Int)),.d (.int (j:Int)),?_,j2.more (by omega),by unfold exI; rw [List.length_set,List.length_set,hr],set_bd (set_bd r0 m2) m1⟩
    rw [seq_nx (t:=t) (G1:=gNr n S row a4 (.d (.int (i:Int))) (.d (.int (j:Int)))) (t1:=t1) (by simp! [e1])]
    rw [seq_nx (t:=t1) (G1:=gNr n S (exI row i j) a4 (.d (.int (i:Int))) (.d (.int (j:Int)))) (t1:=t2) ?_]
    · rfl
    rw [if_yes (t1:=t2) (by simp! [e2])]
    have p1:mTup (mCons (mBin fIx (mVar 3) (mVar 6)) (mCons (mBin fIx (mVar 3) (mVar 5)) (mNil))) (gNr n S row a4 (.d (.int (i:Int))) (.d (.int (j:Int)))) t2 = .ok (.d (.tuple [.int (row.getD j 0),.int (row.getD i 0)])) t2:=by simp! [x1,x2]
    have q1:=putAt_row (t:=t2) (G:=gNr n S row a4 (.d (.int (i:Int))) (.d (.int (j:Int)))) (p:=3) (mi:=mVar 5) (i:=i) (x:=row.getD j 0) rfl (by simp! []) (by omega)
    have q2:=putAt_row (t:=t2) (G:=gNr n S (row.set i (row.getD j 0)) a4 (.d (.int (i:Int))) (.d (.int (j:Int)))) (p:=3) (mi:=mVar 6) (i:=j) (x:=row.getD i 0) rfl (by simp! []) (by rw [List.length_set]; omega)
    have sw:sSwp 3 (mTup (mCons (mBin fIx (mVar 3) (mVar 6)) (mCons (mBin fIx (mVar 3) (mVar 5)) (mNil)))) (mVar 5) (mVar 6) (gNr n S row a4 (.d (.int (i:Int))) (.d (.int (j:Int)))) t2 = .nx (gNr n S (exI row i j) a4 (.d (.int (i:Int))) (.d (.int (j:Int)))) t2:=by
      unfold sSwp
      rw [p1]
      show So.nxt (DL.putAt 3 (mVar 5) (.int (row.getD j 0)) _ t2) _ = _
      rw [q1]
      exact q2
    rw [seq_nx sw]
    rfl
  · by_cases c:0 < row.getD i 0 ∧ row.getD j 0 < 24
    · refine ⟨mvI row i j,t2,.d (.int (i:Int)),.d (.int (j:Int)),?_,j2.more (by omega),by rw [mvI_len,hr],set_bd (set_bd r0 (by omega)) (by omega)⟩
      rw [seq_nx (t:=t) (G1:=gNr n S row a4 (.d (.int (i:Int))) (.d (.int (j:Int)))) (t1:=t1) (by simp! [e1])]
      rw [seq_nx (t:=t1) (G1:=gNr n S (mvI row i j) a4 (.d (.int (i:Int))) (.d (.int (j:Int)))) (t1:=t2) ?_]
      · rfl
      rw [if_no (t1:=t2) (by simp! [e2,q])]
      have y2:=ix_rowB (row:=row.set i (row.getD i 0 - 1)) (i:=j) (by rw [List.length_set]; omega)
      rw [getD_set_ne ne] at y2
      rw [seq_nx (t:=t2) (G1:=gNr n S (mvI row i j) a4 (.d (.int (i:Int))) (.d (.int (j:Int)))) (t1:=t2) ?_]
      · rfl
      rw [if_yes (t1:=t2) (by simp! [x1,x2,c.1,c.2])]
      rw [seq_nx (t:=t2) (put_row (t:=t2) (row:=row) (i:=i) (x:=row.getD i 0 - 1) (by simp! [x1]) (by rfl) (by simp! []) (by omega))]
      show sSeq _ sSkip (gNr n S (row.set i (row.getD i 0 - 1)) a4 (.d (.int (i:Int))) (.d (.int (j:Int)))) t2 = _
      rw [seq_nx (t:=t2) (put_row (t:=t2) (p:=3) (G:=gNr n S (row.set i (row.getD i 0 - 1)) a4 (.d (.int (i:Int))) (.d (.int (j:Int)))) (row:=row.set i (row.getD i 0 - 1)) (i:=j) (x:=row.getD j 0 + 1) (by simp! [y2]) (by rfl) (by simp! []) (by rw [List.length_set]; omega))]
      rfl
    · refine ⟨row,t2,.d (.int (i:Int)),.d (.int (j:Int)),?_,j2.more (by omega),hr,r0⟩
      rw [seq_nx (t:=t) (G1:=gNr n S row a4 (.d (.int (i:Int))) (.d (.int (j:Int)))) (t1:=t1) (by simp! [e1])]
      rw [seq_nx (t:=t1) (G1:=gNr n S row a4 (.d (.int (i:Int))) (.d (.int (j:Int)))) (t1:=t2) ?_]
      · rfl
      rw [if_no (t1:=t2) (by simp! [e2,q])]
      rw [sif_no (t:=t2) (t1:=t2) (by
        by_cases c1:0 < row.getD i 0
        · have c2:¬ row.getD j 0 < 24:=fun z=>c ⟨c1,z⟩
          simp! [x1,x2,c1,c2]
        · simp! [x1,c1])]
      rfl
theorem e_near {s:List Int} (hs:s.length = n) (s0:∀ x ∈ s,0 ≤ x ∧ x ≤ 24) {k:Nat} {t:Option DS} (hJ:J k t) (hk:k ≤ 700000):∃ (row:List Int) (t':Option DS),f__law_near_row [.s,.d (.int (n:Int)),.d (tupI s)] t = .ok (.d (tupI row)) t' ∧ J (k + 20) t' ∧ row.length = n ∧ ∀ x ∈ row,0 ≤ x ∧ x ≤ 24:=by
  obtain ⟨p,t1,e1,j1,p0,p1⟩:=dr (l:=4) hJ (by omega) (by decide) (by decide)
  obtain ⟨m,hm⟩:∃ m:Nat,1 + p = (m:Int):=⟨(1 + p).toNat,by omega⟩
  obtain ⟨G',t2,e2,j2,row,a4,a5,a6,rfl,hr,r0⟩:=rng_loop (pt:=.nm 4) (body:=L__law_near_row_0) (n:=m) (I:=fun i G t=>J (k + 1 + 3 * i) t ∧ ∃ (row:List Int) (a4 a5 a6:Sl),G = gNr n (tupI s) row a4 a5 a6 ∧ row.length = n ∧ ∀ x ∈ row,0 ≤ x ∧ x ≤ 24) (fun i G t hi hI=>by
    obtain ⟨hj,row,a4,a5,a6,rfl,hr,r0⟩:=hI
    obtain ⟨row2,t',b5,b6,e,j,rl,rb⟩:=nr_step hn (S:=tupI s) hr r0 hj (by omega) (a4:=.d (.int (i:Int))) (a5:=a5) (a6:=a6)
    exact ⟨gNr n (tupI s) row (.d (.int (i:Int))) a5 a6,_,t',rfl,e,j.more (by omega),row2,_,_,_,rfl,rl,rb⟩) (G:=gNr n (tupI s) s .un .un .un) (t:=t1) ⟨j1,s,_,_,_,rfl,hs,s0⟩
  obtain ⟨q,t3,e3,j3,q0,q1⟩:=dr (l:=8) j2 (by omega) (by decide) (by decide)
  have x0:=ix_rowB (row:=row) (i:=0) (by omega)
  have x0:fIx (.b (row.map .int)) (.d (.int 0)) = some (.d (.int (row.getD 0 0))):=x0
  have m0:=mem_get r0 (k:=0) (by omega)
  have r1:rngOk (m:Int) = true:=rng_nat _ (by omega)
  have st:∀ {W:D} {t4:Option DS},(sSeq (sIf (mAndB (mCmpB fEq (mCall 2 f__law_draw [] (mCons (mVar 0) (mCons (mC (.int 8)) (mNil)))) (mC (.int 0))) (mCmpB (fCm iLt) (mBin fIx (mVar 3) (mC (.int 0))) (mC (.int 24)))) (sSeq (sPut 3 (mC (.int 0)) (mBin fAdd (mBin fIx (mVar 3) (mC (.int 0))) (mC (.int 1)))) (sSkip)) (sSkip)) (sSeq (sRet (mCallB fTuple (mCons (mVar 3) (mNil)))) (sSkip)) (gNr n (tupI s) row a4 a5 a6) t2 = .rt W t4) → f__law_near_row [.s,.d (.int (n:Int)),.d (tupI s)] t = .ok (.d W) t4:=fun {W t4} h=>by
    rw [u__law_near_row]
    refine run_rt (G:=[.s,.d (.int (n:Int)),.d (tupI s)]) rfl ?_
    show m__law_near_row [.s,.d (.int (n:Int)),.d (tupI s),.un,.un,.un,.un] t = _
    unfold m__law_near_row
    rw [seq_nx (t:=t) (G1:=gNr n (tupI s) s .un .un .un) (t1:=t) (by
      show sSet 3 (mCallB fList (mCons (mVar 2) (mNil))) [.s,.d (.int (n:Int)),.d (.tuple (s.map .int)),.un,.un,.un,.un] t = .nx [.s,.d (.int (n:Int)),.d (.tuple (s.map .int)),.l (s.map .int),.un,.un,.un] t
      simp! [])]
    have z:mRange1 (mBin fAdd (mC (.int 1)) (mCall 2 f__law_draw [] (mCons (mVar 0) (mCons (mC (.int 4)) (mNil))))) (gNr n (tupI s) s .un .un .un) t = .ok (rangeD 0 m) t1:=by
      simp! [e1,hm,r1,Int.toNat_natCast]
    rw [seq_nx (t:=t) (for_nx z e2)]
    exact h
  by_cases c:q = 0 ∧ row.getD 0 0 < 24
  · refine ⟨row.set 0 (row.getD 0 0 + 1),t3,st ?_,j3.more (by omega),by rw [List.length_set,hr],set_bd r0 (by omega)⟩
    obtain ⟨c1,c2⟩:=c
    subst c1
    rw [seq_nx (t:=t2) (G1:=gNr n (tupI s) (row.set 0 (row.getD 0 0 + 1)) a4 a5 a6) (t1:=t3) ?_]
    · simp! []
      rfl
    rw [if_yes (t1:=t3) (by simp! [e3,x0,c2])]
    rw [seq_nx (t:=t3) (put_row (t:=t3) (row:=row) (i:=0) (x:=row.getD 0 0 + 1) (by simp! [x0]) (by rfl) (by rfl) (by omega))]
    rfl
  · refine ⟨row,t3,st ?_,j3.more (by omega),hr,r0⟩
    rw [sif_no (t:=t2) (t1:=t3) (by
      by_cases c1:q = 0
      · have c2:¬ row.getD 0 0 < 24:=fun z=>c ⟨c1,z⟩
        subst c1
        simp! [e3,x0,c2]
      · simp! [e3,c1])]
    simp! []
    rfl
end
section
variable {n:Nat} (hn:n = 2 ∨ n = 3 ∨ n = 4 ∨ n = 5)
include hn
theorem nc_ex {x:D} {t:Option DS} (h:f_is_content [.d (.int (n:Int)),.d x] t = .ok (.d (.bool false)) t):f_need_content [.d (.int (n:Int)),.d x] t = .ex "BadContent" [("value",x)] t:=by
  rw [u_need_content]
  simp! [m_need_content,h]
theorem nc_T {x:D} {t:Option DS} (h:isT "tuple" x = false):f_need_content [.d (.int (n:Int)),.d x] t = .ex "BadContent" [("value",x)] t:=by
  have e1:f_need_many [.d (.int (n:Int))] t = .ok (.d (.int (n:Int))) t:=e_many (n:Int) (by omega) t
  refine nc_ex hn ?_
  rw [u_is_content]
  simp! [m_is_content,e1,h]
theorem nc_len {xs:List D} {t:Option DS} (h:xs.length ≠ n):f_need_content [.d (.int (n:Int)),.d (.tuple xs)] t = .ex "BadContent" [("value",.tuple xs)] t:=by
  have e1:f_need_many [.d (.int (n:Int))] t = .ok (.d (.int (n:Int))) t:=e_many (n:Int) (by omega) t
  have ne:¬ ((xs.length:Nat):Int) = (n:Int):=by omega
  refine nc_ex hn ?_
  rw [u_is_content]
  simp! [m_is_content,e1,ne]
theorem nc_first {y:D} {xs:List D} {t:Option DS} (hl:xs.length + 1 = n) (h:fromD y 0 24 = false):f_need_content [.d (.int (n:Int)),.d (.tuple (y :: xs))] t = .ex "BadContent" [("value",.tuple (y :: xs))] t:=by
  have e1:f_need_many [.d (.int (n:Int))] t = .ok (.d (.int (n:Int))) t:=e_many (n:Int) (by omega) t
  have e2:=e_fromD y 0 24 t
  rw [h] at e2
  have ne:(((xs.length + 1:Nat)):Int) = (n:Int):=by omega
  have l:loop (.nm 2) L_is_content_0 (y :: xs) [.d (.int (n:Int)),.d (.tuple (y :: xs)),.un] t = .rt (.bool false) t:=
    loop_rt' (G1:=[.d (.int (n:Int)),.d (.tuple (y :: xs)),.d y]) rfl (by simp! [L_is_content_0,e2])
  refine nc_ex hn ?_
  rw [u_is_content]
  have len:(y :: xs).length = n:=by rw [List.length_cons]; exact hl
  generalize y :: xs = Z at l len
  have ne:((Z.length:Nat):Int) = (n:Int):=by omega
  refine run_rt (G:=[.d (.int (n:Int)),.d (.tuple Z)]) rfl ?_
  show m_is_content [.d (.int (n:Int)),.d (.tuple Z),.un] t = _
  simp! [m_is_content,e1,ne,l]
variable {s:List Int} (hs:s.length = n) (s0:∀ x ∈ s,0 ≤ x ∧ x ≤ 24)
include hs s0
abbrev gRf (n:Nat) (S:D) (a2 a3 a4:Sl):Gm:=[.d (.int (n:Int)),.d S,a2,a3,a4]
theorem rf_step {x:D} {t:Option DS} (h:f_need_content [.d (.int (n:Int)),.d x] t = .ex "BadContent" [("value",x)] t) {A B:List D} (hA:A.length ≤ 100) (hB:B.length ≤ 100):L__law_refused_right_0 (gRf n (tupI s) (.l A) (.l B) (.d x)) t = .nx (gRf n (tupI s) (.l (A ++ List.replicate 7 (.tuple [.str "content",x]))) (.l (B ++ List.replicate 7 (.tuple [.str "content",x]))) (.d x)) t:=by
  have e1:f_need_many [.d (.int (n:Int))] t = .ok (.d (.int (n:Int))) t:=e_many (n:Int) (by omega) t
  have e2:=e_need_row hn (t:=t) hs s0
  generalize tupI s = S at e2 ⊢
  have u1:f_units [.d (.int (n:Int)),.d x,.d .none] t = .ex "BadContent" [("value",x)] t:=by
    rw [u_units]; simp! [m_units,e1,h]
  have u2:f_units [.d (.int (n:Int)),.d S,.d x] t = .ex "BadContent" [("value",x)] t:=by
    rw [u_units]; simp! [m_units,e1,e2,h]
  have w1:f_way_to [.d (.int (n:Int)),.d x,.d .none] t = .ex "BadContent" [("value",x)] t:=by
    rw [u_way_to]; simp! [m_way_to,e1,h]
  have w2:f_way_to [.d (.int (n:Int)),.d S,.d x] t = .ex "BadContent" [("value",x)] t:=by
    rw [u_way_to]; simp! [m_way_to,e1,e2,h]
  have i1:f_is_way [.d (.int (n:Int)),.d x,.d (.int 1),.d (.int 1)] t = .ex "BadContent" [("value",x)] t:=by
    rw [u_is_way]; simp! [m_is_way,e1,h]
  have i2:f_is_way [.d (.int (n:Int)),.d S,.d x,.d (.int 1)] t = .ex "BadContent" [("value",x)] t:=by
    rw [u_is_way]; simp! [m_is_way,e1,e2,h]
  have r1:f_rows_on [.d (.int (n:Int)),.d x,.d .none] t = .ex "BadContent" [("value",x)] t:=by
    rw [u_rows_on]; simp! [m_rows_on,e1,h]
  have H1:∀ a2 a3,mHeard h__law_heard (mCall 3 f_units [] (mCons (mVar 0) (mCons (mVar 4) (mCons (mC .none) (mNil))))) (gRf n S a2 a3 (.d x)) t = .ok (.d (.tuple [.str "content",x])) t:=fun a2 a3=>hd_mh (f:=fun t'=>f_units [.d (.int (n:Int)),.d x,.d .none] t') (fun t'=>rfl) (ht_content u1)
  have H2:∀ a2 a3,mHeard h__law_heard (mCall 3 f_units [] (mCons (mVar 0) (mCons (mVar 1) (mCons (mVar 4) (mNil))))) (gRf n S a2 a3 (.d x)) t = .ok (.d (.tuple [.str "content",x])) t:=fun a2 a3=>hd_mh (f:=fun t'=>f_units [.d (.int (n:Int)),.d S,.d x] t') (fun t'=>rfl) (ht_content u2)
  have H3:∀ a2 a3,mHeard h__law_heard (mCall 3 f_way_to [] (mCons (mVar 0) (mCons (mVar 4) (mCons (mC .none) (mNil))))) (gRf n S a2 a3 (.d x)) t = .ok (.d (.tuple [.str "content",x])) t:=fun a2 a3=>hd_mh (f:=fun t'=>f_way_to [.d (.int (n:Int)),.d x,.d .none] t') (fun t'=>rfl) (ht_content w1)
  have H4:∀ a2 a3,mHeard h__law_heard (mCall 3 f_way_to [] (mCons (mVar 0) (mCons (mVar 1) (mCons (mVar 4) (mNil))))) (gRf n S a2 a3 (.d x)) t = .ok (.d (.tuple [.str "content",x])) t:=fun a2 a3=>hd_mh (f:=fun t'=>f_way_to [.d (.int (n:Int)),.d S,.d x] t') (fun t'=>rfl) (ht_content w2)
  have H5:∀ a2 a3,mHeard h__law_heard (mCall 4 f_is_way [] (mCons (mVar 0) (mCons (mVar 4) (mCons (mC (.int 1)) (mCons (mC (.int 1)) (mNil)))))) (gRf n S a2 a3 (.d x)) t = .ok (.d (.tuple [.str "content",x])) t:=fun a2 a3=>hd_mh (f:=fun t'=>f_is_way [.d (.int (n:Int)),.d x,.d (.int 1),.d (.int 1)] t') (fun t'=>rfl) (ht_content i1)
  have H6:∀ a2 a3,mHeard h__law_heard (mCall 4 f_is_way [] (mCons (mVar 0) (mCons (mVar 1) (mCons (mVar 4) (mCons (mC (.int 1)) (mNil)))))) (gRf n S a2 a3 (.d x)) t = .ok (.d (.tuple [.str "content",x])) t:=fun a2 a3=>hd_mh (f:=fun t'=>f_is_way [.d (.int (n:Int)),.d S,.d x,.d (.int 1)] t') (fun t'=>rfl) (ht_content i2)
  have H7:∀ a2 a3,mHeard h__law_heard (mCall 3 f_rows_on [] (mCons (mVar 0) (mCons (mVar 4) (mCons (mC .none) (mNil))))) (gRf n S a2 a3 (.d x)) t = .ok (.d (.tuple [.str "content",x])) t:=fun a2 a3=>hd_mh (f:=fun t'=>f_rows_on [.d (.int (n:Int)),.d x,.d .none] t') (fun t'=>rfl) (ht_content r1)
  have two:∀ {A:List D} {a3:Sl} {m1 m2:EM} {c:D},A.length ≤ 200 → (∀ a2 a3,m1 (gRf n S a2 a3 (.d x)) t = .ok (.d c) t) → (∀ a2 a3,m2 (gRf n S a2 a3 (.d x)) t = .ok (.d c) t) → sSet 2 (mBin fAdd (mVar 2) (mLst (mCons m1 (mCons m2 (mNil))))) (gRf n S (.l A) a3 (.d x)) t = .nx (gRf n S (.l (A ++ [c,c])) a3 (.d x)) t:=fun {A a3 m1 m2 c} hA h1 h2=>by
    have h1:=h1 (.l A) a3
    have h2:=h2 (.l A) a3
    have lim:A.length + 2 ≤ 16777216:=by omega
    simp! [h1,h2,lim]
  have rp:mRep (mLst (mCons (mTup (mCons (mC (.str "content")) (mCons (mVar 4) (mNil)))) (mNil))) (mC (.int 7)) = fun G t=>mRep (mLst (mCons (mTup (mCons (mC (.str "content")) (mCons (mVar 4) (mNil)))) (mNil))) (mC (.int 7)) G t:=rfl
  have rp:∀ a2 a3,mRep (mLst (mCons (mTup (mCons (mC (.str "content")) (mCons (mVar 4) (mNil)))) (mNil))) (mC (.int 7)) (gRf n S a2 a3 (.d x)) t = .ok (.l (List.replicate 7 (.tuple [.str "content",x]))) t:=fun _ _=>rfl
  generalize (PyData.tuple [.str "content",x]) = c at H1 H2 H3 H4 H5 H6 H7 rp ⊢
  unfold L__law_refused_right_0
  rw [seq_nx (two (A:=A) (by omega) H1 H2)]
  rw [seq_nx (two (A:=A ++ [c,c]) (by rw [List.length_append]; show _ + 2 ≤ _; omega) H3 H4)]
  rw [seq_nx (two (A:=A ++ [c,c] ++ [c,c]) (by rw [List.length_append,List.length_append]; show _ + 2 + 2 ≤ _; omega) H5 H6)]
  rw [seq_nx (t:=t) (G1:=gRf n S (.l (A ++ List.replicate 7 c)) (.l B) (.d x)) (t1:=t) (by
    have H7:=H7 (.l (A ++ [c,c] ++ [c,c] ++ [c,c])) (.l B)
    have e:A ++ List.replicate 7 c = A ++ [c,c] ++ [c,c] ++ [c,c] ++ [c]:=by simp [List.replicate]
    rw [e]
    have lim:(A ++ [c,c] ++ [c,c] ++ [c,c]).length < 16777216:=by rw [List.length_append,List.length_append,List.length_append]; show _ + 2 + 2 + 2 < _; omega
    generalize A ++ [c,c] ++ [c,c] ++ [c,c] = Z at H7 lim ⊢
    simp! [H7,lim])]
  have rp:=rp (.l (A ++ List.replicate 7 c)) (.l B)
  have lim:B.length + (List.replicate 7 c).length ≤ 16777216:=by rw [List.length_replicate]; omega
  generalize List.replicate 7 c = R at rp lim ⊢
  simp! [rp,lim]
theorem rf_loop {t:Option DS}:∀ (os:List D) (A:List D) (a4:Sl),(∀ x ∈ os,f_need_content [.d (.int (n:Int)),.d x] t = .ex "BadContent" [("value",x)] t) → A.length + 7 * os.length ≤ 100 → ∃ b4,loop (.nm 4) L__law_refused_right_0 os (gRf n (tupI s) (.l A) (.l A) a4) t = .nx (gRf n (tupI s) (.l (A ++ os.flatMap fun x=>List.replicate 7 (.tuple [.str "content",x]))) (.l (A ++ os.flatMap fun x=>List.replicate 7 (.tuple [.str "content",x]))) b4) t
  | [],A,a4,_,_=>⟨a4,by rw [List.flatMap_nil,List.append_nil]; rfl⟩
  | x :: os,A,a4,h,hl=>by
    rw [List.length_cons] at hl
    have st:=rf_step hn hs s0 (h x List.mem_cons_self) (A:=A) (B:=A) (by omega) (by omega)
    obtain ⟨b4,e⟩:=rf_loop os (A ++ List.replicate 7 (.tuple [.str "content",x])) (.d x) (fun y hy=>h y (List.mem_cons_of_mem _ hy)) (by rw [List.length_append,List.length_replicate]; omega)
    refine ⟨b4,(loop_nx (G1:=gRf n (tupI s) (.l A) (.l A) (.d x)) rfl st).trans ?_⟩
    rw [e,List.flatMap_cons,List.append_assoc]
end
section
variable {n:Nat} (hn:n = 2 ∨ n = 3 ∨ n = 4 ∨ n = 5) {s:List Int} (hs:s.length = n) (s0:∀ x ∈ s,0 ≤ x ∧ x ≤ 24)
include hn hs s0
def oddR (n:Nat) (s:List Int):List D:=[.list (s.map .int),.tuple (s.map .int ++ [.int 0]),.tuple ((s.map .int).drop 1),.none,.tuple (List.replicate n (.int 25)),.tuple (.int (-1) :: (s.map .int).drop 1),.tuple (.bool true :: (s.map .int).drop 1)]
theorem oddR_no (t:Option DS):∀ x ∈ oddR n s,f_need_content [.d (.int (n:Int)),.d x] t = .ex "BadContent" [("value",x)] t:=fun x hx=>by
  unfold oddR at hx
  rcases List.mem_cons.mp hx with rfl | hx
  · exact nc_T hn rfl
  rcases List.mem_cons.mp hx with rfl | hx
  · exact nc_len hn (by rw [List.length_append,List.length_map]; show _ + 1 ≠ _; omega)
  rcases List.mem_cons.mp hx with rfl | hx
  · exact nc_len hn (by rw [List.length_drop,List.length_map]; omega)
  rcases List.mem_cons.mp hx with rfl | hx
  · exact nc_T hn rfl
  rcases List.mem_cons.mp hx with rfl | hx
  · obtain ⟨m,rfl⟩:∃ m,n = m + 1:=⟨n - 1,by omega⟩
    exact nc_first hn (y:=.int 25) (xs:=List.replicate m (.int 25)) (by rw [List.length_replicate]) (by decide)
  rcases List.mem_cons.mp hx with rfl | hx
  · exact nc_first hn (by rw [List.length_drop,List.length_map]; omega) (by decide)
  rw [List.mem_singleton.mp hx]
  exact nc_first hn (by rw [List.length_drop,List.length_map]; omega) (by rfl)
theorem sh_oddR:∀ x ∈ oddR n s,Sh x 1 20000:=fun x hx=>by
  have si:∀ y ∈ s.map PyData.int,Sh y 0 1001:=sh_ints fun w hw=>by have:=s0 w hw; omega
  have sd:∀ y ∈ (s.map PyData.int).drop 1,Sh y 0 1001:=fun y hy=>si y (List.mem_of_mem_drop hy)
  have ld:((s.map PyData.int).drop 1).length ≤ 5:=by rw [List.length_drop,List.length_map]; omega
  unfold oddR at hx
  rcases List.mem_cons.mp hx with rfl | hx
  · exact sh_list (m:=0) (k:=1001) si (by rw [List.length_map]; omega)
  rcases List.mem_cons.mp hx with rfl | hx
  · exact sh_tuple (m:=0) (k:=1001) (fun y hy=>by
      rcases List.mem_append.mp hy with hy | hy
      · exact si y hy
      · rw [List.mem_singleton.mp hy]; exact sh_int_small (by decide)) (by rw [List.length_append,List.length_map]; show (1001 + 2) * (_ + 1) + 5 ≤ _; omega)
  rcases List.mem_cons.mp hx with rfl | hx
  · exact sh_tuple (m:=0) (k:=1001) sd (by omega)
  rcases List.mem_cons.mp hx with rfl | hx
  · exact sh_more sh_none (by decide) (by decide)
  rcases List.mem_cons.mp hx with rfl | hx
  · exact sh_tuple (m:=0) (k:=1001) (fun y hy=>by rw [(List.mem_replicate.mp hy).2]; exact sh_int_small (by decide)) (by rw [List.length_replicate]; omega)
  rcases List.mem_cons.mp hx with rfl | hx
  · exact sh_tuple (m:=0) (k:=1001) (fun y hy=>by
      rcases List.mem_cons.mp hy with rfl | hy
      · exact sh_int_small (by decide)
      · exact sd y hy) (by rw [List.length_cons]; omega)
  rw [List.mem_singleton.mp hx]
  exact sh_tuple (m:=0) (k:=1001) (fun y hy=>by
      rcases List.mem_cons.mp hy with rfl | hy
      · exact sh_more (sh_bool true) (by decide) (by decide)
      · exact sd y hy) (by rw [List.length_cons]; omega)
def baseR:List D:=[.tuple [.str "many",.int 1],.tuple [.str "many",.int 6],.tuple [.str "many",.bool true],.tuple [.str "many",.int 0]]
omit hn hs s0 in
theorem sh2 {w:Str} {v:D} {m k:Nat} (hw:(PyData.shown (.str w)).length ≤ 100) (hv:Sh v m k) (hk:100 ≤ k):Sh (.tuple [.str w,v]) (m + 1) ((k + 2) * 2 + 5):=sh_tuple (m:=m) (k:=k) (fun x hx=>by
  rcases List.mem_cons.mp hx with rfl | hx
  · exact sh_more (sh_strk hw) (Nat.zero_le _) hk
  · rw [List.mem_singleton.mp hx]; exact hv) (Nat.le_refl _)
omit hn hs s0 in
theorem sh_base:∀ y ∈ baseR,Sh y 2 60000:=fun y hy=>by
  unfold baseR at hy
  rcases List.mem_cons.mp hy with rfl | hy
  · exact sh_more (sh2 (k:=1001) (by decide +kernel) (sh_int_small (by decide)) (by decide)) (by decide) (by decide)
  rcases List.mem_cons.mp hy with rfl | hy
  · exact sh_more (sh2 (k:=1001) (by decide +kernel) (sh_int_small (by decide)) (by decide)) (by decide) (by decide)
  rcases List.mem_cons.mp hy with rfl | hy
  · exact sh_more (sh2 (k:=1001) (by decide +kernel) (sh_more (sh_bool true) (by decide) (by decide):Sh _ 0 1001) (by decide)) (by decide) (by decide)
  rw [List.mem_singleton.mp hy]
  exact sh_more (sh2 (k:=1001) (by decide +kernel) (sh_int_small (by decide)) (by decide)) (by decide) (by decide)
theorem e_refused {t:Option DS}:f__law_refused_right [.d (.int (n:Int)),.d (tupI s)] t = .ok (.d (.bool true)) t:=by
  obtain ⟨b4,e⟩:=rf_loop hn hs s0 (t:=t) (oddR n s) baseR .un (oddR_no hn hs s0 t) (by unfold oddR baseR; simp)
  have shF:Sh (.list (baseR ++ (oddR n s).flatMap fun x=>List.replicate 7 (.tuple [.str "content",x]))) 3 6000000:=sh_list (m:=2) (k:=60000) (fun y hy=>by
    rcases List.mem_append.mp hy with hy | hy
    · exact sh_base y hy
    · obtain ⟨x,hx,hy⟩:=List.mem_flatMap.mp hy
      rw [(List.mem_replicate.mp hy).2]
      exact sh_more (sh2 (by decide +kernel) (sh_oddR hn hs s0 x hx) (by decide)) (by decide) (by decide)) (by unfold oddR baseR; simp)
  have lk:=like_sh shF (by decide) (by decide) t
  have m1:f_units [.d (.int 1),.d .none,.d .none] t = .ex "BadMany" [("value",.int 1)] t:=rfl
  have m6:f_need_many [.d (.int 6)] t = .ex "BadMany" [("value",.int 6)] t:=rfl
  have mT:f_rows_on [.d (.bool true),.d .none,.d .none] t = .ex "BadMany" [("value",.bool true)] t:=rfl
  have m0:f_is_way [.d (.int 0),.d .none,.d .none,.d .none] t = .ex "BadMany" [("value",.int 0)] t:=rfl
  have ad:fAdd (.d (.tuple (s.map .int))) (.d (.tuple [.int 0])) = some (.d (.tuple (s.map .int ++ [.int 0]))):=by rw [add_t,if_pos (by rw [List.length_map]; show _ + 1 ≤ _; omega)]
  have s1:=slF (xs:=s.map PyData.int) (j:=1) (by rw [List.length_map]; omega)
  have s1:fSl (.d (.tuple (s.map .int))) (some 1) none = some (.d (.tuple ((s.map .int).drop 1))):=s1
  have mu:fMulT (.d (.tuple [.int 25])) (.d (.int (n:Int))) = some (.d (.tuple (List.replicate n (.int 25)))):=by rcases hn with rfl | rfl | rfl | rfl <;> rfl
  have ld:((s.map PyData.int).drop 1).length ≤ 5:=by rw [List.length_drop,List.length_map]; omega
  have a1:fAdd (.d (.tuple [.int (-1)])) (.d (.tuple ((s.map .int).drop 1))) = some (.d (.tuple (.int (-1) :: (s.map .int).drop 1))):=by rw [add_t,if_pos (by show 1 + _ ≤ _; omega)]; rfl
  have a2:fAdd (.d (.tuple [.bool true])) (.d (.tuple ((s.map .int).drop 1))) = some (.d (.tuple (.bool true :: (s.map .int).drop 1))):=by rw [add_t,if_pos (by show 1 + _ ≤ _; omega)]; rfl
  have w6:∀ S:D,f_way_to [.d (.int 6),.d S,.d S] t = .ex "BadMany" [("value",.int 6)] t:=fun S=>by
    rw [u_way_to]
    simp! [m_way_to,m6]
  have T1:∀ S a2 a3 a4,mHeard h__law_heard (mCall 3 f_units [] (mCons (mC (.int 1)) (mCons (mC .none) (mCons (mC .none) (mNil))))) (gRf n S a2 a3 a4) t = .ok (.d (.tuple [.str "many",.int 1])) t:=fun S a2 a3 a4=>hd_mh (f:=fun t'=>f_units [.d (.int 1),.d .none,.d .none] t') (fun t'=>rfl) (ht_many m1)
  have T2:∀ S a2 a3 a4,mHeard h__law_heard (mCall 3 f_way_to [] (mCons (mC (.int 6)) (mCons (mVar 1) (mCons (mVar 1) (mNil))))) (gRf n S a2 a3 a4) t = .ok (.d (.tuple [.str "many",.int 6])) t:=fun S a2 a3 a4=>hd_mh (f:=fun t'=>f_way_to [.d (.int 6),.d S,.d S] t') (fun t'=>rfl) (ht_many (w6 S))
  have T3:∀ S a2 a3 a4,mHeard h__law_heard (mCall 3 f_rows_on [] (mCons (mC (.bool true)) (mCons (mC .none) (mCons (mC .none) (mNil))))) (gRf n S a2 a3 a4) t = .ok (.d (.tuple [.str "many",.bool true])) t:=fun S a2 a3 a4=>hd_mh (f:=fun t'=>f_rows_on [.d (.bool true),.d .none,.d .none] t') (fun t'=>rfl) (ht_many mT)
  have T4:∀ S a2 a3 a4,mHeard h__law_heard (mCall 4 f_is_way [] (mCons (mC (.int 0)) (mCons (mC .none) (mCons (mC .none) (mCons (mC .none) (mNil)))))) (gRf n S a2 a3 a4) t = .ok (.d (.tuple [.str "many",.int 0])) t:=fun S a2 a3 a4=>hd_mh (f:=fun t'=>f_is_way [.d (.int 0),.d .none,.d .none,.d .none] t') (fun t'=>rfl) (ht_many m0)
  have os:∀ u2 u3,mSeq (mTup (mCons (mCallB fList (mCons (mVar 1) (mNil))) (mCons (mBin fAdd (mVar 1) (mTup (mCons (mC (.int 0)) (mNil)))) (mCons (mSl (mVar 1) (some (mC (.int 1))) none) (mCons (mC .none) (mCons (mBin fMulT (mTup (mCons (mC (.int 25)) (mNil))) (mVar 0)) (mCons (mBin fAdd (mTup (mCons (mNeg (mC (.int 1))) (mNil))) (mSl (mVar 1) (some (mC (.int 1))) none)) (mCons (mBin fAdd (mTup (mCons (mC (.bool true)) (mNil))) (mSl (mVar 1) (some (mC (.int 1))) none)) (mNil))))))))) (gRf n (tupI s) u2 u3 .un) t = .ok (oddR n s) t:=fun u2 u3=>by
    unfold tupI oddR
    generalize List.replicate n (PyData.int 25) = R25 at mu ⊢
    generalize s.map PyData.int ++ [PyData.int 0] = R0 at ad ⊢
    generalize (s.map PyData.int).drop 1 = R1 at s1 a1 a2 ⊢
    generalize s.map PyData.int = X at ad s1 ⊢
    simp! [ad,s1,mu,a1,a2]
    rfl
  rw [u__law_refused_right]
  refine run_rt (G:=[.d (.int (n:Int)),.d (tupI s)]) rfl ?_
  show m__law_refused_right (gRf n (tupI s) .un .un .un) t = _
  unfold m__law_refused_right
  rw [seq_nx (t:=t) (G1:=gRf n (tupI s) (.l [.tuple [.str "many",.int 1],.tuple [.str "many",.int 6]]) .un .un) (t1:=t) (by
    have h1:=T1 (tupI s) .un .un .un
    have h2:=T2 (tupI s) .un .un .un
    generalize tupI s = S at h1 h2 ⊢
    simp! [h1,h2])]
  rw [seq_nx (t:=t) (G1:=gRf n (tupI s) (.l baseR) .un .un) (t1:=t) (by
    have h1:=T3 (tupI s) (.l [.tuple [.str "many",.int 1],.tuple [.str "many",.int 6]]) .un .un
    have h2:=T4 (tupI s) (.l [.tuple [.str "many",.int 1],.tuple [.str "many",.int 6]]) .un .un
    generalize tupI s = S at h1 h2 ⊢
    unfold baseR
    simp! [h1,h2])]
  rw [seq_nx (t:=t) (G1:=gRf n (tupI s) (.l baseR) (.l baseR) .un) (t1:=t) (by
    generalize tupI s = S
    unfold baseR
    simp! [])]
  rw [seq_nx (t:=t) (for_nx (os _ _) e)]
  generalize (baseR ++ (oddR n s).flatMap fun x=>List.replicate 7 (.tuple [.str "content",x])) = Z at lk ⊢
  generalize tupI s = S
  simp! [lk]
end
theorem fal_eq {r m:List Int} (hp:r.Perm m) (h:m.Pairwise (fun a b=>b ≤ a)):fal r = m:=pw_same ((fal_perm r).trans hp) (fal_pw r) h
section
variable (t:Option DS)
theorem hand1:f_units [.d (.int 3),.d (.tuple [.int 4,.int 0,.int 0]),.d (.tuple [.int 1,.int 1,.int 2])] t = .ok (.d (.int 2)) t:=by
  have u:=e_units (n:=3) (s:=[4,0,0]) (g:=[1,1,2]) (by decide) rfl rfl (by decide) (by decide) (t:=t)
  rw [if_pos (by decide)] at u
  unfold hfS at u
  rw [fal_eq (r:=[4,0,0]) (m:=[4,0,0]) (by decide) (by decide),fal_eq (r:=[1,1,2]) (m:=[2,1,1]) (by decide) (by decide)] at u
  exact u
theorem hand2:f_units [.d (.int 5),.d (.tuple [.int 24,.int 24,.int 0,.int 0,.int 0]),.d (.tuple [.int 9,.int 9,.int 10,.int 10,.int 10])] t = .ok (.d (.int 28)) t:=by
  have u:=e_units (n:=5) (s:=[24,24,0,0,0]) (g:=[9,9,10,10,10]) (by decide) rfl rfl (by decide) (by decide) (t:=t)
  rw [if_pos (by decide)] at u
  unfold hfS at u
  rw [fal_eq (r:=[24,24,0,0,0]) (m:=[24,24,0,0,0]) (by decide) (by decide),fal_eq (r:=[9,9,10,10,10]) (m:=[10,10,10,9,9]) (by decide) (by decide)] at u
  exact u
theorem hand3:f_units [.d (.int 2),.d (.tuple [.int 0,.int 24]),.d (.tuple [.int 24,.int 0])] t = .ok (.d (.int 0)) t:=by
  have u:=e_units (n:=2) (s:=[0,24]) (g:=[24,0]) (by decide) rfl rfl (by decide) (by decide) (t:=t)
  rw [if_pos (by decide)] at u
  unfold hfS at u
  rw [fal_eq (r:=[0,24]) (m:=[24,0]) (by decide) (by decide),fal_eq (r:=[24,0]) (m:=[24,0]) (by decide) (by decide)] at u
  exact u
theorem hand4:f_way_to [.d (.int 2),.d (.tuple [.int 1,.int 1]),.d (.tuple [.int 2,.int 0])] t = .ok (.d .none) t:=by
  have u:=(e_wayto (n:=2) (s:=[1,1]) (g:=[2,0]) (by decide) rfl rfl (by decide) (by decide) (t:=t)).1
  refine u ?_
  unfold evB
  rw [fal_eq (r:=[1,1]) (m:=[1,1]) (by decide) (by decide),fal_eq (r:=[2,0]) (m:=[2,0]) (by decide) (by decide)]
  decide
theorem hand5:∃ X:List D,f_way_to [.d (.int 2),.d (.tuple [.int 3,.int 1]),.d (.tuple [.int 1,.int 3])] t = .ok (.d (.tuple X)) t:=by
  have u:=(e_wayto (n:=2) (s:=[3,1]) (g:=[1,3]) (by decide) rfl rfl (by decide) (by decide) (t:=t)).2
  obtain ⟨ds,es,_,e⟩:=u (by
    unfold evB
    rw [fal_eq (r:=[3,1]) (m:=[3,1]) (by decide) (by decide),fal_eq (r:=[1,3]) (m:=[3,1]) (by decide) (by decide)]
    decide)
  exact ⟨_,e⟩
theorem hand6:f_rows_on [.d (.int 3),.d (.tuple [.int 2,.int 0,.int 0]),.d (.tuple [.tuple [.str "transfer",.int 0,.int 2],.tuple [.str "exchange",.int 1,.int 2]])] t = .ok (.d (.tuple [.tuple [.int 2,.int 0,.int 0],.tuple [.int 1,.int 0,.int 1],.tuple [.int 1,.int 1,.int 0]])) t:=by
  have nw:=e_way (t:=t) (n:=3) (by decide) (row:=[2,0,0]) (ds:=[(true,0,2),(false,1,2)]) rfl (by unfold dOk; decide) ⟨fun _=>by decide,⟨fun h=>(by cases h),trivial⟩⟩ (by decide)
  exact (e_rowson (n:=3) (by decide) (t:=t) (W:=.tuple ([(true,0,2),(false,1,2)].map ddD)) (row:=[2,0,0]) rfl (by decide)).1 _ nw
theorem hand7:f_rows_on [.d (.int 3),.d (.tuple [.int 2,.int 0,.int 0]),.d (.tuple [.tuple [.str "transfer",.int 0,.int 2],.tuple [.str "exchange",.int 1,.int 2],.tuple [.str "transfer",.int 2,.int 0]])] t = .ex "BadStep" [("place",.int 2)] t:=by
  have nw:=e_wayStep (t:=t) (n:=3) (by decide) (row:=[2,0,0]) (ds:=[(true,0,2),(false,1,2)]) (b:=(true,2,0)) (es:=[]) rfl (by unfold dOk; decide) (by unfold dOk; decide) (fun d h=>(by cases h)) rfl ⟨fun _=>by decide,⟨fun h=>(by cases h),trivial⟩⟩ (by decide) (by decide)
  exact (e_rowson (n:=3) (by decide) (t:=t) (row:=[2,0,0]) rfl (by decide)).2 _ _ nw
theorem hand8:f_rows_on [.d (.int 3),.d (.tuple [.int 2,.int 0,.int 0]),.d (.tuple [.tuple [.str "transfer",.int 1,.int 2],.tuple [.str "transfer",.int 1,.int 1]])] t = .ex "BadWay" [("place",.int 1)] t:=by
  have nw:=e_wayOdd (t:=t) (n:=3) (st:=tupI [2,0,0]) (ds:=[(true,1,2)]) (x:=.tuple [.str "transfer",.int 1,.int 1]) (rest:=[]) (by unfold dOk; decide) (by kernel_rfl) (by decide)
  exact (e_rowson (n:=3) (by decide) (t:=t) (row:=[2,0,0]) rfl (by decide)).2 _ _ nw
theorem hand9:f_rows_on [.d (.int 2),.d (.tuple [.int 1,.int 1]),.d (.tuple [.tuple [.str "transfer",.int 0,.int 1]])] t = .ex "BadStep" [("place",.int 0)] t:=by
  have nw:=e_wayStep (t:=t) (n:=2) (by decide) (row:=[1,1]) (ds:=[]) (b:=(true,0,1)) (es:=[]) rfl (fun d h=>(by cases h)) (by unfold dOk; decide) (fun d h=>(by cases h)) rfl trivial (by decide) (by decide)
  exact (e_rowson (n:=2) (by decide) (t:=t) (row:=[1,1]) rfl (by decide)).2 _ _ nw
theorem hand10:f_rows_on [.d (.int 2),.d (.tuple [.int 1,.int 0]),.d (.tuple [.tuple [.str "exchange",.int 0,.int 1],.tuple [.str "transfer",.bool true,.bool false]])] t = .ex "BadWay" [("place",.int 1)] t:=by
  have nw:=e_wayOdd (t:=t) (n:=2) (st:=tupI [1,0]) (ds:=[(false,0,1)]) (x:=.tuple [.str "transfer",.bool true,.bool false]) (rest:=[]) (by unfold dOk; decide) (by kernel_rfl) (by decide)
  exact (e_rowson (n:=2) (by decide) (t:=t) (row:=[1,0]) rfl (by decide)).2 _ _ nw
theorem hand11:f_is_way [.d (.int 2),.d (.tuple [.int 1,.int 0]),.d (.tuple [.int 0,.int 1]),.d (.tuple [.tuple [.str "exchange",.bool false,.int 1]])] t = .ok (.d (.bool false)) t:=by
  have nw:=e_wayOdd (t:=t) (n:=2) (st:=tupI [1,0]) (ds:=[]) (x:=.tuple [.str "exchange",.bool false,.int 1]) (rest:=[]) (fun d h=>(by cases h)) (by kernel_rfl) (by decide)
  exact iw_bad (n:=2) (by decide) (t:=t) (row:=[1,0]) (goal:=[0,1]) (b:=true) rfl (by decide) rfl (by decide) nw
theorem hand12:∃ X:List D,f_rows_on [.d (.int 2),.d (.tuple [.int 1,.int 0]),.d (.tuple (List.replicate 60 (.tuple [.str "exchange",.int 1,.int 0])))] t = .ok (.d (.tuple X)) t ∧ ((X.length:Nat):Int) = 61:=by
  have nw:=e_way (t:=t) (n:=2) (by decide) (row:=[1,0]) (ds:=List.replicate 60 (false,1,0)) rfl (fun d h=>by rw [(List.mem_replicate.mp h).2]; unfold dOk; decide) (canAll_ex _ _ fun d h=>by rw [(List.mem_replicate.mp h).2]) (by rw [List.length_replicate]; decide)
  have r:=(e_rowson (n:=2) (by decide) (t:=t) (W:=.tuple ((List.replicate 60 (false,1,0)).map ddD)) (row:=[1,0]) rfl (by decide)).1 _ nw
  rw [List.map_replicate] at r
  refine ⟨_,r,?_⟩
  rw [List.length_map,scn_len,List.length_replicate]
  rfl
theorem hand13:f_rows_on [.d (.int 2),.d (.tuple [.int 1,.int 0]),.d (.tuple (List.replicate 61 .none))] t = .ex "BadWay" [("place",.int 60)] t:=by
  have nw:=e_way60 (t:=t) (n:=2) (st:=tupI [1,0]) (ws:=List.replicate 61 .none) (by rw [List.length_replicate]; decide)
  exact (e_rowson (n:=2) (by decide) (t:=t) (row:=[1,0]) rfl (by decide)).2 _ _ nw
end
section
variable {t:Option DS}
abbrev dueH:List D:=[.int 2,.tuple [.tuple [.int 2,.int 0,.int 0],.tuple [.int 1,.int 0,.int 1],.tuple [.int 1,.int 1,.int 0]],.int 28,.tuple [.str "step",.int 2],.tuple [.str "way",.int 1],.tuple [.str "step",.int 0],.tuple [.str "way",.int 1],.bool false,.list [.int 61],.tuple [.str "way",.int 60]]
theorem like_hand:f__law_like [.d (.list (dueH ++ [.bool false,.int 0,.none])),.d (.list (dueH ++ [.bool false,.int 0,.none]))] t = .ok (.d (.bool true)) t:=by kernel_rfl
theorem tp5 {a b c d e:D}:Rs.tp (.ok [.d a,.d b,.d c,.d d,.d e] t) = .ok (.d (.tuple [a,b,c,d,e])) t:=rfl
theorem e_byhand:f__law_by_hand [] t = .ok (.d (.bool true)) t:=by
  have D0:D:=.tuple [.tuple [.str "transfer",.int 0,.int 2],.tuple [.str "exchange",.int 1,.int 2]]
  have h1:=hand1 t
  have h2:=hand2 t
  have h3:=hand3 t
  have h4:=hand4 t
  obtain ⟨X5,h5⟩:=hand5 t
  have h6:=hand6 t
  have h7:=hand7 t
  have h8:=hand8 t
  have h9:=hand9 t
  have h10:=hand10 t
  have h11:=hand11 t
  obtain ⟨X12,h12,l12⟩:=hand12 t
  have h13:=hand13 t
  have gr:f__law_goal_right [.d (.int 5),.d (.tuple [.int 24,.int 24,.int 0,.int 0,.int 0]),.d (.tuple [.int 9,.int 9,.int 10,.int 10,.int 10])] t = .ok (.d (.bool true)) t:=e_goal (n:=5) (by decide) (s:=[24,24,0,0,0]) (g:=[9,9,10,10,10]) rfl rfl (by decide) (by decide)
  have lk:=like_hand (t:=t)
  have H7:∀ a1 a2,mHeard h__law_heard (mCall 3 f_rows_on [] (mCons (mC (.int 3)) (mCons (mTup (mCons (mC (.int 2)) (mCons (mC (.int 0)) (mCons (mC (.int 0)) (mNil))))) (mCons (mBin fAdd (mVar 0) (mTup (mCons (mTup (mCons (mC (.str "transfer")) (mCons (mC (.int 2)) (mCons (mC (.int 0)) (mNil))))) (mNil)))) (mNil))))) [.d (.tuple [.tuple [.str "transfer",.int 0,.int 2],.tuple [.str "exchange",.int 1,.int 2]]),a1,a2] t = .ok (.d (.tuple [.str "step",.int 2])) t:=fun a1 a2=>hd_mh (f:=fun t'=>f_rows_on [.d (.int 3),.d (.tuple [.int 2,.int 0,.int 0]),.d (.tuple [.tuple [.str "transfer",.int 0,.int 2],.tuple [.str "exchange",.int 1,.int 2],.tuple [.str "transfer",.int 2,.int 0]])] t') (fun t'=>rfl) (ht_step h7)
  have H8:∀ G,mHeard h__law_heard (mCall 3 f_rows_on [] (mCons (mC (.int 3)) (mCons (mTup (mCons (mC (.int 2)) (mCons (mC (.int 0)) (mCons (mC (.int 0)) (mNil))))) (mCons (mTup (mCons (mTup (mCons (mC (.str "transfer")) (mCons (mC (.int 1)) (mCons (mC (.int 2)) (mNil))))) (mCons (mTup (mCons (mC (.str "transfer")) (mCons (mC (.int 1)) (mCons (mC (.int 1)) (mNil))))) (mNil)))) (mNil))))) G t = .ok (.d (.tuple [.str "way",.int 1])) t:=fun G=>hd_mh (f:=fun t'=>f_rows_on [.d (.int 3),.d (.tuple [.int 2,.int 0,.int 0]),.d (.tuple [.tuple [.str "transfer",.int 1,.int 2],.tuple [.str "transfer",.int 1,.int 1]])] t') (fun t'=>rfl) (ht_way h8)
  have H9:∀ G,mHeard h__law_heard (mCall 3 f_rows_on [] (mCons (mC (.int 2)) (mCons (mTup (mCons (mC (.int 1)) (mCons (mC (.int 1)) (mNil)))) (mCons (mTup (mCons (mTup (mCons (mC (.str "transfer")) (mCons (mC (.int 0)) (mCons (mC (.int 1)) (mNil))))) (mNil))) (mNil))))) G t = .ok (.d (.tuple [.str "step",.int 0])) t:=fun G=>hd_mh (f:=fun t'=>f_rows_on [.d (.int 2),.d (.tuple [.int 1,.int 1]),.d (.tuple [.tuple [.str "transfer",.int 0,.int 1]])] t') (fun t'=>rfl) (ht_step h9)
  have H10:∀ G,mHeard h__law_heard (mCall 3 f_rows_on [] (mCons (mC (.int 2)) (mCons (mTup (mCons (mC (.int 1)) (mCons (mC (.int 0)) (mNil)))) (mCons (mTup (mCons (mTup (mCons (mC (.str "exchange")) (mCons (mC (.int 0)) (mCons (mC (.int 1)) (mNil))))) (mCons (mTup (mCons (mC (.str "transfer")) (mCons (mC (.bool true)) (mCons (mC (.bool false)) (mNil))))) (mNil)))) (mNil))))) G t = .ok (.d (.tuple [.str "way",.int 1])) t:=fun G=>hd_mh (f:=fun t'=>f_rows_on [.d (.int 2),.d (.tuple [.int 1,.int 0]),.d (.tuple [.tuple [.str "exchange",.int 0,.int 1],.tuple [.str "transfer",.bool true,.bool false]])] t') (fun t'=>rfl) (ht_way h10)
  have m60:fMulT (.d (.tuple [.tuple [.str "exchange",.int 1,.int 0]])) (.d (.int 60)) = some (.d (.tuple (List.replicate 60 (.tuple [.str "exchange",.int 1,.int 0])))):=rfl
  have m61:fMulT (.d (.tuple [.none])) (.d (.int 61)) = some (.d (.tuple (List.replicate 61 .none))):=rfl
  have T12:∀ G t',mCallB (f1 gLen) (mCons (mCall 3 f_rows_on [] (mCons (mC (.int 2)) (mCons (mTup (mCons (mC (.int 1)) (mCons (mC (.int 0)) (mNil)))) (mCons (mBin fMulT (mTup (mCons (mTup (mCons (mC (.str "exchange")) (mCons (mC (.int 1)) (mCons (mC (.int 0)) (mNil))))) (mNil))) (mC (.int 60))) (mNil))))) (mNil)) G t' = (mCallB (f1 gLen) (mCons (fun _ t'=>f_rows_on [.d (.int 2),.d (.tuple [.int 1,.int 0]),.d (.tuple (List.replicate 60 (.tuple [.str "exchange",.int 1,.int 0])))] t') mNil) [] t'):=fun G t'=>rfl
  have H12:∀ G,mHeard h__law_heard (mCallB (f1 gLen) (mCons (mCall 3 f_rows_on [] (mCons (mC (.int 2)) (mCons (mTup (mCons (mC (.int 1)) (mCons (mC (.int 0)) (mNil)))) (mCons (mBin fMulT (mTup (mCons (mTup (mCons (mC (.str "exchange")) (mCons (mC (.int 1)) (mCons (mC (.int 0)) (mNil))))) (mNil))) (mC (.int 60))) (mNil))))) (mNil))) G t = .ok (.d (.list [.int 61])) t:=fun G=>hd_mh (fun t'=>T12 _ t') (ht_ok (by
    have q:mCons (fun (_:Gm) t'=>f_rows_on [.d (.int 2),.d (.tuple [.int 1,.int 0]),.d (.tuple (List.replicate 60 (.tuple [.str "exchange",.int 1,.int 0])))] t') mNil ([]:Gm) t = .ok [.d (.tuple X12)] t:=by
      simp only [mCons,h12,Rs.bind,Rs.fz,Rv.fz,mNil]
    show (mCons _ mNil ([]:Gm) t).bind _ = _
    rw [q,← l12]
    rfl))
  have H13:∀ G,mHeard h__law_heard (mCall 3 f_rows_on [] (mCons (mC (.int 2)) (mCons (mTup (mCons (mC (.int 1)) (mCons (mC (.int 0)) (mNil)))) (mCons (mBin fMulT (mTup (mCons (mC .none) (mNil))) (mC (.int 61))) (mNil))))) G t = .ok (.d (.tuple [.str "way",.int 60])) t:=fun G=>hd_mh (f:=fun t'=>f_rows_on [.d (.int 2),.d (.tuple [.int 1,.int 0]),.d (.tuple (List.replicate 61 .none))] t') (fun t'=>rfl) (ht_way h13)
  rw [u__law_by_hand]
  refine run_rt (G:=[]) rfl ?_
  show m__law_by_hand [.un,.un,.un] t = _
  have app:∀ {e:EM} {rest:SM} {xs:List D} {d x0:D} {a2:Sl},e [.d x0,.l xs,a2] t = .ok (.d d) t → xs.length ≤ 100 → sSeq (sApp 1 e) rest [.d x0,.l xs,a2] t = rest [.d x0,.l (xs ++ [d]),a2] t:=fun {e rest xs d x0 a2} h hl=>by
    refine seq_nx ?_
    have lim:xs.length < 16777216:=by omega
    simp! [h,lim]
  unfold m__law_by_hand
  rw [seq_nx (t:=t) (G1:=[.d (.tuple [.tuple [.str "transfer",.int 0,.int 2],.tuple [.str "exchange",.int 1,.int 2]]),.un,.un]) (t1:=t) (by simp! [])]
  rw [seq_nx (t:=t) (G1:=[.d (.tuple [.tuple [.str "transfer",.int 0,.int 2],.tuple [.str "exchange",.int 1,.int 2]]),.l [.int 2,.tuple [.tuple [.int 2,.int 0,.int 0],.tuple [.int 1,.int 0,.int 1],.tuple [.int 1,.int 1,.int 0]],.int 28],.un]) (t1:=t) (by simp! [h1,h6,h2,tp5])]
  rw [app (H7 _ _) (by decide),app (H8 _) (by simp),app (H9 _) (by simp),app (H10 _) (by simp)]
  rw [app (d:=.bool false) (by simp! [h11]) (by simp),app (H12 _) (by simp),app (H13 _) (by simp)]
  have c2:fIs (.d (.tuple X5)) (.d .none) = some (.d (.bool false)):=rfl
  rw [seq_nx (t:=t) (G1:=[.d (.tuple [.tuple [.str "transfer",.int 0,.int 2],.tuple [.str "exchange",.int 1,.int 2]]),.l (dueH ++ [.bool false,.int 0,.none]),.un]) (t1:=t) (by simp! [h5,c2,h3,h4])]
  rw [seq_nx (t:=t) (G1:=[.d (.tuple [.tuple [.str "transfer",.int 0,.int 2],.tuple [.str "exchange",.int 1,.int 2]]),.l (dueH ++ [.bool false,.int 0,.none]),.l dueH]) (t1:=t) (by simp! []; rfl)]
  rw [seq_nx (t:=t) (G1:=[.d (.tuple [.tuple [.str "transfer",.int 0,.int 2],.tuple [.str "exchange",.int 1,.int 2]]),.l (dueH ++ [.bool false,.int 0,.none]),.l (dueH ++ [.bool false,.int 0,.none])]) (t1:=t) (by simp! [])]
  generalize dueH ++ [PyData.bool false,.int 0,.none] = Z at lk ⊢
  simp! [lk,gr,tp5]
end
section
variable {n:Nat} (hn:n = 2 ∨ n = 3 ∨ n = 4 ∨ n = 5)
include hn
abbrev gLw (n:Nat) (L S:D) (a2 a5:Sl):Gm:=[.d L,.s,a2,.d (.int (n:Int)),.d S,a5,.un]
def lvI (n:Nat) (s:List Int) (i:Int):Int:=s.sum.fdiv (n:Int) + (if i < s.sum.fmod (n:Int) then 1 else 0)
def lvF (n:Nat) (s:List Int):D → D
  | .int i=>.int (lvI n s i)
  | d=>d
theorem e_level {s:List Int} (hs:s.length = n) (s0:∀ x ∈ s,0 ≤ x ∧ x ≤ 24) {L:D} {a2 a5:Sl} {t:Option DS}:∃ zs:List Int,M_law_0 (gLw n L (tupI s) a2 a5) t = .ok (.l (zs.map .int)) t ∧ zs.length = n ∧ ∀ x ∈ zs,0 ≤ x ∧ x ≤ 24:=by
  have su:=(sumT s).1
  have sb:=sum_bd s s0
  have bd:∀ i:Int,0 ≤ i → 0 ≤ lvI n s i ∧ lvI n s i ≤ 24:=fun i hi=>by
    unfold lvI
    rw [Int.fdiv_eq_ediv_of_nonneg _ (by omega:(0:Int) ≤ (n:Int)),Int.fmod_eq_emod_of_nonneg _ (by omega:(0:Int) ≤ (n:Int))]
    rw [hs] at sb
    rcases hn with rfl | rfl | rfl | rfl <;> split <;> omega
  refine ⟨(List.range' 0 n).map fun i:Nat=>lvI n s (i:Int),?_,by rw [List.length_map,List.length_range'],fun x hx=>by
    obtain ⟨i,_,rfl⟩:=List.mem_map.mp hx
    exact bd _ (by omega)⟩
  unfold M_law_0
  rw [ap_lc1]
  have z:mRange1 (mVar 3) (gLw n L (tupI s) a2 a5) t = .ok (rangeD 0 n) t:=range_ok rfl (by omega)
  rw [z,lc_go,lc_ok (p:=fun _=>true) (f:=lvF n s)]
  · rw [List.nil_append,rng_r',List.filter_eq_self.mpr (fun _ _=>rfl),List.map_map,List.map_map]
    rfl
  · rw [List.length_nil,rangeD_len]; omega
  · intro x hx
    rw [rng_r'] at hx
    obtain ⟨i,hi,rfl⟩:=List.mem_map.mp hx
    refine ⟨[.d L,.s,a2,.d (.int (n:Int)),.d (tupI s),a5,.d (.int (i:Int))],rfl,rfl,fun _=>?_⟩
    have dv:divOk s.sum (n:Int) = true:=by
      unfold divOk
      rw [Bool.and_eq_true,decide_eq_true_eq,decide_eq_true_eq]
      omega
    have nz:(n:Int) ≠ 0:=by omega
    unfold tupI
    show _ = Rs.ok (Rv.d (.int (s.sum.fdiv (n:Int) + (if (i:Int) < s.sum.fmod (n:Int) then 1 else 0)))) t
    by_cases q:(i:Int) < s.sum.fmod (n:Int)
    · rw [if_pos q]
      simp! [su,dv,nz,q,ne_eq,not_false_eq_true]
      rfl
    · rw [if_neg q]
      simp! [su,dv,nz,q,ne_eq,not_false_eq_true]
      rfl
end
theorem law_lap {L:D} {k:Nat} {t:Option DS} (hJ:J k t) (hk:k ≤ 300000) {a2 a3 a4 a5:Sl}:∃ (n:Nat) (s:List Int) (t':Option DS) (b5:Sl),(n = 2 ∨ n = 3 ∨ n = 4 ∨ n = 5) ∧ s.length = n ∧ (∀ x ∈ s,0 ≤ x ∧ x ≤ 24) ∧ J (k + 200) t' ∧ L_law_1 [.d L,.s,a2,a3,a4,a5,.un] t = .nx (gLw n L (tupI s) a2 b5) t':=by
  obtain ⟨p,t1,e1,j1,p0,p1⟩:=dr (l:=4) hJ (by omega) (by decide) (by decide)
  obtain ⟨n,hp⟩:∃ n:Nat,2 + p = (n:Int):=⟨(2 + p).toNat,by omega⟩
  have hn:n = 2 ∨ n = 3 ∨ n = 4 ∨ n = 5:=by omega
  obtain ⟨s,t2,e2,j2,hs,s0⟩:=e_row hn j1 (by omega)
  obtain ⟨g1,t3,e3,j3,hg1,g10⟩:=e_near hn hs s0 j2 (by omega)
  have q1:=e_goal hn hs hg1 s0 g10 (t:=t3)
  obtain ⟨g2,t4,e4,j4,hg2,g20⟩:=e_row hn j3 (by omega)
  have q2:=e_goal hn hs hg2 s0 g20 (t:=t4)
  obtain ⟨t5,e5,j5⟩:=e_ways hn hs s0 j4 (by omega)
  obtain ⟨zs,e6,hz,z0⟩:=e_level hn hs s0 (L:=L) (a2:=a2) (a5:=a5) (t:=t5)
  have q3:=e_goal hn hs hz s0 z0 (t:=t5)
  refine ⟨n,s,t5,.l (zs.map .int),hn,hs,s0,j5.more (by omega),?_⟩
  unfold L_law_1
  rw [seq_nx (t:=t) (G1:=[.d L,.s,a2,.d (.int (n:Int)),a4,a5,.un]) (t1:=t1) (by simp! [e1,hp])]
  rw [seq_nx (t:=t1) (G1:=gLw n L (tupI s) a2 a5) (t1:=t2) (by simp! [e2])]
  unfold tupI at q3
  generalize hS:tupI s = S at e3 q1 q2 e5 e6 ⊢
  have hS':PyData.tuple (s.map .int) = S:=hS
  rw [hS'] at q3
  rw [sif_no (t:=t2) (t1:=t3) (by simp! [e3,q1])]
  rw [sif_no (t:=t3) (t1:=t5) (by simp! [e4,q2,e5])]
  rw [seq_nx (t:=t5) (set_lX e6 (by simp))]
  show sSeq _ sSkip (gLw n L S a2 (.l (zs.map .int))) t5 = _
  rw [sif_no (t:=t5) (t1:=t5) (by simp! [q3])]
  rfl
theorem e_law (ns:List Int) (h:ns.length ≤ 63):∃ t',f_law [.d (.list (ns.map .int))] none = .ok (.d (.bool true)) t':=by
  obtain ⟨b1,i0⟩:=e_begin ns h
  have j0:J 0 (some (begSt ns)):=⟨_,rfl,i0⟩
  obtain ⟨m,hm,hm2⟩:∃ m:Nat,(2 + (if (2:Int) < (((ns.map PyData.int).length:Nat):Int) then (2:Int) else (((ns.map PyData.int).length:Nat):Int))) = (m:Int) ∧ 2 ≤ m ∧ m ≤ 4:=by
    by_cases c:(2:Int) < (((ns.map PyData.int).length:Nat):Int)
    · exact ⟨4,by rw [if_pos c]; rfl,by decide⟩
    · refine ⟨2 + (ns.map PyData.int).length,by rw [if_neg c]; omega,by omega⟩
  obtain ⟨G',t',e,hj,hI⟩:=rng_loop (pt:=.nm 2) (body:=L_law_1) (n:=m) (I:=fun i G t=>J (200 * i) t ∧ ∃ (a2 a3 a4 a5:Sl),G = [.d (.list (ns.map .int)),.s,a2,a3,a4,a5,.un] ∧ (0 < i → ∃ (n:Nat) (s:List Int),(n = 2 ∨ n = 3 ∨ n = 4 ∨ n = 5) ∧ s.length = n ∧ (∀ x ∈ s,0 ≤ x ∧ x ≤ 24) ∧ a3 = .d (.int (n:Int)) ∧ a4 = .d (tupI s))) (fun i G t hi hI=>by
    obtain ⟨hj,a2,a3,a4,a5,rfl,_⟩:=hI
    obtain ⟨n,s,t1,b5,hn,hs,s0,j1,e1⟩:=law_lap (L:=.list (ns.map .int)) hj (by omega) (a2:=.d (.int (i:Int))) (a3:=a3) (a4:=a4) (a5:=a5)
    exact ⟨[.d (.list (ns.map .int)),.s,.d (.int (i:Int)),a3,a4,a5,.un],_,t1,rfl,e1,j1.more (by omega),_,_,_,_,rfl,fun _=>⟨n,s,hn,hs,s0,rfl,rfl⟩⟩) (G:=[.d (.list (ns.map .int)),.s,.un,.un,.un,.un,.un]) (t:=some (begSt ns)) ⟨j0,_,_,_,_,rfl,fun z=>absurd z (Nat.lt_irrefl _)⟩
  obtain ⟨a2,a3,a4,a5,rfl,hI⟩:=hI
  obtain ⟨n,s,hn,hs,s0,rfl,rfl⟩:=hI (by omega)
  have rf:=e_refused hn hs s0 (t:=t')
  have bh:=e_byhand (t:=t')
  have r1:rngOk (m:Int) = true:=rng_nat _ (by omega)
  refine ⟨t',?_⟩
  rw [u_law]
  refine run_rt (G:=[.d (.list (ns.map .int))]) rfl ?_
  show m_law [.d (.list (ns.map .int)),.un,.un,.un,.un,.un,.un] none = _
  unfold m_law
  rw [seq_nx (t:=none) (G1:=[.d (.list (ns.map .int)),.s,.un,.un,.un,.un,.un]) (t1:=some (begSt ns)) (by simp! [b1])]
  have z:mRange1 (mBin fAdd (mC (.int 2)) (mCallB (f2 gMin) (mCons (mCallB (f1 gLen) (mCons (mVar 0) (mNil))) (mCons (mC (.int 2)) (mNil))))) [.d (.list (ns.map .int)),.s,.un,.un,.un,.un,.un] (some (begSt ns)) = .ok (rangeD 0 m) (some (begSt ns)):=by
    simp! [hm,r1,Int.toNat_natCast]
  rw [seq_nx (for_nx z e)]
  generalize tupI s = S at rf ⊢
  simp! [rf,bh]
end G
end
theorem PySem.Challenge.cw_unithouse_k36_ways_and_units_holds : PySem.Challenge.rw_unithouse_k36_ways_and_units.Holds :=
  G.holds fun _ ns h => G.e_law ns h
