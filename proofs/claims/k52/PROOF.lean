import PyProof.Rows.All
import Wide.All
import OpenK.AllK
import Wide.FinOn
import PyProof.EqAt
import PyProof.EqKinds
import PyProof.TupleCall
import HandS.Base
import HandS.Call
import HandS.List
import HandS.Comp
import HandS.Ends
import HandS.Dict
import HandS.Iter
import HandS.Exc
import HandS.ExcOwn
import HandS.Words
import HandS.WordsList
import HandS.WordsExc
import HandS.Lambda
import HandS.Deep
import HandS.Wide
import HandS.IsInst
import HandS.Flow
import HandS.TupAny
import HandS.Text
import HandS.Zip
import KE.GoesEnum
import HandS.Codes
import HandS.Defaults
import HandS.ExcInit
import HandS.ExcField
import HandS.TryMany
import KE.KStateDown
import HandS.Head0
import HandS.Head1
import HandS.Head2
import HandS.HeadEnd
import HandS.HeadHook1
import HandS.HeadHook2
import HandS.HeadHook3
import HandS.HeadHook4
import HandS.EndTab
import HandS.EndBits
import KE.KTupSum
import HandS.DictComp
import HandS.Conv
import KE.KDictCopyH
import KE.SortKeyHeap
import KE.SortData
import HandS.SortKw
import KE.KNestM
import PySem.Challenge.RW_unithouse_k52_products_and_orders
section
set_option Elab.async false
set_option linter.all false
set_option maxRecDepth 100000
set_option maxHeartbeats 4000000
namespace DL
open PySem PySem.Spec PyProof.Rows L2
open LamX (Tabs TabS CodeO)

/-! ### data, values, results -/
abbrev D := PyData
abbrev Sg := L2.St
/-- the draws' state: the cells, what is left of the great ones, how many draws -/
structure DS where
  cells : List Int
  lefts : List Int
  pos : Int
/-- what an expression gives: data; a list of the call's own, new or held by a slot; the draws' state -/
inductive Rv where
  | d (x : D) | l (xs : List D) | b (xs : List D) | s
/-- what a slot holds -/
inductive Sl where
  | un | d (x : D) | l (xs : List D) | s | e (c : Str) (fs : List (Str × D))
abbrev Gm := List Sl
inductive Rs (α : Type) where
  | ok (a : α) (t : Option DS)
  | ex (c : Str) (fs : List (Str × D)) (t : Option DS)
  | stuck
def Rs.bind {α β : Type} : Rs α → (α → Option DS → Rs β) → Rs β
  | .ok a t, f => f a t
  | .ex c fs t, _ => .ex c fs t
  | .stuck, _ => .stuck
def Rs.of {α : Type} : Option α → Option DS → Rs α
  | some a, t => .ok a t
  | none, _ => .stuck
/-- a new list of one's own is given away -/
def Rv.fz : Rv → Rv
  | .l xs => .d (.list xs)
  | r => r
def Rs.fz (r : Rs Rv) : Rs Rv := r.bind fun a t => .ok a.fz t
abbrev EM := Gm → Option DS → Rs Rv
abbrev AM := Gm → Option DS → Rs (List Rv)
abbrev BM := Gm → Option DS → Rs Bool

/-! ### heaps -/
/-- the tables of the code objects that lambdas are kept in -/
class Tbs where
  T : List (Addr × Str)
variable [Tbs]
def tabA : List Addr := Tbs.T.map (·.1)
/-- data that stand: over the frozen part of the heap -/
structure Grow (As : List Addr) (F H : Hp) (As' : List Addr) (F' H' : Hp) : Prop where
  ff : Same F F'
  fh : Same F' H'
  hh : ∀ p o, p ∉ As → H p = some o → H' p = some o
  nn : ∀ p, F p = none → H p ≠ none → F' p = none
  dd : ∀ p, H p ≠ none → H' p ≠ none
  ss : As' = As ∨ (As = tabA ∧ ∃ l, As' = tabA ++ l ∧ ∀ p ∈ l, H p = none)
theorem Grow.refl {As : List Addr} {F H : Hp} (h : Same F H) : Grow As F H As F H :=
  ⟨Same.refl _, h, fun _ _ _ e => e, fun _ e _ => e, fun _ e => e, .inl rfl⟩
theorem Grow.mem {As As' : List Addr} {F F' H H' : Hp} (g : Grow As F H As' F' H') {p : Addr} (hp : p ∈ As') : p ∈ As ∨ H p = none := by
  rcases g.ss with e | ⟨e, l, e2, h⟩
  · exact .inl (e ▸ hp)
  · rw [e2] at hp
    rcases List.mem_append.mp hp with z | z
    · exact .inl (e ▸ z)
    · exact .inr (h p z)
theorem Grow.trans {As As1 As2 : List Addr} {F F1 F2 H H1 H2 : Hp} (a : Grow As F H As1 F1 H1) (b : Grow As1 F1 H1 As2 F2 H2) : Grow As F H As2 F2 H2 where
  ff := a.ff.trans b.ff
  fh := b.fh
  hh := fun p o n e => b.hh p o (fun z => by
    rcases a.mem z with q | q
    · exact n q
    · rw [q] at e; cases e) (a.hh p o n e)
  nn := fun p e n => b.nn p (a.nn p e n) (a.dd p n)
  dd := fun p n => b.dd p (a.dd p n)
  ss := by
    rcases b.ss with e | ⟨e, l, e2, h⟩
    · rw [e]; exact a.ss
    · have back : ∀ p ∈ l, H p = none := fun p hp => by
        cases q : H p with
        | none => rfl
        | some o => exact absurd (h p hp) (a.dd p (by rw [q]; simp))
      rcases a.ss with z | ⟨z, _⟩
      · exact .inr ⟨by rw [← z]; exact e, l, e2, back⟩
      · exact .inr ⟨z, l, e2, back⟩
end DL
namespace L2
open PySem PySem.Spec PyProof.Rows
theorem Same.seqT {K : PySem.W.Frag} {H H' : Hp} {a : Addr} {xs : List V} (e : Same H H') (h : SqT K H a xs) : SqT K H' a xs := by
  rcases h with (h | ⟨o, h⟩) | h
  · exact .inl (.inl (e _ _ h))
  · exact .inl (.inr ⟨o, e _ _ h⟩)
  · exact .inr h
mutual
theorem Dp.mono {K : PySem.W.Frag} {H H' : Hp} (k : Same H H') : ∀ (d : PyData) (v : V), Dp K H v d → Dp K H' v d
  | .none, _, h => by cases h; exact .non
  | .bool b, _, h => by cases h; exact .bl b
  | .int i, _, h => by cases h; exact .int i
  | .str x, _, h => by cases h; exact .str x
  | .list ds, _, h => by
    cases h with
    | lst hs ha => exact .lst (k.seq hs) (DpAll.mono k ds _ ha)
  | .tuple ds, _, h => by
    cases h with
    | tup hs ha => exact .tup (Same.seqT k hs) (DpAll.mono k ds _ ha)
  | .dict _, _, h => by cases h
theorem DpAll.mono {K : PySem.W.Frag} {H H' : Hp} (k : Same H H') : ∀ (ds : List PyData) (vs : List V), DpAll K H vs ds → DpAll K H' vs ds
  | [], _, h => by cases h; exact .nil
  | d :: ds, _, h => by
    cases h with
    | cons h1 h2 => exact .cons (Dp.mono k d _ h1) (DpAll.mono k ds _ h2)
end
theorem DpAll.length {K : PySem.W.Frag} {H : Hp} : ∀ {vs : List V} {ds : List PyData}, DpAll K H vs ds → vs.length = ds.length
  | _, [], h => by cases h; rfl
  | _, d :: ds, h => by
    cases h with
    | cons h1 h2 => simp [DpAll.length h2]
theorem DpAll.get {K : PySem.W.Frag} {H : Hp} : ∀ {vs : List V} {ds : List PyData} {i : Nat} {d : PyData}, DpAll K H vs ds → ds[i]? = some d → ∃ v, vs[i]? = some v ∧ Dp K H v d
  | _, [], _, _, h, e => by simp at e
  | _, d :: ds, 0, _, h, e => by
    cases h with
    | cons h1 h2 => simp at e; subst e; exact ⟨_, rfl, h1⟩
  | _, d :: ds, i + 1, _, h, e => by
    cases h with
    | cons h1 h2 =>
      obtain ⟨v, e2, h3⟩ := DpAll.get h2 (i := i) (by simpa using e)
      exact ⟨v, by simpa using e2, h3⟩
theorem DpAll.get' {K : PySem.W.Frag} {H : Hp} : ∀ {vs : List V} {ds : List PyData} {i : Nat} {v : V}, DpAll K H vs ds → vs[i]? = some v → ∃ d, ds[i]? = some d ∧ Dp K H v d
  | _, [], _, _, h, e => by cases h; simp at e
  | _, d :: ds, 0, _, h, e => by
    cases h with
    | cons h1 h2 => simp at e; subst e; exact ⟨_, rfl, h1⟩
  | _, d :: ds, i + 1, _, h, e => by
    cases h with
    | cons h1 h2 =>
      obtain ⟨v, e2, h3⟩ := DpAll.get' h2 (i := i) (by simpa using e)
      exact ⟨v, by simpa using e2, h3⟩
theorem DpAll.append {K : PySem.W.Frag} {H : Hp} : ∀ {vs ws : List V} {ds es : List PyData}, DpAll K H vs ds → DpAll K H ws es → DpAll K H (vs ++ ws) (ds ++ es)
  | _, _, [], _, h, g => by cases h; exact g
  | _, _, d :: ds, _, h, g => by
    cases h with
    | cons h1 h2 => exact .cons h1 (DpAll.append h2 g)
theorem DpAll.take {K : PySem.W.Frag} {H : Hp} : ∀ (n : Nat) {vs : List V} {ds : List PyData}, DpAll K H vs ds → DpAll K H (vs.take n) (ds.take n)
  | 0, _, _, _ => by simp; exact .nil
  | n + 1, _, [], h => by cases h; simp; exact .nil
  | n + 1, _, d :: ds, h => by
    cases h with
    | cons h1 h2 => simp; exact .cons h1 (DpAll.take n h2)
theorem DpAll.drop {K : PySem.W.Frag} {H : Hp} : ∀ (n : Nat) {vs : List V} {ds : List PyData}, DpAll K H vs ds → DpAll K H (vs.drop n) (ds.drop n)
  | 0, _, _, h => by simpa using h
  | n + 1, _, [], h => by cases h; simp; exact .nil
  | n + 1, _, d :: ds, h => by
    cases h with
    | cons h1 h2 => simpa using DpAll.drop n h2
theorem DpAll.set {K : PySem.W.Frag} {H : Hp} {v : V} {d : PyData} (hd : Dp K H v d) : ∀ (n : Nat) {vs : List V} {ds : List PyData}, DpAll K H vs ds → DpAll K H (vs.set n v) (ds.set n d)
  | _, _, [], h => by cases h; exact .nil
  | 0, _, e :: ds, h => by
    cases h with
    | cons h1 h2 => exact .cons hd h2
  | n + 1, _, e :: ds, h => by
    cases h with
    | cons h1 h2 => exact .cons h1 (DpAll.set hd n h2)
theorem DpAll.one {K : PySem.W.Frag} {H : Hp} {v : V} {d : PyData} (h : Dp K H v d) : DpAll K H [v] [d] := .cons h .nil

end L2
namespace DL
open PySem PySem.Spec PyProof.Rows L2
/-! ### the draws' state over the heap -/
variable [Tbs]
open LamX (Tabs TabS CodeO)
def StOk (As : List Addr) (t : Option DS) (H : Hp) : Prop := Tabs Tbs.T H ∧
  match t with
  | none => As = tabA
  | some st => ∃ d c l, As = tabA ++ [d, c, l] ∧ d ≠ c ∧ d ≠ l ∧ c ≠ l ∧
      H d = some (.dK [(.inr "cells", .ref c), (.inr "lefts", .ref l), (.inr "at", .int st.pos)]) ∧
      H c = some (.lst (st.cells.map .int)) ∧ H l = some (.lst (st.lefts.map .int))
theorem tab_there {H : Hp} (h : Tabs Tbs.T H) : ∀ p ∈ tabA, ∃ ps, H p = some (.tbl ps) := fun p hp => by
  obtain ⟨q, hq, rfl⟩ := List.mem_map.mp hp
  obtain ⟨ps, e, _⟩ := h q hq
  exact ⟨ps, e⟩
theorem StOk.there {As : List Addr} {t : Option DS} {H : Hp} (h : StOk As t H) : ∀ p ∈ As, H p ≠ none := by
  obtain ⟨hT, h⟩ := h
  have ta : ∀ p ∈ tabA, H p ≠ none := fun p hp => by
    obtain ⟨ps, e⟩ := tab_there hT p hp
    rw [e]; simp
  cases t with
  | none =>
    have e : As = tabA := h
    subst e; exact ta
  | some st =>
    obtain ⟨d, c, l, rfl, _, _, _, h1, h2, h3⟩ := h
    intro p hp
    rcases List.mem_append.mp hp with hp | hp
    · exact ta p hp
    · simp at hp
      rcases hp with rfl | rfl | rfl
      · rw [h1]; simp
      · rw [h2]; simp
      · rw [h3]; simp
/-- elsewhere the heap may change, but not at code objects -/
theorem tab_upd {H : Hp} {p : Addr} {o : HO} (h : Tabs Tbs.T H) (n1 : p ∉ tabA) (n2 : ∀ c q, H p ≠ some (CodeO c q)) : Tabs Tbs.T (upd H p o) := fun q hq => by
  obtain ⟨ps, e1, e2, e3⟩ := h q hq
  have ne : q.1 ≠ p := fun z => n1 (by rw [← z]; exact List.mem_map.mpr ⟨q, hq, rfl⟩)
  refine ⟨ps, by rw [upd_ne ne]; exact e1, e2, fun pos cv hc => ?_⟩
  obtain ⟨c, e4, e5⟩ := e3 pos cv hc
  exact ⟨c, e4, by rw [upd_ne (fun z => n2 c q.2 (by rw [← z]; exact e5))]; exact e5⟩
theorem not_tab {H : Hp} {p : Addr} (h : Tabs Tbs.T H) (n : ∀ ps, H p ≠ some (.tbl ps)) : p ∉ tabA := fun hp => by
  obtain ⟨ps, e⟩ := tab_there h p hp
  exact n ps e
theorem code_ne {c : Addr} {q : Str} {o : HO} (h : CodeO c q = o) (n : ∀ φ, o ≠ .ext φ) : False := n _ (by rw [← h]; rfl)
theorem StOk.upd {As : List Addr} {t : Option DS} {H : Hp} {p : Addr} {o : HO} (h : StOk As t H) (np : p ∉ As) (n2 : ∀ c q, H p ≠ some (CodeO c q)) : StOk As t (L2.upd H p o) := by
  obtain ⟨hT, h⟩ := h
  have k : ∀ q ∈ As, L2.upd H p o q = H q := fun q hq => upd_ne (fun z => np (by rw [← z]; exact hq))
  cases t with
  | none =>
    have e : As = tabA := h
    exact ⟨tab_upd hT (by rw [← e]; exact np) n2, e⟩
  | some st =>
    obtain ⟨d, c, l, e, a1, a2, a3, h1, h2, h3⟩ := h
    refine ⟨tab_upd hT (fun z => np (by rw [e]; exact List.mem_append_left _ z)) n2, d, c, l, e, a1, a2, a3, ?_, ?_, ?_⟩
    · rw [k d (by rw [e]; simp)]; exact h1
    · rw [k c (by rw [e]; simp)]; exact h2
    · rw [k l (by rw [e]; simp)]; exact h3
theorem none_code {H : Hp} {p : Addr} (n : H p = none) (c : Addr) (q : Str) : H p ≠ some (CodeO c q) := fun z => by rw [n] at z; cases z
theorem lst_code {H : Hp} {p : Addr} {vs : List V} (n : H p = some (.lst vs)) (c : Addr) (q : Str) : H p ≠ some (CodeO c q) := fun z => by rw [n] at z; exact code_ne (Option.some.inj z).symm (fun φ w => by cases w)
theorem dK_code {H : Hp} {p : Addr} {kvs : List (Key × V)} (n : H p = some (.dK kvs)) (c : Addr) (q : Str) : H p ≠ some (CodeO c q) := fun z => by rw [n] at z; exact code_ne (Option.some.inj z).symm (fun φ w => by cases w)
/-- .. apart from the data -/
structure StF (As : List Addr) (t : Option DS) (F H : Hp) : Prop where
  ok : StOk As t H
  sf : ∀ p ∈ As, F p = none

/-! ### values -/
def OwnL (K : PySem.W.Frag) (As : List Addr) (F H : Hp) (v : V) (xs : List D) : Prop := ∃ p vs, v = .ref p ∧ p ∉ As ∧ F p = none ∧ H p = some (.lst vs) ∧ DpAll K F vs xs
def sd (As : List Addr) : Option Addr := (As.drop tabA.length).head?
theorem sd_tab : sd tabA = none := by simp [sd]
def VOk (K : PySem.W.Frag) (As : List Addr) (F H : Hp) (v : V) : Rv → Prop
  | .d x => Dp K F v x
  | .l xs => OwnL K As F H v xs
  | .b xs => OwnL K As F H v xs
  | .s => ∃ d, v = .ref d ∧ sd As = some d
theorem OwnL.mono {K : PySem.W.Frag} {As As' : List Addr} {F H F' H' : Hp} {v : V} {xs : List D} (g : Grow As F H As' F' H') (h : OwnL K As F H v xs) : OwnL K As' F' H' v xs := by
  obtain ⟨p, vs, e, n, f, hp, ha⟩ := h
  refine ⟨p, vs, e, fun z => ?_, g.nn p f (by rw [hp]; simp), g.hh p _ n hp, DpAll.mono g.ff _ _ ha⟩
  rcases g.mem z with q | q
  · exact n q
  · rw [q] at hp; cases hp
theorem VOk.mono {K : PySem.W.Frag} {As As' : List Addr} {F H F' H' : Hp} {v : V} {r : Rv} (g : Grow As F H As' F' H') (h : VOk K As F H v r) : VOk K As' F' H' v r := by
  cases r with
  | d x => exact Dp.mono g.ff _ _ h
  | l xs => exact OwnL.mono g h
  | b xs => exact OwnL.mono g h
  | s =>
    obtain ⟨d, e, hd⟩ := h
    refine ⟨d, e, ?_⟩
    rcases g.ss with q | ⟨q, _⟩
    · rw [q]; exact hd
    · rw [q, sd_tab] at hd; cases hd
/-- fields of an exception -/
def XdAll (K : PySem.W.Frag) (F : Hp) (vs : List (Str × V)) (fs : List (Str × D)) : Prop := Paired (fun (p : Str × V) (q : Str × D) => p.1 = q.1 ∧ Dp K F p.2 q.2) vs fs
theorem XdAll.mono {K : PySem.W.Frag} {F F' : Hp} (k : Same F F') {vs : List (Str × V)} {fs : List (Str × D)} (h : XdAll K F vs fs) : XdAll K F' vs fs := Paired.mapP h fun _ _ q => ⟨q.1, Dp.mono k _ _ q.2⟩
def ExAt (K : PySem.W.Frag) (As : List Addr) (F H : Hp) (d : Option Addr) (fs : List (Str × D)) : Prop :=
  (fs = [] ∧ d = none) ∨ ∃ a vs, d = some a ∧ a ∉ As ∧ H a = some (.xd vs) ∧ XdAll K F vs fs
theorem ExAt.mono {K : PySem.W.Frag} {As As' : List Addr} {F H F' H' : Hp} {d : Option Addr} {fs : List (Str × D)} (g : Grow As F H As' F' H') (h : ExAt K As F H d fs) : ExAt K As' F' H' d fs := by
  rcases h with h | ⟨a, vs, e, n, ha, hx⟩
  · exact .inl h
  · refine .inr ⟨a, vs, e, fun z => ?_, g.hh a _ n ha, hx.mono g.ff⟩
    rcases g.mem z with q | q
    · exact n q
    · rw [q] at ha; cases ha
/-- slots; xi: the exception that an except suite handles, and its dict -/
abbrev XI := Option (Addr × Option Addr × Str)
def SlOk (K : PySem.W.Frag) (xi : XI) (As : List Addr) (F H : Hp) (o : Option (Option V)) : Sl → Prop
  | .un => True
  | .d x => ∃ v, o = some (some v) ∧ Dp K F v x
  | .l xs => ∃ v, o = some (some v) ∧ OwnL K As F H v xs
  | .s => ∃ d, o = some (some (.ref d)) ∧ sd As = some d
  | .e c fs => ∃ a d, xi = some (a, d, c) ∧ o = some (some (.ref a)) ∧ ExAt K As F H d fs
theorem SlOk.mono {K : PySem.W.Frag} {xi : XI} {As As' : List Addr} {F H F' H' : Hp} {o : Option (Option V)} {s : Sl} (g : Grow As F H As' F' H') (h : SlOk K xi As F H o s) : SlOk K xi As' F' H' o s := by
  cases s with
  | un => trivial
  | d x => obtain ⟨v, e, h⟩ := h; exact ⟨v, e, Dp.mono g.ff _ _ h⟩
  | l xs => obtain ⟨v, e, h⟩ := h; exact ⟨v, e, OwnL.mono g h⟩
  | s =>
    obtain ⟨d, e, h⟩ := h
    obtain ⟨d', e', h'⟩ := (VOk.mono (K := K) (r := .s) g ⟨d, rfl, h⟩)
    cases e'
    exact ⟨d, e, h'⟩
  | e c fs => obtain ⟨a, d, e1, e2, h⟩ := h; exact ⟨a, d, e1, e2, h.mono g⟩
structure Rel (K : PySem.W.Frag) (xi : XI) (As : List Addr) (F : Hp) (G : Gm) (t : Option DS) (σ : Sg) (H : Hp) : Prop where
  sub : Same F H
  st : StF As t F H
  len : G.length = σ.length
  slot : ∀ (i : Nat) (s : Sl), G[i]? = some s → SlOk K xi As F H σ[i]? s
  inj : ∀ (i j : Nat) xs ys v, i ≠ j → G[i]? = some (.l xs) → G[j]? = some (.l ys) → σ[i]? = some (some v) → σ[j]? = some (some v) → False
theorem Rel.mono {K : PySem.W.Frag} {xi : XI} {As As' : List Addr} {F H F' H' : Hp} {G : Gm} {t t' : Option DS} {σ : Sg} (R : Rel K xi As F G t σ H) (g : Grow As F H As' F' H') (s : StF As' t' F' H') : Rel K xi As' F' G t' σ H' :=
  ⟨g.fh, s, R.len, fun i s e => (R.slot i s e).mono g, R.inj⟩

/-! ### what is promised of a result -/
def Fresh (H : Hp) (v : V) : Rv → Prop
  | .l _ => ∃ p, v = .ref p ∧ H p = none
  | _ => True
structure Pm where
  K : PySem.W.Frag
  mg : Str → Option Value
  xi : XI
  W : WX
/-- an exception's wish -/
def PostX (P : Pm) (As : List Addr) (F H : Hp) (σ : Sg) (c : Str) (fs : List (Str × D)) (t : Option DS) : Prop :=
  ∀ As' F' H' C d, P.mg c = some (.ref C) → Grow As F H As' F' H' → StF As' t F' H' → ExAt P.K As' F' H' d fs → P.W (.ref C) d σ H'
def PostE (P : Pm) (As : List Addr) (F H : Hp) (σ : Sg) (Q : VK) : Rs Rv → Prop
  | .ok r t => ∀ As' F' H' v, Grow As F H As' F' H' → StF As' t F' H' → VOk P.K As' F' H' v r → Fresh H v r → Q v H'
  | .ex c fs t => PostX P As F H σ c fs t
  | .stuck => False
def PostA (P : Pm) (As : List Addr) (F H : Hp) (σ : Sg) (Q : List V → Hp → Prop) : Rs (List Rv) → Prop
  | .ok rs t => ∀ As' F' H' vs, Grow As F H As' F' H' → StF As' t F' H' → Paired (VOk P.K As' F' H') vs rs → Q vs H'
  | .ex c fs t => PostX P As F H σ c fs t
  | .stuck => False
def PostB (P : Pm) (As : List Addr) (F H : Hp) (σ : Sg) (Q : Bool → Hp → Prop) : Rs Bool → Prop
  | .ok b t => ∀ As' F' H', Grow As F H As' F' H' → StF As' t F' H' → Q b H'
  | .ex c fs t => PostX P As F H σ c fs t
  | .stuck => False
theorem PostX.re {P : Pm} {As As1 : List Addr} {F F1 H H1 : Hp} {σ : Sg} {c : Str} {fs : List (Str × D)} {t : Option DS} (g : Grow As F H As1 F1 H1) (h : PostX P As F H σ c fs t) : PostX P As1 F1 H1 σ c fs t :=
  fun As' F' H' C d e g' s x => h As' F' H' C d e (g.trans g') s x
theorem Grow.nw {As As1 : List Addr} {F F1 H H1 : Hp} (g : Grow As F H As1 F1 H1) {p : Addr} (h : H1 p = none) : H p = none := by
  cases z : H p with
  | none => rfl
  | some o => exact absurd h (g.dd p (by rw [z]; simp))
theorem PostE.re {P : Pm} {As As1 : List Addr} {F F1 H H1 : Hp} {σ : Sg} {Q : VK} {r : Rs Rv} (g : Grow As F H As1 F1 H1) (h : PostE P As F H σ Q r) : PostE P As1 F1 H1 σ Q r := by
  cases r with
  | ok r t =>
    refine fun As' F' H' v g' s x f => h As' F' H' v (g.trans g') s x ?_
    cases r with
    | l xs => obtain ⟨p, e, n⟩ := f; exact ⟨p, e, g.nw n⟩
    | d _ => trivial
    | b _ => trivial
    | s => trivial
  | ex c fs t => exact PostX.re g h
  | stuck => exact h
theorem PostA.re {P : Pm} {As As1 : List Addr} {F F1 H H1 : Hp} {σ : Sg} {Q : List V → Hp → Prop} {r : Rs (List Rv)} (g : Grow As F H As1 F1 H1) (h : PostA P As F H σ Q r) : PostA P As1 F1 H1 σ Q r := by
  cases r with
  | ok r t => exact fun As' F' H' v g' s x => h As' F' H' v (g.trans g') s x
  | ex c fs t => exact PostX.re g h
  | stuck => exact h
theorem PostB.re {P : Pm} {As As1 : List Addr} {F F1 H H1 : Hp} {σ : Sg} {Q : Bool → Hp → Prop} {r : Rs Bool} (g : Grow As F H As1 F1 H1) (h : PostB P As F H σ Q r) : PostB P As1 F1 H1 σ Q r := by
  cases r with
  | ok r t => exact fun As' F' H' g' s => h As' F' H' (g.trans g') s
  | ex c fs t => exact PostX.re g h
  | stuck => exact h
/-- the readings -/
def teM (P : Pm) (m : EM) : TE := fun σ H Q => ∃ As F G t, Rel P.K P.xi As F G t σ H ∧ PostE P As F H σ Q (m G t)
def taM (P : Pm) (m : AM) : TA := fun σ H Q => ∃ As F G t, Rel P.K P.xi As F G t σ H ∧ PostA P As F H σ Q (m G t)
def ttM (P : Pm) (m : BM) : TT := fun σ H Q => ∃ As F G t, Rel P.K P.xi As F G t σ H ∧ PostB P As F H σ Q (m G t)
theorem _root_.L2.PE.imp {X : Cx} {e : Expr} {t t' : TE} (h : PE X e t) (hi : ∀ σ H Q, t' σ H Q → t σ H Q) : PE X e t' := ⟨fun pins s σ H Q I q => h.run pins s σ H Q I (hi _ _ _ q)⟩
theorem _root_.L2.PT.imp {X : Cx} {e : Expr} {t t' : TT} (h : PT X e t) (hi : ∀ σ H Q, t' σ H Q → t σ H Q) : PT X e t' := ⟨fun pins s σ H Q I q => h.run pins s σ H Q I (hi _ _ _ q)⟩
theorem _root_.L2.PW.imp {X : Cx} {e : Expr} {t t' : TT} (h : PW X e t) (hi : ∀ σ H Q, t' σ H Q → t σ H Q) : PW X e t' := ⟨fun wh pins s σ H Q I q => h.run wh pins s σ H Q I (hi _ _ _ q)⟩
theorem _root_.L2.PA.imp {X : Cx} {e : List Expr} {t t' : TA} (h : PA X e t) (hi : ∀ σ H Q, t' σ H Q → t σ H Q) : PA X e t' := ⟨fun p pins s σ H Q I q => h.run p pins s σ H Q I (hi _ _ _ q)⟩
theorem _root_.L2.PS.imp {X : Cx} {e : Stmt} {t t' : TS} (h : PS X e t) (hi : ∀ D σ H, t' D σ H → t D σ H) : PS X e t' := ⟨fun pins s σ H D I q => h.run pins s σ H D I (hi _ _ _ q)⟩
theorem _root_.L2.PSs.imp {X : Cx} {e : List Stmt} {t t' : TS} (h : PSs X e t) (hi : ∀ D σ H, t' D σ H → t D σ H) : PSs X e t' := ⟨fun pins s σ H D I q => h.run pins s σ H D I (hi _ _ _ q)⟩

/-! ### one after another -/
section
variable {P : Pm} {As : List Addr} {F H : Hp} {G : Gm} {t : Option DS} {σ : Sg}
/-- the sorts of ends -/
class Ends' (β : Type) where
  K : Type
  post : Pm → List Addr → Hp → Hp → Sg → K → Rs β → Prop
  re : ∀ {P As As1 F F1 H H1 σ Q} {r : Rs β}, Grow As F H As1 F1 H1 → post P As F H σ Q r → post P As1 F1 H1 σ Q r
  ex : ∀ {P As F H σ Q c fs t}, post P As F H σ Q (.ex c fs t) → PostX P As F H σ c fs t
  st : ∀ {P As F H σ Q}, post P As F H σ Q .stuck → False
instance : Ends' Rv := ⟨VK, PostE, PostE.re, fun h => h, fun h => h⟩
instance : Ends' (List Rv) := ⟨List V → Hp → Prop, PostA, PostA.re, fun h => h, fun h => h⟩
instance : Ends' Bool := ⟨Bool → Hp → Prop, PostB, PostB.re, fun h => h, fun h => h⟩
theorem bindE {β : Type} [E : Ends' β] {m : Rs Rv} {f : Rv → Option DS → Rs β} {Q : E.K} {Q1 : VK} (R : Rel P.K P.xi As F G t σ H) (h : E.post P As F H σ Q (m.bind f))
    (h2 : ∀ As1 F1 H1 v1 r1 t1, m = .ok r1 t1 → Grow As F H As1 F1 H1 → Rel P.K P.xi As1 F1 G t1 σ H1 → VOk P.K As1 F1 H1 v1 r1 → E.post P As1 F1 H1 σ Q (f r1 t1) → Q1 v1 H1) : PostE P As F H σ Q1 m := by
  cases m with
  | ok r1 t1 => exact fun As1 F1 H1 v1 g s x _ => h2 As1 F1 H1 v1 r1 t1 rfl g (R.mono g s) x (E.re g h)
  | ex c fs t => exact E.ex h
  | stuck => exact E.st h
theorem bindA {β : Type} [E : Ends' β] {m : Rs (List Rv)} {f : List Rv → Option DS → Rs β} {Q : E.K} {Q1 : List V → Hp → Prop} (R : Rel P.K P.xi As F G t σ H) (h : E.post P As F H σ Q (m.bind f))
    (h2 : ∀ As1 F1 H1 v1 r1 t1, m = .ok r1 t1 → Grow As F H As1 F1 H1 → Rel P.K P.xi As1 F1 G t1 σ H1 → Paired (VOk P.K As1 F1 H1) v1 r1 → E.post P As1 F1 H1 σ Q (f r1 t1) → Q1 v1 H1) : PostA P As F H σ Q1 m := by
  cases m with
  | ok r1 t1 => exact fun As1 F1 H1 v1 g s x => h2 As1 F1 H1 v1 r1 t1 rfl g (R.mono g s) x (E.re g h)
  | ex c fs t => exact E.ex h
  | stuck => exact E.st h
theorem bindB {β : Type} [E : Ends' β] {m : Rs Bool} {f : Bool → Option DS → Rs β} {Q : E.K} {Q1 : Bool → Hp → Prop} (R : Rel P.K P.xi As F G t σ H) (h : E.post P As F H σ Q (m.bind f))
    (h2 : ∀ As1 F1 H1 r1 t1, m = .ok r1 t1 → Grow As F H As1 F1 H1 → Rel P.K P.xi As1 F1 G t1 σ H1 → E.post P As1 F1 H1 σ Q (f r1 t1) → Q1 r1 H1) : PostB P As F H σ Q1 m := by
  cases m with
  | ok r1 t1 => exact fun As1 F1 H1 g s => h2 As1 F1 H1 r1 t1 rfl g (R.mono g s) (E.re g h)
  | ex c fs t => exact E.ex h
  | stuck => exact E.st h
end
/-! the same, by the sorts of both -/
theorem bindEE {P : Pm} {As : List Addr} {F H : Hp} {G : Gm} {t : Option DS} {σ : Sg} {m : Rs (Rv)} {f : Rv → Option DS → Rs (Rv)} {Q : VK} {Q1 : VK} (R : Rel P.K P.xi As F G t σ H) (h : PostE P As F H σ Q (m.bind f))
    (h2 : ∀ As1 F1 H1 v1 r1 t1, m = .ok r1 t1 → Grow As F H As1 F1 H1 → Rel P.K P.xi As1 F1 G t1 σ H1 → VOk P.K As1 F1 H1 v1 r1 → PostE P As1 F1 H1 σ Q (f r1 t1) → Q1 v1 H1) : PostE P As F H σ Q1 m :=
  bindE (β := Rv) (Q := Q) R h h2
theorem bindEA {P : Pm} {As : List Addr} {F H : Hp} {G : Gm} {t : Option DS} {σ : Sg} {m : Rs (Rv)} {f : Rv → Option DS → Rs (List Rv)} {Q : (List V → Hp → Prop)} {Q1 : VK} (R : Rel P.K P.xi As F G t σ H) (h : PostA P As F H σ Q (m.bind f))
    (h2 : ∀ As1 F1 H1 v1 r1 t1, m = .ok r1 t1 → Grow As F H As1 F1 H1 → Rel P.K P.xi As1 F1 G t1 σ H1 → VOk P.K As1 F1 H1 v1 r1 → PostA P As1 F1 H1 σ Q (f r1 t1) → Q1 v1 H1) : PostE P As F H σ Q1 m :=
  bindE (β := List Rv) (Q := Q) R h h2
theorem bindEB {P : Pm} {As : List Addr} {F H : Hp} {G : Gm} {t : Option DS} {σ : Sg} {m : Rs (Rv)} {f : Rv → Option DS → Rs (Bool)} {Q : (Bool → Hp → Prop)} {Q1 : VK} (R : Rel P.K P.xi As F G t σ H) (h : PostB P As F H σ Q (m.bind f))
    (h2 : ∀ As1 F1 H1 v1 r1 t1, m = .ok r1 t1 → Grow As F H As1 F1 H1 → Rel P.K P.xi As1 F1 G t1 σ H1 → VOk P.K As1 F1 H1 v1 r1 → PostB P As1 F1 H1 σ Q (f r1 t1) → Q1 v1 H1) : PostE P As F H σ Q1 m :=
  bindE (β := Bool) (Q := Q) R h h2
theorem bindAE {P : Pm} {As : List Addr} {F H : Hp} {G : Gm} {t : Option DS} {σ : Sg} {m : Rs (List Rv)} {f : List Rv → Option DS → Rs (Rv)} {Q : VK} {Q1 : (List V → Hp → Prop)} (R : Rel P.K P.xi As F G t σ H) (h : PostE P As F H σ Q (m.bind f))
    (h2 : ∀ As1 F1 H1 v1 r1 t1, m = .ok r1 t1 → Grow As F H As1 F1 H1 → Rel P.K P.xi As1 F1 G t1 σ H1 → Paired (VOk P.K As1 F1 H1) v1 r1 → PostE P As1 F1 H1 σ Q (f r1 t1) → Q1 v1 H1) : PostA P As F H σ Q1 m :=
  bindA (β := Rv) (Q := Q) R h h2
theorem bindAA {P : Pm} {As : List Addr} {F H : Hp} {G : Gm} {t : Option DS} {σ : Sg} {m : Rs (List Rv)} {f : List Rv → Option DS → Rs (List Rv)} {Q : (List V → Hp → Prop)} {Q1 : (List V → Hp → Prop)} (R : Rel P.K P.xi As F G t σ H) (h : PostA P As F H σ Q (m.bind f))
    (h2 : ∀ As1 F1 H1 v1 r1 t1, m = .ok r1 t1 → Grow As F H As1 F1 H1 → Rel P.K P.xi As1 F1 G t1 σ H1 → Paired (VOk P.K As1 F1 H1) v1 r1 → PostA P As1 F1 H1 σ Q (f r1 t1) → Q1 v1 H1) : PostA P As F H σ Q1 m :=
  bindA (β := List Rv) (Q := Q) R h h2
theorem bindAB {P : Pm} {As : List Addr} {F H : Hp} {G : Gm} {t : Option DS} {σ : Sg} {m : Rs (List Rv)} {f : List Rv → Option DS → Rs (Bool)} {Q : (Bool → Hp → Prop)} {Q1 : (List V → Hp → Prop)} (R : Rel P.K P.xi As F G t σ H) (h : PostB P As F H σ Q (m.bind f))
    (h2 : ∀ As1 F1 H1 v1 r1 t1, m = .ok r1 t1 → Grow As F H As1 F1 H1 → Rel P.K P.xi As1 F1 G t1 σ H1 → Paired (VOk P.K As1 F1 H1) v1 r1 → PostB P As1 F1 H1 σ Q (f r1 t1) → Q1 v1 H1) : PostA P As F H σ Q1 m :=
  bindA (β := Bool) (Q := Q) R h h2
theorem bindBE {P : Pm} {As : List Addr} {F H : Hp} {G : Gm} {t : Option DS} {σ : Sg} {m : Rs (Bool)} {f : Bool → Option DS → Rs (Rv)} {Q : VK} {Q1 : (Bool → Hp → Prop)} (R : Rel P.K P.xi As F G t σ H) (h : PostE P As F H σ Q (m.bind f))
    (h2 : ∀ As1 F1 H1 r1 t1, m = .ok r1 t1 → Grow As F H As1 F1 H1 → Rel P.K P.xi As1 F1 G t1 σ H1 → PostE P As1 F1 H1 σ Q (f r1 t1) → Q1 r1 H1) : PostB P As F H σ Q1 m :=
  bindB (β := Rv) (Q := Q) R h h2
theorem bindBA {P : Pm} {As : List Addr} {F H : Hp} {G : Gm} {t : Option DS} {σ : Sg} {m : Rs (Bool)} {f : Bool → Option DS → Rs (List Rv)} {Q : (List V → Hp → Prop)} {Q1 : (Bool → Hp → Prop)} (R : Rel P.K P.xi As F G t σ H) (h : PostA P As F H σ Q (m.bind f))
    (h2 : ∀ As1 F1 H1 r1 t1, m = .ok r1 t1 → Grow As F H As1 F1 H1 → Rel P.K P.xi As1 F1 G t1 σ H1 → PostA P As1 F1 H1 σ Q (f r1 t1) → Q1 r1 H1) : PostB P As F H σ Q1 m :=
  bindB (β := List Rv) (Q := Q) R h h2
theorem bindBB {P : Pm} {As : List Addr} {F H : Hp} {G : Gm} {t : Option DS} {σ : Sg} {m : Rs (Bool)} {f : Bool → Option DS → Rs (Bool)} {Q : (Bool → Hp → Prop)} {Q1 : (Bool → Hp → Prop)} (R : Rel P.K P.xi As F G t σ H) (h : PostB P As F H σ Q (m.bind f))
    (h2 : ∀ As1 F1 H1 r1 t1, m = .ok r1 t1 → Grow As F H As1 F1 H1 → Rel P.K P.xi As1 F1 G t1 σ H1 → PostB P As1 F1 H1 σ Q (f r1 t1) → Q1 r1 H1) : PostB P As F H σ Q1 m :=
  bindB (β := Bool) (Q := Q) R h h2
/-- a new list is given away -/
theorem freeze {K : PySem.W.Frag} {As As' : List Addr} {F H F' H' : Hp} {v : V} {xs : List D} {t : Option DS} (g : Grow As F H As' F' H') (s : StF As' t F' H') (h : OwnL K As' F' H' v xs) (f : ∃ p, v = .ref p ∧ H p = none) :
    ∃ F2, Grow As F H As' F2 H' ∧ StF As' t F2 H' ∧ Dp K F2 v (.list xs) ∧ Same F' F2 := by
  obtain ⟨p, vs, e, n, fp, hp, ha⟩ := h
  obtain ⟨p', e', np⟩ := f
  subst e
  cases e'
  have k : Same F' (upd F' p (.lst vs)) := fun b o e => by rw [upd_ne (ne_of_none e fp)]; exact e
  refine ⟨upd F' p (.lst vs), ⟨g.ff.trans k, fun b o e => ?_, g.hh, fun q e z => ?_, g.dd, g.ss⟩, ⟨s.ok, fun q hq => ?_⟩, .lst (SqL.of upd_same) (DpAll.mono k _ _ ha), k⟩
  · by_cases hb : b = p
    · subst hb; rw [upd_same] at e; cases e; exact hp
    · rw [upd_ne hb] at e; exact g.fh b o e
  · rw [upd_ne (fun z' => by subst z'; exact z np)]
    exact g.nn q e z
  · rw [upd_ne (fun z' => by subst z'; exact n hq)]
    exact s.sf q hq
theorem PostE.fz {P : Pm} {As : List Addr} {F H : Hp} {σ : Sg} {Q : VK} {r : Rs Rv} (h : PostE P As F H σ Q r.fz) : PostE P As F H σ Q r := by
  cases r with
  | ok r t =>
    cases r with
    | l xs =>
      intro As' F' H' v g s x f
      obtain ⟨F2, g2, s2, d2, _⟩ := freeze g s x f
      exact h As' F2 H' v g2 s2 d2 trivial
    | d x => exact h
    | b xs => exact h
    | s => exact h
  | ex c fs t => exact h
  | stuck => exact h
theorem teM_fz {P : Pm} {m : EM} {σ : Sg} {H : Hp} {Q : VK} (h : teM P (fun G t => (m G t).fz) σ H Q) : teM P m σ H Q := by
  obtain ⟨As, F, G, t, R, p⟩ := h
  exact ⟨As, F, G, t, R, p.fz⟩
/-- the expression e computes m -/
def SE (X : Cx) (P : Pm) (e : Expr) (m : EM) : Prop := PE X e (teM P m)
def SA (X : Cx) (P : Pm) (e : List Expr) (m : AM) : Prop := PA X e (taM P m)
def SB (X : Cx) (P : Pm) (e : Expr) (m : BM) : Prop := PT X e (ttM P m)
theorem SE.fz {X : Cx} {P : Pm} {e : Expr} {m : EM} (h : SE X P e m) : SE X P e (fun G t => (m G t).fz) := h.imp fun _ _ _ q => teM_fz q
end DL
end

section
set_option Elab.async false
set_option linter.all false
set_option maxRecDepth 100000
set_option maxHeartbeats 4000000
namespace DL
open PySem PySem.Spec PyProof.Rows L2
variable [Tbs]

/-! ### a new object -/
theorem alloc {As : List Addr} {t : Option DS} {F H : Hp} {p : Addr} {o : HO} (s : StF As t F H) (h : Same F H) (n : H p = none) :
    (Grow As F H As F (upd H p o) ∧ StF As t F (upd H p o)) ∧ Grow As F H As (upd F p o) (upd H p o) ∧ StF As t (upd F p o) (upd H p o) := by
  have fn : F p = none := h.free n
  have k : Same H (upd H p o) := fun b u e => by rw [upd_ne (ne_of_none e n)]; exact e
  have kf : Same F (upd F p o) := fun b u e => by rw [upd_ne (ne_of_none e fn)]; exact e
  have na : ∀ q ∈ As, q ≠ p := fun q hq e => s.ok.there q hq (by rw [e]; exact n)
  have st : StOk As t (upd H p o) := s.ok.upd (fun z => na p z rfl) (none_code n)
  have dd : ∀ q, H q ≠ none → upd H p o q ≠ none := fun q z => by
    by_cases e : q = p
    · rw [e, upd_same]; simp
    · rw [upd_ne e]; exact z
  refine ⟨⟨⟨Same.refl _, h.trans k, fun q u _ e => k q u e, fun q e _ => e, dd, .inl rfl⟩, st, s.sf⟩, ⟨kf, fun b u e => ?_, fun q u _ e => k q u e, fun q e z => ?_, dd, .inl rfl⟩, st, fun q hq => ?_⟩
  · by_cases hb : b = p
    · rw [hb, upd_same] at e ⊢; exact e
    · rw [upd_ne hb] at e ⊢; exact h b u e
  · rw [upd_ne (fun e' => z (by rw [e']; exact n))]; exact e
  · rw [upd_ne (na q hq)]; exact s.sf q hq

/-! ### names, constants -/
def mVar (i : Nat) : EM := fun G t => match G[i]? with
  | some (.d x) => .ok (.d x) t
  | some (.l xs) => .ok (.b xs) t
  | some .s => .ok .s t
  | _ => .stuck
def mC (x : D) : EM := fun _ t => .ok (.d x) t
section
variable {X : Cx} {P : Pm}
theorem se_var {i : Nat} {x : Str} {pos : Pos} (hN : X.N[i]? = some x) (hv : Vis X.env.scope x) (hd : (x == ("__debug__" : Str)) = false) (hcd : (x == ("__classdict__" : Str)) = false) : SE X P (.Name x pos) (mVar i) := by
  refine L2.PE.imp (pe_var hN hv hd hcd) fun σ H Q ⟨As, F, G, t, R, p⟩ => ?_
  unfold mVar at p
  split at p
  · rename_i x e
    obtain ⟨v, e1, h⟩ := R.slot i _ e
    exact ⟨v, e1, p As F H v (.refl R.sub) R.st h trivial⟩
  · rename_i xs e
    obtain ⟨v, e1, h⟩ := R.slot i _ e
    exact ⟨v, e1, p As F H v (.refl R.sub) R.st h trivial⟩
  · rename_i e
    obtain ⟨d, e1, h⟩ := R.slot i _ e
    exact ⟨.ref d, e1, p As F H _ (.refl R.sub) R.st ⟨d, rfl, h⟩ trivial⟩
  · exact p.elim
theorem se_c {e : Expr} {v : V} {x : D} (h : PE X e (tC v)) (hd : ∀ F, Dp P.K F v x) : SE X P e (mC x) :=
  h.imp fun σ H Q ⟨As, F, G, t, R, p⟩ => p As F H v (.refl R.sub) R.st (hd F) trivial
theorem se_int {i : Int} {j pos} : SE X P (.Constant (.int i) j pos) (mC (.int i)) := se_c pe_int fun _ => .int i
theorem se_bool {b : Bool} {j pos} : SE X P (.Constant (.bool b) j pos) (mC (.bool b)) := se_c pe_bl fun _ => .bl b
theorem se_none {j pos} : SE X P (.Constant .none j pos) (mC .none) := se_c pe_non fun _ => .non
theorem se_str {x : Str} {j pos} : SE X P (.Constant (.str x) j pos) (mC (.str x)) := se_c pe_str fun _ => .str x
theorem se_glob {x : Str} {v : V} {u : Value} {d : D} {pos : Pos} (hg : Gl X x) (hm : X.mg x = some u) (r : RelV v u) (hv : ∀ F, Dp P.K F v d) (hd : (x == ("__debug__" : Str)) = false) : SE X P (.Name x pos) (mC d) := se_c (pe_glob hg hm r hd) hv
end

/-! ### operators -/
def mBin (f : Rv → Rv → Option Rv) (a b : EM) : EM := fun G t => (a G t).fz.bind fun x t => (b G t).fz.bind fun y t => .of (f x y) t
def OpD (K : PySem.W.Frag) (r : R2) (f : Rv → Rv → Option Rv) : Prop := ∀ {x y z : Rv} {v u : V} {As : List Addr} {F H : Hp} {t : Option DS} {Q : VK}, f x y = some z → StF As t F H → Same F H → VOk K As F H v x → VOk K As F H u y →
  (∀ F' H' w, Grow As F H As F' H' → StF As t F' H' → VOk K As F' H' w z → Fresh H w z → Q w H') → r v u H Q
theorem OpD.or {K : PySem.W.Frag} {r r' : R2} {f f' : Rv → Rv → Option Rv} (h : OpD K r f) (h' : OpD K r' f') : OpD K (fun x y H Q => r x y H Q ∨ r' x y H Q) (fun x y => (f x y).or (f' x y)) := by
  intro x y z v u As F H t Q e s k vx vy q
  cases e1 : f x y with
  | some z' =>
    simp only [e1, Option.some_or, Option.some.injEq] at e
    subst e
    exact .inl (h e1 s k vx vy q)
  | none =>
    simp only [e1, Option.none_or] at e
    exact .inr (h' e s k vx vy q)
theorem OpR.or {X : Cx} {f : Value → Value → Sem Value} {r r' : R2} (h : OpR X f r) (h' : OpR X f r') : OpR X f (fun x y H Q => r x y H Q ∨ r' x y H Q) := by
  intro pins s σ H x y v u Q I rx ry q
  rcases q with q | q
  · exact h pins s σ H x y v u Q I rx ry q
  · exact h' pins s σ H x y v u Q I rx ry q
section
variable {X : Cx} {P : Pm} {a b : Expr} {ma mb : EM} {pos : Pos}
/-- two in a row, then an operation -/
theorem two {r : R2} {f : Rv → Rv → Option Rv} (hf : OpD P.K r f) {σ : Sg} {H : Hp} {Q : VK} (h : teM P (mBin f ma mb) σ H Q) : tOp r (teM P fun G t => (ma G t).fz) (teM P fun G t => (mb G t).fz) σ H Q := by
  obtain ⟨As, F, G, t, R, p⟩ := h
  refine ⟨As, F, G, t, R, bindEE R p fun As1 F1 H1 v1 r1 t1 _ g1 R1 x1 p1 => ⟨As1, F1, G, t1, R1, bindEE R1 p1 fun As2 F2 H2 v2 r2 t2 _ g2 R2 x2 p2 => ?_⟩⟩
  cases e : f r1 r2 with
  | none => rw [e] at p2; exact p2.elim
  | some z =>
    rw [e] at p2
    exact hf e R2.st R2.sub (x1.mono g2) x2 fun F' H' w g s x f => p2 As2 F' H' w g s x f
theorem se_bin {op : Operator} {r : R2} {f : Rv → Rv → Option Rv} (ho : OpR X (binaryOp op) r) (hf : OpD P.K r f) (ha : SE X P a ma) (hb : SE X P b mb) : SE X P (.BinOp a op b pos) (mBin f ma mb) :=
  L2.PE.imp (pe_op ho ha.fz hb.fz) fun σ H Q h => two hf h
theorem se_cmp {op : CmpOp} {r : R2} {f : Rv → Rv → Option Rv} (ho : OpR X (compareOp op) r) (hf : OpD P.K r f) (ha : SE X P a ma) (hb : SE X P b mb) (hm : behindInMarks op b = false) : SE X P (.Compare a [op] [b] pos) (mBin f ma mb) :=
  L2.PE.imp (pe_cmpR ho ha.fz hb.fz hm) fun σ H Q h => two hf h
end
/-- ints -/
def fI (C : Int → Int → Bool) (g : Int → Int → D) : Rv → Rv → Option Rv
  | .d (.int i), .d (.int j) => if C i j then some (.d (g i j)) else none
  | _, _ => none
theorem opd_I {K : PySem.W.Frag} {C : Int → Int → Bool} {C' : Int → Int → Prop} {g : Int → Int → D} {gv : Int → Int → V} (hC : ∀ i j, C i j = true → C' i j) (hg : ∀ F i j, Dp K F (gv i j) (g i j)) : OpD K (rI C' gv) (fI C g) := by
  intro x y z v u As F H t Q e s k vx vy q
  unfold fI at e
  split at e
  · rename_i i j
    split at e
    · rename_i hc
      cases e
      cases vx
      cases vy
      exact ⟨i, j, rfl, rfl, hC i j hc, q F H _ (.refl k) s (hg F i j) trivial⟩
    · cases e
  · cases e
theorem opd_I0 {K : PySem.W.Frag} {g : Int → Int → D} {gv : Int → Int → V} (hg : ∀ F i j, Dp K F (gv i j) (g i j)) : OpD K (rI0 gv) (fI (fun _ _ => true) g) := by
  intro x y z v u As F H t Q e s k vx vy q
  unfold fI at e
  split at e
  · rename_i i j
    cases e
    cases vx
    cases vy
    exact ⟨i, j, rfl, rfl, q F H _ (.refl k) s (hg F i j) trivial⟩
  · cases e
/-- read as data -/
def Rv.toD : Rv → Option D
  | .d x => some x
  | .l xs => some (.list xs)
  | .b xs => some (.list xs)
  | .s => none
theorem VOk.weak {K : PySem.W.Frag} {As : List Addr} {F H : Hp} {v : V} {r : Rv} {x : D} (k : Same F H) (h : VOk K As F H v r) (e : r.toD = some x) : Dp K H v x := by
  cases r with
  | d y => cases e; exact Dp.mono k _ _ h
  | l xs =>
    cases e
    obtain ⟨p, vs, rfl, _, _, hp, ha⟩ := h
    exact .lst (SqL.of hp) (DpAll.mono k _ _ ha)
  | b xs =>
    cases e
    obtain ⟨p, vs, rfl, _, _, hp, ha⟩ := h
    exact .lst (SqL.of hp) (DpAll.mono k _ _ ha)
  | s => cases e
/-- the items of a list -/
def Rv.items : Rv → Option (List D)
  | .d (.list xs) => some xs
  | .l xs => some xs
  | .b xs => some xs
  | _ => none
theorem VOk.items {K : PySem.W.Frag} {As : List Addr} {F H : Hp} {v : V} {r : Rv} {xs : List D} (k : Same F H) (h : VOk K As F H v r) (e : r.items = some xs) : ∃ p vs, v = .ref p ∧ SqL K H p vs ∧ DpAll K F vs xs := by
  cases r with
  | d y =>
    cases y with
    | list ys =>
      cases e
      cases h with
      | lst hs ha => exact ⟨_, _, rfl, k.seq hs, ha⟩
    | _ => cases e
  | l ys =>
    cases e
    obtain ⟨p, vs, rfl, _, _, hp, ha⟩ := h
    exact ⟨p, vs, rfl, SqL.of hp, ha⟩
  | b ys =>
    cases e
    obtain ⟨p, vs, rfl, _, _, hp, ha⟩ := h
    exact ⟨p, vs, rfl, SqL.of hp, ha⟩
  | s => cases e
def Rv.tup : Rv → Option (List D)
  | .d (.tuple xs) => some xs
  | _ => none
theorem VOk.tup {K : PySem.W.Frag} {As : List Addr} {F H : Hp} {v : V} {r : Rv} {xs : List D} (h : VOk K As F H v r) (e : r.tup = some xs) : ∃ p vs, v = .ref p ∧ SqT K F p vs ∧ DpAll K F vs xs := by
  cases r with
  | d y =>
    cases y with
    | tuple ys =>
      cases e
      cases h with
      | tup hs ha => exact ⟨_, _, rfl, hs, ha⟩
    | _ => cases e
  | _ => cases e
end DL
end

section
set_option Elab.async false
set_option linter.all false
set_option maxRecDepth 100000
set_option maxHeartbeats 4000000
namespace DL
open PySem PySem.Spec PyProof.Rows L2
variable [Tbs]

/-! ### operators, one by one -/
/-- a read-only operation: the answer is a scalar -/
theorem opd_read {K : PySem.W.Frag} {r : R2} {f : Rv → Rv → Option Rv} (g : D → D → Option (D × V)) (hv : ∀ x y d v, g x y = some (d, v) → ∀ F, Dp K F v d)
    (hf : ∀ x y z, f x y = some z → ∃ a b d v, x.toD = some a ∧ y.toD = some b ∧ g a b = some (d, v) ∧ z = .d d)
    (hr : ∀ a b d v w u H (Q : VK), g a b = some (d, v) → Dp K H w a → Dp K H u b → Q v H → r w u H Q) : OpD K r f := by
  intro x y z v u As F H t Q e s k vx vy q
  obtain ⟨a, b, d, w, e1, e2, e3, rfl⟩ := hf x y z e
  exact hr a b d w v u H Q e3 (vx.weak k e1) (vy.weak k e2) (q F H w (.refl k) s (hv a b d w e3 F) trivial)
def fRead (g : D → D → Option D) : Rv → Rv → Option Rv := fun x y => x.toD.bind fun a => y.toD.bind fun b => (g a b).map Rv.d
theorem fRead_some {g : D → D → Option D} {x y z : Rv} (h : fRead g x y = some z) : ∃ a b d, x.toD = some a ∧ y.toD = some b ∧ g a b = some d ∧ z = .d d := by
  unfold fRead at h
  cases e1 : x.toD with
  | none => rw [e1] at h; cases h
  | some a =>
    cases e2 : y.toD with
    | none => rw [e1, e2] at h; cases h
    | some b =>
      rw [e1, e2] at h
      cases e3 : g a b with
      | none => simp [e3] at h
      | some d =>
        simp [e3] at h
        exact ⟨a, b, d, rfl, rfl, e3, h.symm⟩
theorem opd_bool {K : PySem.W.Frag} {r : R2} {g : D → D → Option Bool} (hr : ∀ a b c w u H (Q : VK), g a b = some c → Dp K H w a → Dp K H u b → Q (.bl c) H → r w u H Q) : OpD K r (fRead fun a b => (g a b).map .bool) := by
  intro x y z v u As F H t Q e s k vx vy q
  obtain ⟨a, b, d, e1, e2, e3, rfl⟩ := fRead_some e
  cases e4 : g a b with
  | none => rw [e4] at e3; cases e3
  | some c =>
    rw [e4] at e3
    cases e3
    exact hr a b c v u H Q e4 (vx.weak k e1) (vy.weak k e2) (q F H _ (.refl k) s (.bl c) trivial)
section
variable {X : Cx}
/-- + -/
def rCatS (K : PySem.W.Frag) : R2 := fun x y H Q => ∃ l b xs zs, x = .ref l ∧ y = .ref b ∧ SqL K H l xs ∧ SqL K H b zs ∧ xs.length + zs.length ≤ sizeLine ∧ ∀ p, H p = none → Q (.ref p) (upd H p (.lst (xs ++ zs)))
theorem op_catS : OpR X (binaryOp .Add) (rCatS X.K) := by
  intro pins s σ H x y v u Q I rx ry h
  obtain ⟨l, b, xs, zs, rfl, rfl, hH, hB, hz, q⟩ := h
  cases rx
  cases ry
  obtain ⟨vs, r, pl, hl⟩ := I.list hH
  obtain ⟨ws, r2, pl2, hl2⟩ := I.list hB
  obtain ⟨⟨cls, dd, data, sl⟩, ho, hc, n, hd⟩ := id pl.isList
  obtain ⟨⟨cls2, dd2, data2, sl2⟩, ho2, hc2, n2, hd2⟩ := id pl2.isList
  simp only at hc hd hc2 hd2
  subst hc hd hc2 hd2
  have e : vs.toArray ++ ws.toArray = (vs ++ ws).toArray := by simp
  have e1 := r.length
  have e2 := r2.length
  refine concat_meets ⟨_, ho, rfl⟩ ⟨_, ho2, rfl⟩ noFill_list_add seq_list_add PySem.F.slot_list_add PySem.F.entry_list_add (PySem.F.args_list_add_2 _ _) (list_addW l b vs.toArray ws.toArray n n2 dd dd2 sl sl2 (by simp; omega)) ⟨ho, ho2, ?_⟩
  rw [e]
  exact ⟨.ref _, _, I.lnew (t' := s.toks) (r.append r2) (by rw [List.length_append]; omega), rfl, q _ I.fresh⟩
def fCat : Rv → Rv → Option Rv := fun x y => x.items.bind fun xs => y.items.bind fun ys => if xs.length + ys.length ≤ 16777216 then some (.l (xs ++ ys)) else none
theorem opd_cat {K : PySem.W.Frag} : OpD K (rCatS K) fCat := by
  intro x y z v u As F H t Q e s k vx vy q
  unfold fCat at e
  cases e1 : x.items with
  | none => simp [e1] at e
  | some xs =>
    cases e2 : y.items with
    | none => simp [e1, e2] at e
    | some ys =>
      simp only [e1, e2, Option.bind_some] at e
      split at e
      · rename_i hz
        cases e
        obtain ⟨p, vs, rfl, h1, a1⟩ := vx.items k e1
        obtain ⟨p2, ws, rfl, h2, a2⟩ := vy.items k e2
        refine ⟨p, p2, vs, ws, rfl, rfl, h1, h2, by rw [a1.length, a2.length, sizeLine_eq]; exact hz, fun a n => ?_⟩
        obtain ⟨⟨g, s'⟩, _⟩ := alloc (o := .lst (vs ++ ws)) s k n
        exact q F _ _ g s' ⟨a, _, rfl, fun z => s.ok.there a z n, k.free n, upd_same, a1.append a2⟩ ⟨a, rfl, n⟩
      · cases e
def fCatT : Rv → Rv → Option Rv := fun x y => x.tup.bind fun xs => y.tup.bind fun ys => if xs.length + ys.length ≤ 16777216 then some (.d (.tuple (xs ++ ys))) else none
theorem opd_catT {K : PySem.W.Frag} : OpD K (rCatA K) fCatT := by
  intro x y z v u As F H t Q e s k vx vy q
  unfold fCatT at e
  cases e1 : x.tup with
  | none => simp [e1] at e
  | some xs =>
    cases e2 : y.tup with
    | none => simp [e1, e2] at e
    | some ys =>
      simp only [e1, e2, Option.bind_some] at e
      split at e
      · rename_i hz
        cases e
        obtain ⟨p, vs, rfl, h1, a1⟩ := vx.tup e1
        obtain ⟨p2, ws, rfl, h2, a2⟩ := vy.tup e2
        refine ⟨p, p2, vs, ws, rfl, rfl, Same.seqT k h1, Same.seqT k h2, by rw [a1.length, a2.length, sizeLine_eq]; exact hz, fun z => ?_, fun _ z => ?_, fun _ _ a n => ?_⟩
        · subst z
          have : xs = [] := by have := a1.length; simpa using this.symm
          subst this
          exact q F H _ (.refl k) s (L2.Dp.tup h2 a2) trivial
        · subst z
          have : ys = [] := by have := a2.length; simpa using this.symm
          subst this
          rw [List.append_nil] at q
          exact q F H _ (.refl k) s (L2.Dp.tup h1 a1) trivial
        · obtain ⟨_, g, s'⟩ := alloc (o := .tup (vs ++ ws)) s k n
          exact q _ _ _ g s' (L2.Dp.tup (Or.inl (Or.inl upd_same)) (DpAll.mono g.ff _ _ (a1.append a2))) trivial
      · cases e
def fCatStr : Rv → Rv → Option Rv
  | .d (.str x), .d (.str y) => if x.length + y.length ≤ 16777216 then some (.d (.str (x ++ y))) else none
  | _, _ => none
theorem opd_catStr {K : PySem.W.Frag} : OpD K (fun x y H Q => ∃ i j, x = .str i ∧ y = .str j ∧ i.length + j.length ≤ sizeLine ∧ Q (.str (i ++ j)) H) fCatStr := by
  intro x y z v u As F H t Q e s k vx vy q
  unfold fCatStr at e
  split at e
  · split at e
    · rename_i hz
      cases e
      cases vx
      cases vy
      exact ⟨_, _, rfl, rfl, by rw [sizeLine_eq]; exact hz, q F H _ (.refl k) s (.str _) trivial⟩
    · cases e
  · cases e
def fAdd : Rv → Rv → Option Rv := fun x y => (fI (fun _ _ => true) (fun i j => .int (i + j)) x y).or ((fCat x y).or ((fCatT x y).or (fCatStr x y)))
def rAddAll (K : PySem.W.Frag) : R2 := fun x y H Q => rI0 (fun i j => .int (i + j)) x y H Q ∨ (rCatS K x y H Q ∨ (rCatA K x y H Q ∨ ∃ i j, x = .str i ∧ y = .str j ∧ i.length + j.length ≤ sizeLine ∧ Q (.str (i ++ j)) H))
theorem op_addAll : OpR X (binaryOp .Add) (rAddAll X.K) := OpR.or op_add (OpR.or op_catS (OpR.or op_catA op_add_str))
theorem opd_addAll {K : PySem.W.Frag} : OpD K (rAddAll K) fAdd := OpD.or (opd_I0 fun F i j => .int _) (OpD.or opd_cat (OpD.or opd_catT opd_catStr))
/-- -, *, //, %, ** -/
def fSub : Rv → Rv → Option Rv := fI (fun _ _ => true) fun i j => .int (i - j)
theorem opd_sub {K : PySem.W.Frag} : OpD K (rI0 fun i j => .int (i - j)) fSub := opd_I0 fun F i j => .int _
def mulOk (i j : Int) : Bool := decide (i.natAbs.log2 + j.natAbs.log2 < 1000000)
def fMul : Rv → Rv → Option Rv := fI mulOk fun i j => .int (i * j)
theorem opd_mul {K : PySem.W.Frag} : OpD K (rI CMulW fun i j => .int (i * j)) fMul := opd_I (fun i j h => of_decide_eq_true h) fun F i j => .int _
def divOk (_ j : Int) : Bool := decide (j ≠ 0) && decide (j.natAbs < 1073741824)
def fDiv : Rv → Rv → Option Rv := fI divOk fun i j => .int (i.fdiv j)
theorem opd_div {K : PySem.W.Frag} : OpD K (rI CDivN fun i j => .int (i.fdiv j)) fDiv := opd_I (fun i j h => by
  unfold divOk at h
  rw [Bool.and_eq_true] at h
  exact ⟨of_decide_eq_true h.1, of_decide_eq_true h.2⟩) fun F i j => .int _
def fMod : Rv → Rv → Option Rv := fI (fun _ j => decide (j ≠ 0)) fun i j => .int (i.fmod j)
theorem opd_mod {K : PySem.W.Frag} : OpD K (rI (fun _ j => j ≠ 0) fun i j => .int (i.fmod j)) fMod := opd_I (fun i j h => of_decide_eq_true h) fun F i j => .int _
def powOk (i j : Int) : Bool := decide (0 ≤ j) && decide (j ≤ 1000000) && decide (i.natAbs < 2 ^ 64)
def fPow : Rv → Rv → Option Rv := fI powOk fun i j => .int (i ^ j.toNat)
theorem opd_pow {K : PySem.W.Frag} : OpD K (rI CPow fun i j => .int (i ^ j.toNat)) fPow := opd_I (fun i j h => by
  unfold powOk at h
  rw [Bool.and_eq_true, Bool.and_eq_true] at h
  exact ⟨of_decide_eq_true h.1.1, of_decide_eq_true h.1.2, of_decide_eq_true h.2⟩) fun F i j => .int _
/-- comparisons of ints -/
def gCmp (p : Int → Int → Bool) : D → D → Option Bool
  | .int i, .int j => some (p i j)
  | _, _ => none
theorem opd_cmpI {K : PySem.W.Frag} (p : Int → Int → Bool) : OpD K (rI0 fun i j => .bl (p i j)) (fRead fun a b => (gCmp p a b).map .bool) := opd_bool fun a b c w u H Q e h1 h2 q => by
  unfold gCmp at e
  split at e
  · cases e
    cases h1
    cases h2
    exact ⟨_, _, rfl, rfl, q⟩
  · cases e
def gLtT : D → D → Option Bool
  | .tuple xs, .tuple ys => match (xs.mapM fun d => match d with | .int i => some i | _ => none), (ys.mapM fun d => match d with | .int i => some i | _ => none) with
    | some a, some b => some (HT.lexLt a b)
    | _, _ => none
  | _, _ => none
/-- == -/
def gEq : D → D → Option Bool
  | .int i, .int j => some (decide (i = j))
  | .str x, .str y => some (decide (x = y))
  | a, b => if SeqAt.shaped a && SeqAt.shaped b then some (PyData.eqv a b) else none
def rEqAll (K : PySem.W.Frag) : R2 := fun x y H Q => rEq x y H Q ∨ rEqD K x y H Q
def rNeAll (K : PySem.W.Frag) : R2 := fun x y H Q => rNe x y H Q ∨ rNeD K x y H Q
theorem op_eqAll (hu : X.A.units + 64 < cLine) : OpR X (compareOp .Eq) (rEqAll X.K) := OpR.or op_eq (op_eqD hu)
theorem op_neAll (hu : X.A.units + 64 < cLine) : OpR X (compareOp .NotEq) (rNeAll X.K) := OpR.or op_ne (op_neD hu)
def fEq : Rv → Rv → Option Rv := fRead fun a b => (gEq a b).map .bool
def fNe : Rv → Rv → Option Rv := fRead fun a b => ((gEq a b).map not).map .bool
theorem opd_eq {K : PySem.W.Frag} : OpD K (rEqAll K) fEq := opd_bool fun a b c w u H Q e h1 h2 q => by
  unfold gEq at e
  split at e
  · cases e
    cases h1
    cases h2
    refine .inl ⟨rfl, ?_⟩
    rename_i i j
    have : decide (V.int i = V.int j) = decide (i = j) := by simp
    rw [this]
    exact q
  · cases e
    cases h1
    cases h2
    refine .inl ⟨rfl, ?_⟩
    rename_i i j
    have : decide (V.str i = V.str j) = decide (i = j) := by simp
    rw [this]
    exact q
  · split at e
    · rename_i hs
      cases e
      rw [Bool.and_eq_true] at hs
      exact .inr ⟨_, _, h1, h2, hs.1, hs.2, q⟩
    · cases e
theorem opd_ne {K : PySem.W.Frag} : OpD K (rNeAll K) fNe := opd_bool (g := fun a b => (gEq a b).map not) fun a b c w u H Q e h1 h2 q => by
  unfold gEq at e
  split at e
  · cases e
    cases h1
    cases h2
    refine .inl ⟨rfl, ?_⟩
    rename_i i j
    have : decide (V.int i = V.int j) = decide (i = j) := by simp
    rw [this]
    exact q
  · cases e
    cases h1
    cases h2
    refine .inl ⟨rfl, ?_⟩
    rename_i i j
    have : decide (V.str i = V.str j) = decide (i = j) := by simp
    rw [this]
    exact q
  · split at e
    · rename_i hs
      cases e
      rw [Bool.and_eq_true] at hs
      exact .inr ⟨_, _, h1, h2, hs.1, hs.2, q⟩
    · cases e
/-- in, not in -/
def rInT (K : PySem.W.Frag) : R2 := fun x y H Q => ∃ d ds, Dp K H x d ∧ Dp K H y (.tuple ds) ∧ SeqAt.shaped d = true ∧ SeqAt.shaped (.list ds) = true ∧ Q (.bl (ds.any fun z => PyData.eqv z d)) H
def rNotInT (K : PySem.W.Frag) : R2 := fun x y H Q => ∃ d ds, Dp K H x d ∧ Dp K H y (.tuple ds) ∧ SeqAt.shaped d = true ∧ SeqAt.shaped (.list ds) = true ∧ Q (.bl (!ds.any fun z => PyData.eqv z d)) H
theorem op_inT (hu : X.A.units + 65 < cLine) : OpR X (compareOp .In) (rInT X.K) := by
  intro pins s σ H x y v u Q I rx ry h
  obtain ⟨d, ds, hd, he, sd, se, q⟩ := h
  obtain ⟨as, r1⟩ := Dp.reads I d x v hd rx
  obtain ⟨bs, r2⟩ := Dp.reads I (.tuple ds) y u he ry
  exact SeqAt.in_tuple_reads r2 r1 (SeqAt.canLay_of_shaped se) (SeqAt.canLay_of_shaped sd) (room_in_shaped sd hu) ⟨.bl _, H, I, rfl, q⟩
theorem op_notInT (hu : X.A.units + 65 < cLine) : OpR X (compareOp .NotIn) (rNotInT X.K) := by
  intro pins s σ H x y v u Q I rx ry h
  obtain ⟨d, ds, hd, he, sd, se, q⟩ := h
  obtain ⟨as, r1⟩ := Dp.reads I d x v hd rx
  obtain ⟨bs, r2⟩ := Dp.reads I (.tuple ds) y u he ry
  exact SeqAt.notIn_tuple_reads r2 r1 (SeqAt.canLay_of_shaped se) (SeqAt.canLay_of_shaped sd) (room_in_shaped sd hu) ⟨.bl _, H, I, rfl, q⟩
def gIn : D → D → Option Bool
  | d, .list ds => if SeqAt.shaped d && SeqAt.shaped (.list ds) then some (ds.any fun z => PyData.eqv z d) else none
  | d, .tuple ds => if SeqAt.shaped d && SeqAt.shaped (.list ds) then some (ds.any fun z => PyData.eqv z d) else none
  | _, _ => none
def rInAll (K : PySem.W.Frag) : R2 := fun x y H Q => rInD K x y H Q ∨ rInT K x y H Q
def rNotInAll (K : PySem.W.Frag) : R2 := fun x y H Q => rNotInD K x y H Q ∨ rNotInT K x y H Q
theorem op_inAll (hu : X.A.units + 65 < cLine) : OpR X (compareOp .In) (rInAll X.K) := OpR.or (op_inD hu) (op_inT hu)
theorem op_notInAll (hu : X.A.units + 65 < cLine) : OpR X (compareOp .NotIn) (rNotInAll X.K) := OpR.or (op_notInD hu) (op_notInT hu)
def fIn : Rv → Rv → Option Rv := fRead fun a b => (gIn a b).map .bool
def fNotIn : Rv → Rv → Option Rv := fRead fun a b => ((gIn a b).map not).map .bool
theorem opd_in {K : PySem.W.Frag} : OpD K (rInAll K) fIn := opd_bool fun a b c w u H Q e h1 h2 q => by
  unfold gIn at e
  split at e
  · split at e
    · rename_i hs
      cases e
      rw [Bool.and_eq_true] at hs
      exact .inl ⟨_, _, h1, h2, hs.1, hs.2, q⟩
    · cases e
  · split at e
    · rename_i hs
      cases e
      rw [Bool.and_eq_true] at hs
      exact .inr ⟨_, _, h1, h2, hs.1, hs.2, q⟩
    · cases e
  · cases e
theorem opd_notIn {K : PySem.W.Frag} : OpD K (rNotInAll K) fNotIn := opd_bool (g := fun a b => (gIn a b).map not) fun a b c w u H Q e h1 h2 q => by
  unfold gIn at e
  split at e
  · split at e
    · rename_i hs
      cases e
      rw [Bool.and_eq_true] at hs
      exact .inl ⟨_, _, h1, h2, hs.1, hs.2, q⟩
    · cases e
  · split at e
    · rename_i hs
      cases e
      rw [Bool.and_eq_true] at hs
      exact .inr ⟨_, _, h1, h2, hs.1, hs.2, q⟩
    · cases e
  · cases e
/-- is None -/
def gIsN : D → D → Option Bool
  | .none, .none => some true
  | _, .none => some false
  | _, _ => none
theorem isN_of {K : PySem.W.Frag} {H : Hp} {w : V} {a : D} (h : Dp K H w a) : decide (w = .non) = (match a with | .none => true | _ => false) := by
  cases h <;> simp
def fIsN : Rv → Rv → Option Rv := fRead fun a b => (gIsN a b).map .bool
def fNotN : Rv → Rv → Option Rv := fRead fun a b => ((gIsN a b).map not).map .bool
def rIsN : R2 := fun x y H Q => y = .non ∧ Q (.bl (decide (x = .non))) H
def rNotN : R2 := fun x y H Q => y = .non ∧ Q (.bl (!decide (x = .non))) H
theorem op_isN' : OpR X (compareOp .Is) rIsN := L2.op_isN
theorem op_notN' : OpR X (compareOp .IsNot) rNotN := L2.op_notN
theorem opd_isN {K : PySem.W.Frag} : OpD K rIsN fIsN := opd_bool fun a b c w u H Q e h1 h2 q => by
  unfold gIsN at e
  split at e
  · cases e; cases h1; cases h2; exact ⟨rfl, q⟩
  · rename_i hn
    cases e
    cases h2
    refine ⟨rfl, ?_⟩
    rw [isN_of h1]
    split
    · exact (hn rfl).elim
    · exact q
  · cases e
theorem opd_notN {K : PySem.W.Frag} : OpD K rNotN fNotN := opd_bool (g := fun a b => (gIsN a b).map not) fun a b c w u H Q e h1 h2 q => by
  unfold gIsN at e
  split at e
  · cases e; cases h1; cases h2; exact ⟨rfl, q⟩
  · rename_i hn
    cases e
    cases h2
    refine ⟨rfl, ?_⟩
    rw [isN_of h1]
    split
    · exact (hn rfl).elim
    · exact q
  · cases e
end
end DL
end

section
set_option Elab.async false
set_option linter.all false
set_option maxRecDepth 100000
set_option maxHeartbeats 4000000
namespace DL
open PySem PySem.Spec PyProof.Rows L2
variable [Tbs]

/-! ### tests -/
def Rv.truth : Rv → Option Bool
  | .d .none => some false
  | .d (.bool bb) => some bb
  | .d (.int i) => some (i != 0)
  | .d (.str x) => if x.length ≤ 16777216 then some ((x.length : Int) != 0) else none
  | .d (.list xs) => some (!xs.isEmpty)
  | .d (.tuple xs) => some (!xs.isEmpty)
  | .l xs => some (!xs.isEmpty)
  | .b xs => some (!xs.isEmpty)
  | _ => none
theorem _root_.L2.DpAll.isEmpty {K : PySem.W.Frag} {H : Hp} {vs : List V} {ds : List PyData} (h : DpAll K H vs ds) : vs.isEmpty = ds.isEmpty := by
  cases ds with
  | nil => cases h; rfl
  | cons d ds => cases h; rfl
theorem tru_of {K : PySem.W.Frag} {As : List Addr} {F H : Hp} {v : V} {r : Rv} {b : Bool} (k : Same F H) (h : VOk K As F H v r) (e : r.truth = some b) : TruV K v H b := by
  have own : ∀ {xs : List D}, OwnL K As F H v xs → TruV K v H (!xs.isEmpty) := by
    rintro xs ⟨p, vs, rfl, _, _, hp, ha⟩
    exact .inl ⟨vs, SqL.of hp, by rw [ha.isEmpty]⟩
  cases r with
  | d x =>
    cases x with
    | none => cases e; cases h; rfl
    | bool b => cases e; cases h; rfl
    | int i => cases e; cases h; rfl
    | str x =>
      simp only [Rv.truth] at e
      split at e
      · rename_i hz
        cases e; cases h
        exact ⟨by rw [sizeLine_eq]; exact hz, rfl⟩
      · cases e
    | list xs =>
      cases e
      cases h with
      | lst hs ha => exact .inl ⟨_, k.seq hs, by rw [ha.isEmpty]⟩
    | tuple xs =>
      cases e
      cases h with
      | tup hs ha => exact .inr (.inl ⟨_, Same.seqT k hs, by rw [ha.isEmpty]⟩)
    | dict _ => cases e
  | l xs => cases e; exact own h
  | b xs => cases e; exact own h
  | s => cases e
def mTru (m : EM) : BM := fun G t => (m G t).fz.bind fun x t => .of x.truth t
/-- a test by its value's truth -/
theorem sb_truth {X : Cx} {P : Pm} {a : Expr} {ma : EM} (hK : P.K = X.K) (ha : SE X P a ma) (he : ∀ whole, isTrue a X.env whole = (do let v ← whole; standAt a.pos; holding [v] (truthy v))) : SB X P a (mTru ma) := by
  refine L2.PT.imp (pt_truth ha.fz he) fun σ H Q ⟨As, F, G, t, R, p⟩ => ⟨As, F, G, t, R, bindEB R p fun As1 F1 H1 v1 r1 t1 _ g1 R1 x1 p1 => ?_⟩
  cases e : r1.truth with
  | none => rw [e] at p1; exact p1.elim
  | some b =>
    rw [e] at p1
    rw [← hK]
    exact ⟨b, tru_of R1.sub x1 e, p1 As1 F1 H1 (.refl R1.sub) R1.st⟩
def Rv.bl : Rv → Option Bool
  | .d (.bool bb) => some bb
  | _ => none
/-- a comparison as a test -/
def mCmpB (f : Rv → Rv → Option Rv) (a b : EM) : BM := fun G t => (mBin f a b G t).bind fun x t => .of x.bl t
theorem sb_of_te {X : Cx} {P : Pm} {e : Expr} {te : TE} {m : EM} (h : PT X e (tTest te)) (hi : ∀ σ H Q, teM P m σ H Q → te σ H Q) : SB X P e (fun G t => (m G t).bind fun x t => .of x.bl t) := by
  refine L2.PT.imp h fun σ H Q ⟨As, F, G, t, R, p⟩ => hi _ _ _ ⟨As, F, G, t, R, bindEB R p fun As1 F1 H1 v1 r1 t1 _ g1 R1 x1 p1 => ?_⟩
  cases e : r1.bl with
  | none => rw [e] at p1; exact p1.elim
  | some b =>
    rw [e] at p1
    cases r1 with
    | d x =>
      cases x with
      | bool c => cases e; cases x1; exact ⟨b, rfl, p1 As1 F1 H1 (.refl R1.sub) R1.st⟩
      | _ => cases e
    | _ => cases e
theorem sb_cmp {X : Cx} {P : Pm} {a b : Expr} {ma mb : EM} {pos : Pos} {op : CmpOp} {r : R2} {f : Rv → Rv → Option Rv} (ho : OpR X (compareOp op) r) (hf : OpD P.K r f) (ha : SE X P a ma) (hb : SE X P b mb) (hm : behindInMarks op b = false) :
    SB X P (.Compare a [op] [b] pos) (mCmpB f ma mb) := sb_of_te (pt_cmpR ho ha.fz hb.fz hm) fun σ H Q h => two hf h
/-- a < b < c -/
def mChain (f g : Rv → Rv → Option Rv) (a b c : EM) : EM := fun G t => (a G t).fz.bind fun x t => (b G t).fz.bind fun y t => match (f x y).bind Rv.bl with
  | some true => (c G t).fz.bind fun z t => .of (g y z) t
  | some false => .ok (.d (.bool false)) t
  | none => .stuck
theorem chain_te {X : Cx} {P : Pm} {ma mb mc : EM} {r r' : R2} {f g : Rv → Rv → Option Rv} (hf : OpD P.K r f) (hg : OpD P.K r' g) {σ : Sg} {H : Hp} {Q : VK} (h : teM P (mChain f g ma mb mc) σ H Q) :
    tChain r r' (teM P fun G t => (ma G t).fz) (teM P fun G t => (mb G t).fz) (teM P fun G t => (mc G t).fz) σ H Q := by
  obtain ⟨As, F, G, t, R, p⟩ := h
  refine ⟨As, F, G, t, R, bindEE R p fun As1 F1 H1 v1 r1 t1 _ g1 R1 x1 p1 => ⟨As1, F1, G, t1, R1, bindEE R1 p1 fun As2 F2 H2 v2 r2 t2 _ g2 R2 x2 p2 => ?_⟩⟩
  cases e : f r1 r2 with
  | none => rw [e] at p2; exact p2.elim
  | some z =>
    rw [e] at p2
    refine hf e R2.st R2.sub (x1.mono g2) x2 fun F' H' w gg s x _ => ?_
    have p2' := PostE.re gg p2
    cases e2 : z.bl with
    | none => simp only [Option.bind_some, e2] at p2; exact p2.elim
    | some b =>
      simp only [Option.bind_some, e2] at p2'
      cases z with
      | d y =>
        cases y with
        | bool c =>
          cases e2
          cases x
          cases b with
          | false => exact ⟨false, rfl, p2' As2 F' H' _ (.refl gg.fh) s (.bl false) trivial⟩
          | true =>
            refine ⟨true, rfl, ?_⟩
            rw [if_pos rfl]
            have R3 := R2.mono gg s
            refine ⟨As2, F', G, t2, R3, bindEE R3 p2' fun As3 F3 H3 v3 r3 t3 _ g3 R4 x3 p3 => ?_⟩
            cases e3 : g r2 r3 with
            | none => rw [e3] at p3; exact p3.elim
            | some z3 =>
              rw [e3] at p3
              exact hg e3 R4.st R4.sub ((x2.mono gg).mono g3) x3 fun F5 H5 w5 g5 s5 x5 f5 => p3 As3 F5 H5 w5 g5 s5 x5 f5
        | _ => cases e2
      | _ => cases e2
section
variable {X : Cx} {P : Pm} {a b c : Expr} {ma mb mc : EM} {ta tb : BM} {pos : Pos}
theorem se_chain {op op' : CmpOp} {r r' : R2} {f g : Rv → Rv → Option Rv} (ho : OpR X (compareOp op) r) (ho' : OpR X (compareOp op') r') (hf : OpD P.K r f) (hg : OpD P.K r' g) (ha : SE X P a ma) (hb : SE X P b mb) (hc : SE X P c mc)
    (h : PE X (.Compare a [op, op'] [b, c] pos) (tChain r r' (teM P fun G t => (ma G t).fz) (teM P fun G t => (mb G t).fz) (teM P fun G t => (mc G t).fz))) : SE X P (.Compare a [op, op'] [b, c] pos) (mChain f g ma mb mc) :=
  L2.PE.imp h fun σ H Q q => chain_te (X := X) hf hg q
theorem sb_chain {op op' : CmpOp} {r r' : R2} {f g : Rv → Rv → Option Rv} (hf : OpD P.K r f) (hg : OpD P.K r' g)
    (h : PT X (.Compare a [op, op'] [b, c] pos) (tTest (tChain r r' (teM P fun G t => (ma G t).fz) (teM P fun G t => (mb G t).fz) (teM P fun G t => (mc G t).fz)))) : SB X P (.Compare a [op, op'] [b, c] pos) (fun G t => (mChain f g ma mb mc G t).bind fun x t => .of x.bl t) :=
  sb_of_te h fun σ H Q q => chain_te (X := X) hf hg q
/-- not, and, or -/
def mNotB (m : BM) : BM := fun G t => (m G t).bind fun b t => .ok (!b) t
theorem sb_not (h : SB X P a ta) : SB X P (.UnaryOp .Not a pos) (mNotB ta) :=
  L2.PT.imp (pt_not h) fun σ H Q ⟨As, F, G, t, R, p⟩ => ⟨As, F, G, t, R, bindBB R p fun As1 F1 H1 r1 t1 _ g1 R1 p1 => p1 As1 F1 H1 (.refl R1.sub) R1.st⟩
def SW (X : Cx) (P : Pm) (e : Expr) (m : BM) : Prop := PW X e (ttM P m)
theorem SW.sb (h : SW X P a ta) : SB X P a ta := L2.PW.pt h
theorem sw_and1 (h : SB X P a ta) : SW X P (.BoolOp .And [a] pos) ta := pw_and1 h
theorem sw_or1 (h : SB X P a ta) : SW X P (.BoolOp .Or [a] pos) ta := pw_or1 h
def mAndB (x y : BM) : BM := fun G t => (x G t).bind fun b t => if b then y G t else .ok false t
def mOrB (x y : BM) : BM := fun G t => (x G t).bind fun b t => if b then .ok true t else y G t
theorem sw_and {rest : List Expr} (h : SB X P a ta) (h2 : SW X P (.BoolOp .And (b :: rest) pos) tb) : SW X P (.BoolOp .And (a :: b :: rest) pos) (mAndB ta tb) :=
  L2.PW.imp (pw_and h h2) fun σ H Q ⟨As, F, G, t, R, p⟩ => ⟨As, F, G, t, R, bindBB R p fun As1 F1 H1 r1 t1 _ g1 R1 p1 => by
    cases r1 with
    | true => exact ⟨As1, F1, G, t1, R1, p1⟩
    | false => exact p1 As1 F1 H1 (.refl R1.sub) R1.st⟩
theorem sw_or {rest : List Expr} (h : SB X P a ta) (h2 : SW X P (.BoolOp .Or (b :: rest) pos) tb) : SW X P (.BoolOp .Or (a :: b :: rest) pos) (mOrB ta tb) :=
  L2.PW.imp (pw_or h h2) fun σ H Q ⟨As, F, G, t, R, p⟩ => ⟨As, F, G, t, R, bindBB R p fun As1 F1 H1 r1 t1 _ g1 R1 p1 => by
    cases r1 with
    | false => exact ⟨As1, F1, G, t1, R1, p1⟩
    | true => exact p1 As1 F1 H1 (.refl R1.sub) R1.st⟩
/-- .. as values -/
def mNot (m : EM) : EM := fun G t => (m G t).fz.bind fun x t => .of (x.truth.map fun b => .d (.bool !b)) t
theorem se_not (hK : P.K = X.K) (h : SE X P a ma) : SE X P (.UnaryOp .Not a pos) (mNot ma) := by
  refine L2.PE.imp (pe_notT h.fz) fun σ H Q ⟨As, F, G, t, R, p⟩ => ⟨As, F, G, t, R, bindEE R p fun As1 F1 H1 v1 r1 t1 _ g1 R1 x1 p1 => ?_⟩
  cases e : r1.truth with
  | none => rw [e] at p1; exact p1.elim
  | some b =>
    rw [e] at p1
    rw [← hK]
    exact ⟨b, tru_of R1.sub x1 e, p1 As1 F1 H1 _ (.refl R1.sub) R1.st (.bl _) trivial⟩
theorem se_one {op} (h : SE X P a ma) : SE X P (.BoolOp op [a] pos) ma := pe_one h
def mAnd (x y : EM) : EM := fun G t => (x G t).fz.bind fun r t => match r.truth with
  | some true => y G t
  | some false => .ok r t
  | none => .stuck
def mOr (x y : EM) : EM := fun G t => (x G t).fz.bind fun r t => match r.truth with
  | some false => y G t
  | some true => .ok r t
  | none => .stuck
theorem fz_notl {r : Rs Rv} {xs : List D} {t : Option DS} : r.fz ≠ .ok (.l xs) t := by
  cases r with
  | ok a t =>
    intro e
    have e' : Rs.ok a.fz t = .ok (.l xs) _ := e
    injection e' with e1 _
    cases a <;> cases e1
  | ex _ _ _ => intro e; cases e
  | stuck => intro e; cases e
theorem fresh_of {r : Rs Rv} {v : V} {H : Hp} {x : Rv} {t : Option DS} (e : r.fz = .ok x t) : Fresh H v x := by
  cases x with
  | l xs => exact absurd e fz_notl
  | _ => trivial
theorem se_and {rest : List Expr} (hK : P.K = X.K) (h : SE X P a ma) (h2 : SE X P (.BoolOp .And (b :: rest) pos) mb) : SE X P (.BoolOp .And (a :: b :: rest) pos) (mAnd ma mb) := by
  refine L2.PE.imp (pe_andT h.fz h2) fun σ H Q ⟨As, F, G, t, R, p⟩ => ⟨As, F, G, t, R, bindEE R p fun As1 F1 H1 v1 r1 t1 er g1 R1 x1 p1 => ?_⟩
  cases e : r1.truth with
  | none => rw [e] at p1; exact p1.elim
  | some b =>
    rw [e] at p1
    rw [← hK]
    refine ⟨b, tru_of R1.sub x1 e, ?_⟩
    cases b with
    | true => exact ⟨As1, F1, G, t1, R1, p1⟩
    | false => exact p1 As1 F1 H1 _ (.refl R1.sub) R1.st x1 (fresh_of er)
theorem se_or {rest : List Expr} (hK : P.K = X.K) (h : SE X P a ma) (h2 : SE X P (.BoolOp .Or (b :: rest) pos) mb) : SE X P (.BoolOp .Or (a :: b :: rest) pos) (mOr ma mb) := by
  refine L2.PE.imp (pe_orT h.fz h2) fun σ H Q ⟨As, F, G, t, R, p⟩ => ⟨As, F, G, t, R, bindEE R p fun As1 F1 H1 v1 r1 t1 er g1 R1 x1 p1 => ?_⟩
  cases e : r1.truth with
  | none => rw [e] at p1; exact p1.elim
  | some b =>
    rw [e] at p1
    rw [← hK]
    refine ⟨b, tru_of R1.sub x1 e, ?_⟩
    cases b with
    | false => exact ⟨As1, F1, G, t1, R1, p1⟩
    | true => exact p1 As1 F1 H1 _ (.refl R1.sub) R1.st x1 (fresh_of er)
/-- a if c else b -/
def mIf (c : BM) (x y : EM) : EM := fun G t => (c G t).bind fun b t => if b then x G t else y G t
theorem se_if (hc : SB X P c ta) (ha : SE X P a ma) (hb : SE X P b mb) : SE X P (.IfExp c a b pos) (mIf ta ma mb) :=
  L2.PE.imp (pe_ifExp hc ha hb) fun σ H Q ⟨As, F, G, t, R, p⟩ => ⟨As, F, G, t, R, bindBE R p fun As1 F1 H1 r1 t1 _ g1 R1 p1 => by
    cases r1 with
    | true => exact ⟨As1, F1, G, t1, R1, p1⟩
    | false => exact ⟨As1, F1, G, t1, R1, p1⟩⟩
/-- -a -/
def mNeg (m : EM) : EM := fun G t => (m G t).fz.bind fun x t => .of (match x with | .d (.int i) => some (.d (.int (-i))) | _ => none) t
theorem se_neg (h : SE X P a ma) : SE X P (.UnaryOp .USub a pos) (mNeg ma) := by
  refine L2.PE.imp (pe_un un_neg h.fz) fun σ H Q ⟨As, F, G, t, R, p⟩ => ⟨As, F, G, t, R, bindEE R p fun As1 F1 H1 v1 r1 t1 er g1 R1 x1 p1 => ?_⟩
  split at p1
  · cases x1
    exact ⟨_, rfl, p1 As1 F1 H1 _ (.refl R1.sub) R1.st (.int _) trivial⟩
  · exact p1.elim
/-! ### argument lists, displays -/
def mNil : AM := fun _ t => .ok [] t
def mCons (x : EM) (y : AM) : AM := fun G t => (x G t).fz.bind fun r t => (y G t).bind fun rs t => .ok (r :: rs) t
theorem sa_nil : SA X P [] mNil := L2.PA.imp pa_nil fun σ H Q ⟨As, F, G, t, R, p⟩ => p As F H [] (.refl R.sub) R.st .nil
theorem sa_cons {es : List Expr} {m : AM} (ha : SE X P a ma) (hr : SA X P es m) (hs : starEach (a :: es) X.env = (false, eval a X.env) :: starEach es X.env) : SA X P (a :: es) (mCons ma m) :=
  L2.PA.imp (pa_cons ha.fz hr hs) fun σ H Q ⟨As, F, G, t, R, p⟩ => ⟨As, F, G, t, R, bindEA R p fun As1 F1 H1 v1 r1 t1 _ g1 R1 x1 p1 => ⟨As1, F1, G, t1, R1, bindAA R1 p1 fun As2 F2 H2 vs rs t2 _ g2 R2 x2 p2 => p2 As2 F2 H2 _ (.refl R2.sub) R2.st (.cons (x1.mono g2) x2)⟩⟩
/-- all frozen data -/
def dats : List Rv → Option (List D)
  | [] => some []
  | .d x :: r => (dats r).map (x :: ·)
  | _ :: _ => none
theorem dats_ok {K : PySem.W.Frag} {As : List Addr} {F H : Hp} : ∀ {rs : List Rv} {vs : List V} {ds : List D}, Paired (VOk K As F H) vs rs → dats rs = some ds → DpAll K F vs ds
  | _, _, _, .nil, e => by cases e; exact .nil
  | _, _, _, @Paired.cons _ _ _ v r vs rs h t, e => by
    cases r with
    | d x =>
      unfold dats at e
      cases e1 : dats rs with
      | none => rw [e1] at e; cases e
      | some ds => rw [e1] at e; cases e; exact .cons h (dats_ok t e1)
    | _ => cases e
def mTup (m : AM) : EM := fun G t => (m G t).bind fun rs t => .of (if rs.length ≤ 16777216 then (dats rs).map fun ds => .d (.tuple ds) else none) t
def mLst (m : AM) : EM := fun G t => (m G t).bind fun rs t => .of (if rs.length ≤ 16777216 then (dats rs).map fun ds => .l ds else none) t
theorem se_tup {es : List Expr} {m : AM} {k : Nat} (h : SA X P es m) : SE X P (.Tuple es k pos) (mTup m) := by
  refine L2.PE.imp (pe_tup h) fun σ H Q ⟨As, F, G, t, R, p⟩ => ⟨As, F, G, t, R, bindAE R p fun As1 F1 H1 vs rs t1 _ g1 R1 x1 p1 => ?_⟩
  by_cases hz : rs.length ≤ 16777216
  · rw [if_pos hz] at p1
    cases e : dats rs with
    | none => rw [e] at p1; exact p1.elim
    | some ds =>
      rw [e] at p1
      have a := dats_ok x1 e
      refine ⟨by rw [sizeLine_eq, Paired.length x1]; exact hz, fun q n => ?_⟩
      obtain ⟨_, g, s⟩ := alloc (o := .tup vs) R1.st R1.sub n
      exact p1 As1 _ _ _ g s (L2.Dp.tup (Or.inl (Or.inl upd_same)) (DpAll.mono g.ff _ _ a)) trivial
  · rw [if_neg hz] at p1; exact p1.elim
theorem se_lst {es : List Expr} {m : AM} (h : SA X P es m) : SE X P (.List es pos) (mLst m) := by
  refine L2.PE.imp (pe_lst h) fun σ H Q ⟨As, F, G, t, R, p⟩ => ⟨As, F, G, t, R, bindAE R p fun As1 F1 H1 vs rs t1 _ g1 R1 x1 p1 => ?_⟩
  by_cases hz : rs.length ≤ 16777216
  · rw [if_pos hz] at p1
    cases e : dats rs with
    | none => rw [e] at p1; exact p1.elim
    | some ds =>
      rw [e] at p1
      have a := dats_ok x1 e
      refine ⟨by rw [sizeLine_eq, Paired.length x1]; exact hz, fun q n => ?_⟩
      obtain ⟨⟨g, s⟩, _⟩ := alloc (o := .lst vs) R1.st R1.sub n
      exact p1 As1 _ _ _ g s ⟨q, vs, rfl, fun z => R1.st.ok.there q z n, R1.sub.free n, upd_same, a⟩ ⟨q, rfl, n⟩
  · rw [if_neg hz] at p1; exact p1.elim
end
end DL
end

section
set_option Elab.async false
set_option linter.all false
set_option maxRecDepth 100000
set_option maxHeartbeats 4000000
namespace DL
open PySem PySem.Spec PyProof.Rows L2
variable [Tbs]

/-! ### subscripts -/
def fIx : Rv → Rv → Option Rv := fun x y => match y with
  | .d (.int i) => ((x.items.bind fun xs => atI xs i).map Rv.d).or ((x.tup.bind fun xs => atI xs i).map Rv.d)
  | _ => none
def rIxA (K : PySem.W.Frag) : R2 := fun x y H Q => rIxL K x y H Q ∨ rIxT K x y H Q
theorem ix_all {X : Cx} : IxR X (rIxA X.K) := IxR.or ix_list ix_tup
theorem atI_dp {K : PySem.W.Frag} {F : Hp} {vs : List V} {ds : List D} {i : Int} {d : D} (h : DpAll K F vs ds) (e : atI ds i = some d) : ∃ v, atI vs i = some v ∧ Dp K F v d := by
  unfold atI at e ⊢
  rw [h.length]
  cases e1 : ixN ds.length i with
  | none => rw [e1] at e; cases e
  | some j =>
    rw [e1] at e
    exact h.get (i := j) e
theorem opd_ix {K : PySem.W.Frag} : OpD K (rIxA K) fIx := by
  intro x y z v u As F H t Q e s k vx vy q
  unfold fIx at e
  split at e
  · rename_i i
    cases vy
    cases e1 : x.items with
    | some xs =>
      cases e2 : atI xs i with
      | some d =>
        simp [e1, e2] at e
        subst e
        obtain ⟨p, vs, rfl, h, a⟩ := vx.items k e1
        obtain ⟨w, e3, hd⟩ := atI_dp a e2
        exact .inl ⟨p, vs, i, w, rfl, rfl, h, e3, q F H w (.refl k) s hd trivial⟩
      | none =>
        have e4 : x.tup = none := by
          cases x with
          | d x => cases x <;> first | rfl | (cases e1)
          | _ => rfl
        simp [e1, e2, e4] at e
    | none =>
      cases e4 : x.tup with
      | none => simp [e1, e4] at e
      | some xs =>
        cases e2 : atI xs i with
        | none => simp [e1, e2, e4] at e
        | some d =>
          simp [e1, e2, e4] at e
          subst e
          obtain ⟨p, vs, rfl, h, a⟩ := vx.tup e4
          obtain ⟨w, e3, hd⟩ := atI_dp a e2
          exact .inr ⟨p, vs, i, w, rfl, rfl, Same.seqT k h, e3, q F H w (.refl k) s hd trivial⟩
  · cases e
section
variable {X : Cx} {P : Pm} {a b : Expr} {ma mb : EM} {pos : Pos}
theorem se_ix (hK : P.K = X.K) (ha : SE X P a ma) (hb : SE X P b mb) (hs : PlainIx b) : SE X P (.Subscript a b pos) (mBin fIx ma mb) :=
  L2.PE.imp (pe_ix ix_all ha.fz hb.fz hs) fun σ H Q h => by
    have := two (P := P) (r := rIxA P.K) opd_ix h
    rw [hK] at this
    exact this
/-! ### slices -/
def fSl (x : Rv) (lo hi : Option Int) : Option Rv :=
  match x.items with
  | some xs => some (.l ((xs.drop (HT.sIx xs.length 0 lo)).take (HT.sIx xs.length xs.length hi - HT.sIx xs.length 0 lo)))
  | none => match x.tup with
    | some xs => some (.d (.tuple ((xs.drop (HT.sIx xs.length 0 lo)).take (HT.sIx xs.length xs.length hi - HT.sIx xs.length 0 lo))))
    | none => none
def rSlAll (K : PySem.W.Frag) : V → Option Int → Option Int → Hp → VK → Prop := fun x lo hi H Q => rSlL K x lo hi H Q ∨ rSlA K x lo hi H Q
theorem sl_all {X : Cx} : SlR X (rSlAll X.K) := SlR.or sl_list sl_tupA
theorem sIx_full {n : Nat} {lo hi : Option Int} (h : HT.sIx n 0 lo = 0 ∧ HT.sIx n n hi = n) {xs : List D} (e : xs.length = n) : (xs.drop (HT.sIx n 0 lo)).take (HT.sIx n n hi - HT.sIx n 0 lo) = xs := by
  rw [h.1, h.2, List.drop_zero, Nat.sub_zero, ← e, List.take_length]
theorem sld {K : PySem.W.Frag} {x z : Rv} {lo hi : Option Int} {v : V} {As : List Addr} {F H : Hp} {t : Option DS} {Q : VK} (e : fSl x lo hi = some z) (s : StF As t F H) (k : Same F H) (vx : VOk K As F H v x)
    (q : ∀ F' H' w, Grow As F H As F' H' → StF As t F' H' → VOk K As F' H' w z → Fresh H w z → Q w H') : rSlAll K v lo hi H Q := by
  unfold fSl at e
  cases e1 : x.items with
  | some xs =>
    rw [e1] at e
    cases e
    obtain ⟨p, vs, rfl, h, a⟩ := vx.items k e1
    refine .inl ⟨p, vs, rfl, h, fun l n => ?_⟩
    obtain ⟨⟨g, s'⟩, _⟩ := alloc (o := .lst (cutV vs lo hi)) s k n
    have a2 : DpAll K F (cutV vs lo hi) ((xs.drop (HT.sIx xs.length 0 lo)).take (HT.sIx xs.length xs.length hi - HT.sIx xs.length 0 lo)) := by
      unfold cutV
      rw [a.length]
      exact (a.drop _).take _
    exact q F _ _ g s' ⟨l, _, rfl, fun z => s.ok.there l z n, k.free n, upd_same, a2⟩ ⟨l, rfl, n⟩
  | none =>
    cases e2 : x.tup with
    | none => simp [e1, e2] at e
    | some xs =>
      simp [e1, e2] at e
      subst e
      obtain ⟨p, vs, rfl, h, a⟩ := vx.tup e2
      have hl := a.length
      refine .inr ⟨p, vs, rfl, Same.seqT k h, fun hf => ?_, fun _ l n => ?_⟩
      · rw [hl] at hf
        rw [sIx_full hf rfl] at q
        exact q F H _ (.refl k) s (L2.Dp.tup h a) trivial
      · obtain ⟨_, g, s'⟩ := alloc (o := .tup (cutV vs lo hi)) s k n
        have a2 : DpAll K F (cutV vs lo hi) ((xs.drop (HT.sIx xs.length 0 lo)).take (HT.sIx xs.length xs.length hi - HT.sIx xs.length 0 lo)) := by
          unfold cutV
          rw [hl]
          exact (a.drop _).take _
        exact q _ _ _ g s' (L2.Dp.tup (Or.inl (Or.inl upd_same)) (DpAll.mono g.ff _ _ a2)) trivial
/-- a part of a slice -/
def partI : Rv → Option DS → Rs (Option Int)
  | .d (.int i), t => .ok (some i) t
  | _, _ => .stuck
def mPart (m : Option EM) : Gm → Option DS → Rs (Option Int) := fun G t => match m with
  | none => .ok none t
  | some m => (m G t).fz.bind partI
theorem bind_assoc {α β γ : Type} (r : Rs α) (f : α → Option DS → Rs β) (g : β → Option DS → Rs γ) : (r.bind f).bind g = r.bind fun a t => (f a t).bind g := by
  cases r <;> rfl
def mSl (x : EM) (lo hi : Option EM) : EM := fun G t => (x G t).fz.bind fun r t => (mPart lo G t).bind fun l t => (mPart hi G t).bind fun h t => .of (fSl r l h) t
def SO (X : Cx) (P : Pm) (e : Option Expr) (m : Option EM) : Prop := match e, m with
  | none, none => True
  | some e, some m => SE X P e m
  | _, _ => False
/-- reading of a part -/
def toM (P : Pm) (m : Option EM) : TO := fun σ H Q => match m with
  | none => Q none H
  | some m => teM P (fun G t => (m G t).fz) σ H fun x H1 => ∃ i, x = .int i ∧ Q (some i) H1
theorem po_of {e : Option Expr} {m : Option EM} (h : SO X P e m) : PO X e (toM P m) := by
  cases e with
  | none =>
    cases m with
    | none => exact po_none
    | some m => exact h.elim
  | some e =>
    cases m with
    | none => exact h.elim
    | some m => exact po_some (SE.fz h)
theorem toM_bind {m : Option EM} {f : Option Int → Option DS → Rs Rv} {As : List Addr} {F H : Hp} {G : Gm} {t : Option DS} {σ : Sg} {Q : VK} {Q1 : Option Int → Hp → Prop} (R : Rel P.K P.xi As F G t σ H) (h : PostE P As F H σ Q ((mPart m G t).bind f))
    (h2 : ∀ As1 F1 H1 i t1, Grow As F H As1 F1 H1 → Rel P.K P.xi As1 F1 G t1 σ H1 → PostE P As1 F1 H1 σ Q (f i t1) → Q1 i H1) : toM P m σ H Q1 := by
  cases m with
  | none => exact h2 As F H none t (.refl R.sub) R h
  | some m =>
    have h' : PostE P As F H σ Q ((m G t).fz.bind fun x t => (partI x t).bind f) := by
      rw [← bind_assoc]; exact h
    refine ⟨As, F, G, t, R, bindEE R h' fun As1 F1 H1 v1 r1 t1 _ g1 R1 x1 p1 => ?_⟩
    unfold partI at p1
    split at p1
    · cases x1
      exact ⟨_, rfl, h2 As1 F1 H1 _ t1 g1 R1 p1⟩
    · exact p1.elim
theorem se_sl {lo hi : Option Expr} {ml mh : Option EM} {p2 : Pos} (hK : P.K = X.K) (ha : SE X P a ma) (hl : SO X P lo ml) (hh : SO X P hi mh) : SE X P (.Subscript a (.Slice lo hi none p2) pos) (mSl ma ml mh) := by
  refine L2.PE.imp (pe_slice sl_all ha.fz (po_of hl) (po_of hh)) fun σ H Q ⟨As, F, G, t, R, p⟩ => ⟨As, F, G, t, R, bindEE R p fun As1 F1 H1 v1 r1 t1 _ g1 R1 x1 p1 => ?_⟩
  refine toM_bind R1 p1 fun As2 F2 H2 i t2 g2 R2 p2 => toM_bind R2 p2 fun As3 F3 H3 j t3 g3 R3 p3 => ?_
  cases e : fSl r1 i j with
  | none => rw [e] at p3; exact p3.elim
  | some z =>
    rw [e] at p3
    rw [← hK]
    exact sld e R3.st R3.sub ((x1.mono g2).mono g3) fun F' H' w g s x f => p3 As3 F' H' w g s x f
/-! ### calls of built-ins -/
def CallD (K : PySem.W.Frag) (r : List V → Hp → VK → Prop) (f : List Rv → Option Rv) : Prop := ∀ {xs : List Rv} {z : Rv} {vs : List V} {As : List Addr} {F H : Hp} {t : Option DS} {Q : VK}, f xs = some z → StF As t F H → Same F H → Paired (VOk K As F H) vs xs →
  (∀ F' H' w, Grow As F H As F' H' → StF As t F' H' → VOk K As F' H' w z → Fresh H w z → Q w H') → r vs H Q
def mCallB (f : List Rv → Option Rv) (m : AM) : EM := fun G t => (m G t).bind fun rs t => .of (f rs) t
theorem callB_te {r : List V → Hp → VK → Prop} {f : List Rv → Option Rv} {m : AM} (hf : CallD P.K r f) {σ : Sg} {H : Hp} {Q : VK} (h : teM P (mCallB f m) σ H Q) : tCB r (taM P m) σ H Q := by
  obtain ⟨As, F, G, t, R, p⟩ := h
  refine ⟨As, F, G, t, R, bindAE R p fun As1 F1 H1 vs rs t1 _ g1 R1 x1 p1 => ?_⟩
  cases e : f rs with
  | none => rw [e] at p1; exact p1.elim
  | some z =>
    rw [e] at p1
    exact hf e R1.st R1.sub x1 fun F' H' w g s x f => p1 As1 F' H' w g s x f
theorem se_callB {id : String} {r : List V → Hp → VK → Prop} {f : List Rv → Option Rv} {x : Str} {p : Pos} {es : List Expr} {m : AM} (hc : CallR X (.builtin id) r) (hf : CallD P.K r f) (hg : Gl X x) (hm : X.mg x = none) (hv : bootBuiltins x = some (.builtin id)) (ha : SA X P (a :: es) m)
    (hn : x ≠ "__name__") (hdb : (x == ("__debug__" : Str)) = false) (he : starEach (a :: es) X.env = (false, eval a X.env) :: starEach es X.env) (hpl : (backTo pos (starEach es X.env)).any (·.1) = false) : SE X P (.Call (.Name x p) (a :: es) [] pos) (mCallB f m) :=
  L2.PE.imp (pe_callB hc hg hm hv ha hn hdb he hpl) fun σ H Q h => callB_te hf h
theorem se_callTy {T : String} {r : List V → Hp → VK → Prop} {f : List Rv → Option Rv} {x : Str} {p : Pos} {es : List Expr} {m : AM} (hc : CallR X (.type T) r) (hf : CallD P.K r f) (hg : Gl X x) (hm : X.mg x = none) (hv : bootBuiltins x = some (.type T)) (ha : SA X P (a :: es) m)
    (hn : x ≠ "__name__") (hdb : (x == ("__debug__" : Str)) = false) (he : starEach (a :: es) X.env = (false, eval a X.env) :: starEach es X.env) (hpl : (backTo pos (starEach es X.env)).any (·.1) = false) : SE X P (.Call (.Name x p) (a :: es) [] pos) (mCallB f m) :=
  L2.PE.imp (pe_callTy hc hg hm hv ha hn hdb he hpl) fun σ H Q h => callB_te hf h
end
/-- one argument that is read -/
theorem calld_read1 {K : PySem.W.Frag} {r : List V → Hp → VK → Prop} (g : D → Option D) (vw : D → V) (hv : ∀ a d, g a = some d → ∀ F, Dp K F (vw d) d) (hr : ∀ a d v H (Q : VK), g a = some d → Dp K H v a → Q (vw d) H → r [v] H Q) :
    CallD K r (fun xs => match xs with | [x] => x.toD.bind fun a => (g a).map Rv.d | _ => none) := by
  intro xs z vs As F H t Q e s k vx q
  match xs, vx with
  | [x], .cons h .nil =>
    simp only at e
    cases e1 : x.toD with
    | none => simp [e1] at e
    | some a =>
      cases e2 : g a with
      | none => simp [e1, e2] at e
      | some d =>
        simp [e1, e2] at e
        subst e
        exact hr a d _ H Q e2 (h.weak k e1) (q F H _ (.refl k) s (hv a d e2 F) trivial)
def vOf : D → V
  | .none => .non
  | .bool b => .bl b
  | .int i => .int i
  | .str x => .str x
  | _ => .non
/-- len -/
def gLen : D → Option D
  | .list xs => some (.int xs.length)
  | .tuple xs => some (.int xs.length)
  | .str x => if x.length ≤ 16777216 then some (.int x.length) else none
  | _ => none
def rLenA (K : PySem.W.Frag) : List V → Hp → VK → Prop := fun xs H Q => ∃ x n, xs = [x] ∧ LenV K x H n ∧ Q (.int n) H
def f1 (g : D → Option D) : List Rv → Option Rv := fun xs => match xs with | [x] => x.toD.bind fun a => (g a).map Rv.d | _ => none
theorem calld_len {K : PySem.W.Frag} : CallD K (rLenA K) (f1 gLen) := calld_read1 gLen vOf (fun a d e F => by
    unfold gLen at e
    split at e
    · cases e; exact .int _
    · cases e; exact .int _
    · split at e
      · cases e; exact .int _
      · cases e
    · cases e) fun a d v H Q e h q => by
  unfold gLen at e
  split at e
  · cases e
    cases h with
    | lst hs ha => exact ⟨_, _, rfl, .inl ⟨_, hs, rfl⟩, by rw [ha.length]; exact q⟩
  · cases e
    cases h with
    | tup hs ha => exact ⟨_, _, rfl, .inr ⟨_, hs, rfl⟩, by rw [ha.length]; exact q⟩
  · split at e
    · rename_i hz
      cases e
      cases h
      exact ⟨_, _, rfl, ⟨by rw [sizeLine_eq]; exact hz, rfl⟩, q⟩
    · cases e
  · cases e
mutual
theorem nodict_of {K : PySem.W.Frag} {H : Hp} : ∀ (d : D) {v : V}, Dp K H v d → d.hasDict = false
  | .none, _, _ => by simp [PyData.hasDict]
  | .bool _, _, _ => by simp [PyData.hasDict]
  | .int _, _, _ => by simp [PyData.hasDict]
  | .str _, _, _ => by simp [PyData.hasDict]
  | .list ds, _, h => by
    cases h with
    | lst h1 h2 => simp [PyData.hasDict, nodicts_of ds h2]
  | .tuple ds, _, h => by
    cases h with
    | tup h1 h2 => simp [PyData.hasDict, nodicts_of ds h2]
  | .dict _, _, h => by cases h
theorem nodicts_of {K : PySem.W.Frag} {H : Hp} : ∀ (ds : List D) {vs : List V}, DpAll K H vs ds → PyData.hasDictAll ds = false
  | [], _, _ => by simp [PyData.hasDictAll]
  | d :: ds, _, h => by
    cases h with
    | cons h1 h2 => simp [PyData.hasDictAll, nodict_of d h1, nodicts_of ds h2]
end
/-- repr -/
def gRepr (d : D) : Option D := if d.showable && decide (d.depth ≤ 64) && decide (d.shown.length ≤ 16777216) then some (.str d.shown) else none
def rRepr (K : PySem.W.Frag) : List V → Hp → VK → Prop := fun xs H Q => ∃ v d, xs = [v] ∧ Dp K H v d ∧ d.showable = true ∧ d.depth ≤ 64 ∧ d.shown.length ≤ sizeLine ∧ Q (.str d.shown) H
theorem call_reprD {X : Cx} (hg : X.A.guards = some []) (hu : X.A.units + 70 < cLine) : CallR X (.builtin "repr") (rRepr X.K) := by
  intro pins s σ H xs us Q I r h
  obtain ⟨v, d, rfl, hd, hs, hdp, hz, q⟩ := h
  obtain ⟨u, rfl, rv⟩ := vals1 r
  cases d with
  | none =>
    cases hd
    cases rv
    simp only [PyData.shown] at q
    exact PySem.P.repr_of_none ⟨.str "None", H, I.tok _, ⟨_, rfl⟩, q⟩
  | bool b =>
    cases hd
    cases rv
    simp only [PyData.shown] at q
    exact PySem.P.repr_of_bool ⟨.str _, H, I.tok _, ⟨_, rfl⟩, q⟩
  | int i =>
    cases hd
    obtain ⟨t, rfl⟩ := rv
    simp only [PyData.shown] at q
    exact PySem.P.repr_of_int (by simpa [PyData.showable] using hs) ⟨.str _, H, I.tok _, ⟨_, rfl⟩, q⟩
  | str x =>
    cases hd
    obtain ⟨t, rfl⟩ := rv
    simp only [PyData.shown] at q hz
    exact PySem.P.repr_of_str ⟨.str _, H, I.tok _, ⟨_, rfl⟩, q⟩ hz
  | list ds =>
    obtain ⟨as, rd⟩ := Dp.reads I (.list ds) v u hd rv
    cases hd with
    | lst h1 h2 =>
      cases rv
      refine repr_of_reads' rd hs (fun z => ?_) hg (by omega) (fun b o e => e) (fun h' tu tk hk => ⟨.str _, H, I.kept (t' := tk) hk, ⟨tu, rfl⟩, q⟩) hz
      exfalso
      have := nodict_of _ (L2.Dp.lst h1 h2)
      rw [this] at z
      cases z
  | tuple ds =>
    obtain ⟨as, rd⟩ := Dp.reads I (.tuple ds) v u hd rv
    cases hd with
    | tup h1 h2 =>
      cases rv
      refine repr_of_reads' rd hs (fun z => ?_) hg (by omega) (fun b o e => e) (fun h' tu tk hk => ⟨.str _, H, I.kept (t' := tk) hk, ⟨tu, rfl⟩, q⟩) hz
      exfalso
      have := nodict_of _ (L2.Dp.tup h1 h2)
      rw [this] at z
      cases z
  | dict _ => cases hd
end DL
end

section
set_option Elab.async false
set_option linter.all false
set_option maxRecDepth 100000
set_option maxHeartbeats 4000000
namespace DL
open PySem PySem.Spec PyProof.Rows L2
variable [Tbs]

theorem calld_repr {K : PySem.W.Frag} : CallD K (rRepr K) (f1 gRepr) := calld_read1 gRepr vOf (fun a d e F => by
    unfold gRepr at e
    split at e
    · cases e; exact .str _
    · cases e) fun a d v H Q e h q => by
  unfold gRepr at e
  split at e
  · rename_i hh
    cases e
    rw [Bool.and_eq_true, Bool.and_eq_true] at hh
    exact ⟨_, _, rfl, h, hh.1.1, of_decide_eq_true hh.1.2, by rw [sizeLine_eq]; exact of_decide_eq_true hh.2, q⟩
  · cases e
/-- max(a, b), min(a, b) of ints -/
def f2 (g : D → D → Option D) : List Rv → Option Rv := fun xs => match xs with | [x, y] => fRead g x y | _ => none
theorem calld_read2 {K : PySem.W.Frag} {r : List V → Hp → VK → Prop} (g : D → D → Option D) (vw : D → V) (hv : ∀ a b d, g a b = some d → ∀ F, Dp K F (vw d) d) (hr : ∀ a b d v w H (Q : VK), g a b = some d → Dp K H v a → Dp K H w b → Q (vw d) H → r [v, w] H Q) :
    CallD K r (f2 g) := by
  intro xs z vs As F H t Q e s k vx q
  match xs, vx with
  | [x, y], .cons h (.cons h' .nil) =>
    obtain ⟨a, b, d, e1, e2, e3, rfl⟩ := fRead_some (show fRead g x y = some z from e)
    exact hr a b d _ _ H Q e3 (h.weak k e1) (h'.weak k e2) (q F H _ (.refl k) s (hv a b d e3 F) trivial)
def gMax : D → D → Option D
  | .int i, .int j => some (.int (if j > i then j else i))
  | _, _ => none
def gMin : D → D → Option D
  | .int i, .int j => some (.int (if j < i then j else i))
  | _, _ => none
def rMax2 : List V → Hp → VK → Prop := fun xs H Q => ∃ i j, xs = [.int i, .int j] ∧ Q (.int (if j > i then j else i)) H
def rMin2 : List V → Hp → VK → Prop := fun xs H Q => ∃ i j, xs = [.int i, .int j] ∧ Q (.int (if j < i then j else i)) H
theorem calld_max2 {K : PySem.W.Frag} : CallD K rMax2 (f2 gMax) := calld_read2 gMax vOf (fun a b d e F => by
    unfold gMax at e
    split at e
    · cases e; exact .int _
    · cases e) fun a b d v w H Q e h h' q => by
  unfold gMax at e
  split at e
  · cases e; cases h; cases h'; exact ⟨_, _, rfl, q⟩
  · cases e
theorem calld_min2 {K : PySem.W.Frag} : CallD K rMin2 (f2 gMin) := calld_read2 gMin vOf (fun a b d e F => by
    unfold gMin at e
    split at e
    · cases e; exact .int _
    · cases e) fun a b d v w H Q e h h' q => by
  unfold gMin at e
  split at e
  · cases e; cases h; cases h'; exact ⟨_, _, rfl, q⟩
  · cases e
/-- int(x) -/
def gInt : D → Option D
  | .int i => some (.int i)
  | .bool b => some (.int (if b then 1 else 0))
  | _ => none
def rInt1 : List V → Hp → VK → Prop := fun xs H Q => (∃ i, xs = [.int i] ∧ Q (.int i) H) ∨ ∃ k, xs = [.bl k] ∧ Q (.int (if k then 1 else 0)) H
theorem calld_int {K : PySem.W.Frag} : CallD K rInt1 (f1 gInt) := calld_read1 gInt vOf (fun a d e F => by
    unfold gInt at e
    split at e
    · cases e; exact .int _
    · cases e; exact .int _
    · cases e) fun a d v H Q e h q => by
  unfold gInt at e
  split at e
  · cases e; cases h; exact .inl ⟨_, rfl, q⟩
  · cases e; cases h; exact .inr ⟨_, rfl, q⟩
  · cases e
def gAbs : D → Option D
  | .int i => some (.int (if i < 0 then -i else i))
  | _ => none
def rAbs1 : List V → Hp → VK → Prop := fun xs H Q => ∃ i, xs = [.int i] ∧ Q (.int (if i < 0 then -i else i)) H
theorem calld_abs {K : PySem.W.Frag} : CallD K rAbs1 (f1 gAbs) := calld_read1 gAbs vOf (fun a d e F => by
    unfold gAbs at e
    split at e
    · cases e; exact .int _
    · cases e) fun a d v H Q e h q => by
  unfold gAbs at e
  split at e
  · cases e; cases h; exact ⟨_, rfl, q⟩
  · cases e
/-- lists of ints -/
def dInts : List D → Option (List Int)
  | [] => some []
  | .int i :: r => (dInts r).map (i :: ·)
  | _ :: _ => none
theorem dInts_some : ∀ {ds : List D} {ns : List Int}, dInts ds = some ns → ds = ns.map .int
  | [], ns, e => by cases e; rfl
  | .int i :: r, ns, e => by
    unfold dInts at e
    cases e1 : dInts r with
    | none => rw [e1] at e; cases e
    | some ms => rw [e1] at e; cases e; rw [dInts_some e1]; rfl
  | .none :: r, ns, e => by cases e
  | .bool _ :: r, ns, e => by cases e
  | .str _ :: r, ns, e => by cases e
  | .list _ :: r, ns, e => by cases e
  | .tuple _ :: r, ns, e => by cases e
  | .dict _ :: r, ns, e => by cases e
theorem dInts_map : ∀ ns : List Int, dInts (ns.map .int) = some ns
  | [] => rfl
  | n :: ns => by
    show (dInts (ns.map .int)).map (n :: ·) = _
    rw [dInts_map ns]; rfl
theorem ints_dp {K : PySem.W.Frag} {H : Hp} : ∀ {ns : List Int} {vs : List V}, DpAll K H vs (ns.map .int) → vs = ns.map V.int
  | [], _, h => by cases h; rfl
  | n :: ns, _, h => by
    cases h with
    | cons h1 h2 => cases h1; rw [ints_dp h2]; rfl
theorem dp_ints {K : PySem.W.Frag} {H : Hp} : ∀ (ns : List Int), DpAll K H (ns.map V.int) (ns.map .int)
  | [] => .nil
  | n :: ns => .cons (.int n) (dp_ints ns)
/-- sum of a list or tuple of ints -/
def rSumA (K : PySem.W.Frag) : List V → Hp → VK → Prop := fun vs H Q => ∃ (a : Addr) (ns : List Int), vs = [V.ref a] ∧ (SqL K H a (ns.map V.int) ∨ SqT K H a (ns.map V.int)) ∧ Q (.int ns.sum) H
def gSum : D → Option D
  | .list ds => (dInts ds).map fun ns => .int ns.sum
  | .tuple ds => (dInts ds).map fun ns => .int ns.sum
  | _ => none
theorem calld_sum {K : PySem.W.Frag} : CallD K (rSumA K) (f1 gSum) := calld_read1 gSum vOf (fun a d e F => by
    unfold gSum at e
    split at e
    · rename_i ds; cases e1 : dInts ds with
      | none => rw [e1] at e; cases e
      | some ns => rw [e1] at e; cases e; exact .int _
    · rename_i ds; cases e1 : dInts ds with
      | none => rw [e1] at e; cases e
      | some ns => rw [e1] at e; cases e; exact .int _
    · cases e) fun a d v H Q e h q => by
  unfold gSum at e
  split at e
  · rename_i ds
    cases e1 : dInts ds with
    | none => rw [e1] at e; cases e
    | some ns =>
      rw [e1] at e; cases e
      rw [dInts_some e1] at h
      cases h with
      | lst hs ha => rw [ints_dp ha] at hs; exact ⟨_, _, rfl, .inl hs, q⟩
  · rename_i ds
    cases e1 : dInts ds with
    | none => rw [e1] at e; cases e
    | some ns =>
      rw [e1] at e; cases e
      rw [dInts_some e1] at h
      cases h with
      | tup hs ha => rw [ints_dp ha] at hs; exact ⟨_, _, rfl, .inr hs, q⟩
  · cases e
/-- tuple(x), list(x) of a list or a tuple -/
def fTuple : List Rv → Option Rv := fun xs => match xs with
  | [x] => (x.items.map fun ds => .d (.tuple ds)).or (x.tup.map fun ds => .d (.tuple ds))
  | _ => none
def rTupleOf (K : PySem.W.Frag) : List V → Hp → VK → Prop := fun xs H Q => ∃ p ys, xs = [.ref p] ∧ ((SqL K H p ys ∧ ∀ l, H l = none → Q (.ref l) (upd H l (.tup ys))) ∨ (SqT K H p ys ∧ Q (.ref p) H))
theorem calld_tuple {K : PySem.W.Frag} : CallD K (rTupleOf K) fTuple := by
  intro xs z vs As F H t Q e s k vx q
  match xs, vx with
  | [x], .cons h .nil =>
    simp only [fTuple] at e
    cases e1 : x.items with
    | some ds =>
      simp [e1] at e
      subst e
      obtain ⟨p, ws, rfl, hs, a⟩ := h.items k e1
      refine ⟨p, ws, rfl, .inl ⟨hs, fun l n => ?_⟩⟩
      obtain ⟨_, g, s'⟩ := alloc (o := .tup ws) s k n
      exact q _ _ _ g s' (L2.Dp.tup (Or.inl (Or.inl upd_same)) (DpAll.mono g.ff _ _ a)) trivial
    | none =>
      cases e2 : x.tup with
      | none => simp [e1, e2] at e
      | some ds =>
        simp [e1, e2] at e
        subst e
        obtain ⟨p, ws, rfl, hs, a⟩ := h.tup e2
        exact ⟨p, ws, rfl, .inr ⟨Same.seqT k hs, q F H _ (.refl k) s (L2.Dp.tup hs a) trivial⟩⟩
def fList : List Rv → Option Rv := fun xs => match xs with
  | [x] => (x.items.map fun ds => .l ds).or (x.tup.map fun ds => .l ds)
  | _ => none
def rListOf (K : PySem.W.Frag) : List V → Hp → VK → Prop := fun xs H Q => ∃ p ys, xs = [.ref p] ∧ (SqL K H p ys ∨ SqT K H p ys) ∧ ∀ l, H l = none → Q (.ref l) (upd H l (.lst ys))
theorem calld_list {K : PySem.W.Frag} : CallD K (rListOf K) fList := by
  intro xs z vs As F H t Q e s k vx q
  match xs, vx with
  | [x], .cons h .nil =>
    have fin : ∀ {ds : List D} {p : Addr} {ws : List V}, DpAll K F ws ds → z = .l ds → ∀ l, H l = none → Q (.ref l) (upd H l (.lst ws)) := fun {ds p ws} a ez l n => by
      obtain ⟨⟨g, s'⟩, _⟩ := alloc (o := .lst ws) s k n
      subst ez
      exact q F _ _ g s' ⟨l, _, rfl, fun z => s.ok.there l z n, k.free n, upd_same, a⟩ ⟨l, rfl, n⟩
    simp only [fList] at e
    cases e1 : x.items with
    | some ds =>
      simp [e1] at e
      obtain ⟨p, ws, rfl, hs, a⟩ := h.items k e1
      exact ⟨p, ws, rfl, .inl hs, fin (p := p) a e.symm⟩
    | none =>
      cases e2 : x.tup with
      | none => simp [e1, e2] at e
      | some ds =>
        simp [e1, e2] at e
        obtain ⟨p, ws, rfl, hs, a⟩ := h.tup e2
        exact ⟨p, ws, rfl, .inr (Same.seqT k hs), fin (p := p) a e.symm⟩
/-- isinstance(x, T), T a built-in class by its name -/
def tyName : D → String
  | .none => "NoneType"
  | .bool _ => "bool"
  | .int _ => "int"
  | .str _ => "str"
  | .list _ => "list"
  | .tuple _ => "tuple"
  | .dict _ => "dict"
theorem tyX_of {K : PySem.W.Frag} {H : Hp} {v : V} {d : D} (h : Dp K H v d) : TyX K H v (.type (tyName d)) := by
  cases h with
  | non => exact .base .non
  | bl b => exact .base (.bl b)
  | int i => exact .base (.int i)
  | str x => exact .base (.str x)
  | lst hs ha =>
    rcases hs with (e | ⟨o, e⟩) | ⟨o, its, n, e, c, _⟩
    · exact .base (.lst e)
    · exact .base (.frz e)
    · exact .kList e c
  | tup hs ha =>
    rcases hs with (e | ⟨o, e⟩) | ⟨o, its, n, e, c, _⟩
    · exact .base (.tup e)
    · exact .fTuple e
    · exact .kTuple e c
/-- what isinstance says, by the two names -/
def isiB (a b : String) : Bool := a == b || (a == "bool" && b == "int")
def isiOk (b : String) : Bool := b == "int" || b == "bool" || b == "str" || b == "tuple" || b == "list" || b == "dict"
theorem kit_isi (d : D) {b : String} (h : isiOk b = true) : kitB (tyName d) b = some (isiB (tyName d) b) := by
  unfold isiOk at h
  simp only [Bool.or_eq_true, beq_iff_eq] at h
  rcases h with ((((rfl | rfl) | rfl) | rfl) | rfl) | rfl <;> cases d <;> (simp only [tyName]; decide +kernel)
def mIsi (T : String) (m : EM) : EM := fun G t => (m G t).fz.bind fun x t => .of (if isiOk T then x.toD.map fun d => .d (.bool (isiB (tyName d) T)) else none) t
section
variable {X : Cx} {P : Pm} {a : Expr} {ma : EM} {pos p p2 : Pos}
theorem se_isi {x : Str} {T : String} (hK : P.K = X.K) (ha : SE X P a ma) (hg : Gl X "isinstance") (hm : X.mg "isinstance" = none) (hgT : Gl X x) (hmT : X.mg x = none) (hvT : bootBuiltins x = some (.type T)) (hnT : x ≠ "__name__") (hdT : (x == ("__debug__" : Str)) = false)
    (h : PA X [a, .Name x p2] (tCons (teM P fun G t => (ma G t).fz) (tCons (tC (.ty T)) tNil)) → PE X (.Call (.Name "isinstance" p) [a, .Name x p2] [] pos) (tCB (rIsi X.K) (tCons (teM P fun G t => (ma G t).fz) (tCons (tC (.ty T)) tNil))))
    (h2 : PE X (.Name x p2) (tC (.ty T)) → PA X [a, .Name x p2] (tCons (teM P fun G t => (ma G t).fz) (tCons (tC (.ty T)) tNil))) :
    SE X P (.Call (.Name "isinstance" p) [a, .Name x p2] [] pos) (mIsi T ma) := by
  have e0 : PE X (.Name x p2) (tC (.ty T)) := pe_bltn hgT hmT hvT rfl hnT hdT
  refine L2.PE.imp (h (h2 e0)) fun σ H Q ⟨As, F, G, t, R, pp⟩ => ⟨As, F, G, t, R, bindEE R pp fun As1 F1 H1 v1 r1 t1 _ g1 R1 x1 p1 => ?_⟩
  by_cases ok : isiOk T = true
  · rw [if_pos ok] at p1
    cases e : r1.toD with
    | none => rw [e] at p1; exact p1.elim
    | some d =>
      rw [e] at p1
      refine ⟨v1, .ty T, .type (tyName d), .type T, isiB (tyName d) T, rfl, ?_, ?_, kit_ty (kit_isi d ok), p1 As1 F1 H1 _ (.refl R1.sub) R1.st (.bl _) trivial⟩
      · exact .ty T
      · rw [← hK]; exact tyX_of (x1.weak R1.sub e)
  · rw [if_neg ok] at p1; exact p1.elim
end
end DL
end

section
set_option Elab.async false
set_option linter.all false
set_option maxRecDepth 100000
set_option maxHeartbeats 4000000
namespace DL
open PySem PySem.Spec PyProof.Rows L2
variable [Tbs]

/-! ### lists and tuples alike, walked by zip and enumerate -/
def SqK (K : PySem.W.Frag) (H : Hp) (k : Bool) (a : Addr) (xs : List V) : Prop := match k with
  | true => SqL K H a xs
  | false => SqT K H a xs
def ItK (h : Heap) (k : Bool) (it a : Addr) (i : Nat) : Prop := match k with
  | true => h.IsListIter it a i
  | false => h.IsTupleIter it a i
def IsK (h : Heap) (k : Bool) (a : Addr) (vs : Array Value) : Prop := match k with
  | true => h.IsList a vs
  | false => h.IsTuple a vs
theorem Inv.sq {X : Cx} {pins : List (Addr × Obj)} {σ : Sg} {H : Hp} {s : Shared} (I : Inv X pins σ H s) {k : Bool} {a : Addr} {xs : List V} (h : SqK X.K H k a xs) : ∃ its : List Value, Vals xs its ∧ IsK s.heap k a its.toArray ∧ xs.length ≤ sizeLine := by
  cases k with
  | true => obtain ⟨its, r, p, z⟩ := I.list h; exact ⟨its, r, p.isList, z⟩
  | false => obtain ⟨its, r, p, z⟩ := I.tuple h; exact ⟨its, r, p, z⟩
theorem Inv.sq_inj {X : Cx} {pins : List (Addr × Obj)} {σ : Sg} {H : Hp} {s : Shared} (I : Inv X pins σ H s) {k : Bool} {a : Addr} {xs ys : List V} (h : SqK X.K H k a xs) (h' : SqK X.K H k a ys) : xs = ys := by
  cases k with
  | true => exact I.list_inj h h'
  | false => exact I.tuple_inj h h'
theorem drawsK {prog : Program} {w : World} {A : Around} (hh : A.handled = none) (k : Bool) (it a : Addr) (hne : a ≠ it) (items : Array Value) :
    Draws prog w A it [it, a] items.size (fun i v => items[i]? = some v) (fun i h => ItK h k it a i ∧ IsK h k a items) := by
  cases k with
  | true => exact .list hh it a hne items
  | false => exact .tuple hh it a hne items
def itObj (k : Bool) (a : Addr) : Obj := match k with
  | true => { cls := .type "list_iterator", data := .fields #[.ref a, .int 0 0] }
  | false => { cls := .type "tuple_iterator", data := .fields #[.ref a, .int 0 0] }
theorem beginsK (k : Bool) (a : Addr) (items : Array Value) : Begins (.ref a) (itObj k a) fun h => IsK h k a items := by
  cases k with
  | true => exact begins_list a items
  | false => exact begins_tuple a items
theorem itK_new {h : Heap} {k : Bool} {a it : Addr} (e : h.get? it = some (itObj k a)) : ItK h k it a 0 := by
  cases k with
  | true => exact ⟨_, e, rfl, rfl⟩
  | false => exact ⟨_, e, rfl, rfl⟩
theorem ItK.at {h h' : Heap} {k : Bool} {it a : Addr} {i : Nat} (x : ItK h k it a i) (q : ∀ o, h.get? it = some o → h'.get? it = some o) : ItK h' k it a i := by
  cases k with
  | true => obtain ⟨o, e, r⟩ := x; exact ⟨o, q o e, r⟩
  | false => obtain ⟨o, e, r⟩ := x; exact ⟨o, q o e, r⟩
theorem ItK.obj {h : Heap} {k : Bool} {it a : Addr} {i : Nat} (x : ItK h k it a i) : ∃ o, h.get? it = some o ∧ ∀ v, o.data ≠ .cell v := by
  cases k with
  | true => obtain ⟨o, e, _, d⟩ := x; exact ⟨o, e, fun v q => by rw [d] at q; cases q⟩
  | false => obtain ⟨o, e, _, d⟩ := x; exact ⟨o, e, fun v q => by rw [d] at q; cases q⟩
theorem SqK.lt {X : Cx} {pins : List (Addr × Obj)} {σ : Sg} {H : Hp} {s : Shared} (I : Inv X pins σ H s) {k : Bool} {a : Addr} {xs : List V} (h : SqK X.K H k a xs) : a < s.heap.objs.size := by
  obtain ⟨its, _, p, _⟩ := Inv.sq I h
  cases k with
  | true => obtain ⟨o, e, _⟩ := p; exact Heap.lt_size e
  | false => obtain ⟨o, e, _⟩ := p; exact Heap.lt_size e
theorem apartK {h : Heap} {k : Bool} {it a : Addr} {i : Nat} {vs : Array Value} (x : ItK h k it a i) (y : IsK h k a vs) : a ≠ it := fun e => by
  subst e
  cases k with
  | true =>
    obtain ⟨o, e1, c1, _⟩ := x
    obtain ⟨o', e2, c2, _⟩ := y
    rw [e1] at e2; cases e2; rw [c1] at c2
    injection c2 with c2
    exact absurd c2 (by decide)
  | false =>
    obtain ⟨o, e1, c1, _⟩ := x
    obtain ⟨o', e2, c2, _⟩ := y
    rw [e1] at e2; cases e2; rw [c1] at c2
    injection c2 with c2
    exact absurd c2 (by decide)
/-- zip of two -/
def ItzM (K : PySem.W.Frag) (k l : Bool) (a b : Addr) : It :=
  ⟨fun i H => ∃ (xs ys : List V) (x y : V), SqK K H k a xs ∧ SqK K H l b ys ∧ xs[i]? = some x ∧ ys[i]? = some y,
    fun i H v H' => ∃ T x y, v = .ref T ∧ H T = none ∧ H' = upd H T (.tup [x, y]) ∧ (∀ xs, SqK K H k a xs → xs[i]? = some x) ∧ ∀ ys, SqK K H l b ys → ys[i]? = some y,
    fun i H => ∃ xs ys : List V, SqK K H k a xs ∧ SqK K H l b ys ∧ i ≤ xs.length ∧ i ≤ ys.length ∧ (i = xs.length ∨ i = ys.length)⟩
theorem turn_zipM {P : Program} {w : World} {K : PySem.W.Frag} {elts : List Expr} {kk : Nat} {tpos : Pos} {k l : Bool} {a b z TI TO i1 i2 : Addr} (S : ZipSep2 z TI TO i1 i2 [i1, a] [i2, b]) :
    Turn P w K (.Tuple elts kk tpos) (ItzM K k l a b) [z, TI, TO, i1, i2] z (fun i h => IsZip h z TI TO .none ∧ IsTupOf2 h TI (.ref i1) (.ref i2) ∧ (∃ x y, IsTupOf2 h TO x y) ∧ ItK h k i1 a i ∧ ItK h l i2 b i) where
  mem := List.mem_cons_self
  obj := fun i h ⟨hz, hTI, ⟨x, y, hTO⟩, h1, h2⟩ c hc => by
    simp only [List.mem_cons, List.not_mem_nil, or_false] at hc
    rcases hc with q | q | q | q | q <;> subst q
    · exact ⟨_, hz, fun v q => nomatch q⟩
    · exact ⟨_, hTI, fun v q => nomatch q⟩
    · exact ⟨_, hTO, fun v q => nomatch q⟩
    · exact h1.obj
    · exact h2.obj
  keep := fun i h h' ⟨hz, hTI, ⟨x, y, hTO⟩, h1, h2⟩ q => ⟨q z (by simp) _ hz, q TI (by simp) _ hTI, ⟨x, y, q TO (by simp) _ hTO⟩, h1.at (q i1 (by simp)), h2.at (q i2 (by simp))⟩
  item := by
    rintro X rfl rfl rfl hc i pins s σ H E I hf ⟨hz, hTI, ⟨x0, y0, hTO⟩, h1, h2⟩ ⟨xs, ys, x, y, qx, qy, hx, hy⟩
    obtain ⟨us, rv, p1, _⟩ := Inv.sq I qx
    obtain ⟨ws, rw', p2, _⟩ := Inv.sq I qy
    have hh : X.A.in1.handled = none := I.ok.hd hc
    have n1 : a ≠ i1 := apartK h1 p1
    have n2 : b ≠ i2 := apartK h2 p2
    have D1 := drawsK (prog := X.prog) (w := X.w) hh k i1 a n1 us.toArray
    have D2 := drawsK (prog := X.prog) (w := X.w) hh l i2 b n2 ws.toArray
    have lt1 : i < us.toArray.size := by
      have := (List.getElem?_eq_some_iff.mp hx).1
      rw [List.size_toArray, ← rv.length]; exact this
    have lt2 : i < ws.toArray.size := by
      have := (List.getElem?_eq_some_iff.mp hy).1
      rw [List.size_toArray, ← rw'.length]; exact this
    obtain ⟨ux, hux, rx⟩ := rv.get hx
    obtain ⟨uy, huy, ry⟩ := rw'.get hy
    have hzl : z < s.heap.objs.size := Heap.lt_size hz
    refine wpAny_pyNext_zipD2_item S D1 D2 hz hTI hTO ⟨h1, p1⟩ ⟨h2, p2⟩ lt1 lt2 fun u1 u2 h' tk q1 q2 z' TO' st1 st2 hT hsz hk => ?_
    have e1 : u1 = ux := by
      have q1' : us[i]? = some u1 := by simpa using q1
      rw [hux] at q1'; exact (Option.some.inj q1').symm
    have e2 : u2 = uy := by
      have q2' : ws[i]? = some u2 := by simpa using q2
      rw [huy] at q2'; exact (Option.some.inj q2').symm
    subst e1 e2
    refine ⟨_, rfl, wpAny_letOwnedTupleGo_zip (s := { s with heap := h', toks := tk }) z' fun h'' z'' sb => ?_⟩
    have up : ∀ c o, c ≠ z → h'.get? c = some o → h''.get? c = some o := fun c o n e => (sb.2 c n).trans e
    have new : ObjOk X.prog X.w (upd H s.heap.objs.size (.tup [x, y])) h'' s.heap.objs.size (.tup [x, y]) :=
      ⟨by show 2 ≤ sizeLine; decide, [u1, u2], .cons rx (.cons ry .nil), ⟨_, up _ _ (Nat.ne_of_gt hzl) hT, rfl, _, rfl⟩⟩
    have I1 := I.turnedNew (t' := tk) (ch := [z, TI, TO, i1, i2]) (h' := h'') (fun c o hb e => by
      simp only [List.mem_cons, List.not_mem_nil, or_false, not_or] at hb
      exact up c o hb.1 (hk c o hb.1 hb.2.2.1 hb.2.2.2.1 hb.2.2.2.2 e)) hf (Nat.le_refl _) new
    refine ⟨.ref s.heap.objs.size, _, I1, rfl, ⟨_, x, y, rfl, I.hok.fresh (Nat.le_refl _), rfl, fun ls hl => by rw [Inv.sq_inj I hl qx]; exact hx, fun ls hl => by rw [Inv.sq_inj I hl qy]; exact hy⟩,
      ⟨z'', up _ _ S.TIz (hk _ _ S.TIz S.TITO S.TIi1 S.TIi2 hTI), ⟨u1, u2, up _ _ S.TOz TO'⟩, st1.1.at fun o e => up _ _ (fun e' => S.zi1 e'.symm) e, st2.1.at fun o e => up _ _ (fun e' => S.zi2 e'.symm) e⟩, fun c hcm => ?_⟩
    have cl : c < s.heap.objs.size := by
      simp only [List.mem_cons, List.not_mem_nil, or_false] at hcm
      rcases hcm with q | q | q | q | q <;> subst q
      · exact hzl
      · exact Heap.lt_size hTI
      · exact Heap.lt_size hTO
      · obtain ⟨o, e, _⟩ := h1.obj; exact Heap.lt_size e
      · obtain ⟨o, e, _⟩ := h2.obj; exact Heap.lt_size e
    rw [upd_ne (Nat.ne_of_lt cl)]
    exact (hf c hcm).1
  done := by
    rintro X rfl rfl rfl hc i pins s σ H E I hf ⟨hz, hTI, ⟨x0, y0, hTO⟩, h1, h2⟩ ⟨xs, ys, qx, qy, le1, le2, hend⟩
    obtain ⟨us, rv, p1, _⟩ := Inv.sq I qx
    obtain ⟨ws, rw', p2, _⟩ := Inv.sq I qy
    have hh : X.A.in1.handled = none := I.ok.hd hc
    have n1 : a ≠ i1 := apartK h1 p1
    have n2 : b ≠ i2 := apartK h2 p2
    have l1 := rv.length
    have l2 := rw'.length
    refine wpAny_pyNext_zipD2_end S (drawsK hh k i1 a n1 us.toArray) (drawsK hh l i2 b n2 ws.toArray) hz hTI hTO ⟨h1, p1⟩ ⟨h2, p2⟩ (by rw [List.size_toArray]; omega) (by rw [List.size_toArray]; omega) (by rw [List.size_toArray, List.size_toArray]; omega) fun h' tk hk => ⟨rfl, I.turnedL (ch := [z, TI, TO, i1, i2]) (fun c o hb e => ?_) hf⟩
    simp only [List.mem_cons, List.not_mem_nil, or_false, not_or] at hb
    exact hk c o hb.1 hb.2.2.1 hb.2.2.2.1 hb.2.2.2.2 e
  self := fun A i s Q E st h => wpAny_pyIter_zip st.1 h
def iZipM (K : PySem.W.Frag) (ta : TA) : TI := fun σ H R => ta σ H fun vs H1 => ∃ k l a b xs ys, vs = [.ref a, .ref b] ∧ SqK K H1 k a xs ∧ SqK K H1 l b ys ∧ R (ItzM K k l a b) H1
theorem pi_zipM {X : Cx} {e e2 : Expr} {ta : TA} {p pos tpos : Pos} {elts : List Expr} {kk : Nat} (hg : Gl X "zip") (hm : X.mg "zip" = none) (ha : PA X [e, e2] ta)
    (hs : starEach [e, e2] X.env = (false, eval e X.env) :: starEach [e2] X.env) (hpl : (backTo pos (starEach [e2] X.env)).any (·.1) = false) :
    PI X (.Tuple elts kk tpos) (.Call (.Name "zip" p) [e, e2] [] pos) (iZipM X.K ta) := by
  refine ⟨fun pins s σ H R I h => Call_ (ld_blt I hg hm PyProof.Rows.boot_zip (PyProof.Rows.callWith_type1 (thn (ha.run pos pins s σ H _ I h) fun us s1 hh => ?_) hs hpl))⟩
  obtain ⟨vs, H1, I1, r1, k, l, a, b, xs, ys, ev, qx, qy, q⟩ := hh
  subst ev
  cases r1 with
  | cons r rr =>
    cases rr with
    | cons r' rr =>
      cases rr
      cases r
      cases r'
      obtain ⟨ux, rv, p1, _⟩ := Inv.sq I1 qx
      obtain ⟨uy, rw', p2, _⟩ := Inv.sq I1 qy
      have la := SqK.lt I1 qx
      have lb := SqK.lt I1 qy
      refine zip_begins2 (beginsK k a ux.toArray) (beginsK l b uy.toArray) p1 p2 fun h' hz hTI hTO h1 h2 hsz hk => wpAny_pyIter_zip hz ?_
      refine ⟨s1.heap.objs.size + 4, [s1.heap.objs.size + 4, s1.heap.objs.size + 2, s1.heap.objs.size + 3, s1.heap.objs.size, s1.heap.objs.size + 1], _, _, H1, rfl, I1.kept (t' := s1.toks) hk,
        turn_zipM (k := k) (l := l) (zip_sep2 (fp1 := [a]) (fp2 := [b]) (fun c hc => by simp at hc; subst hc; exact la) (fun c hc => by simp at hc; subst hc; exact lb)), ⟨hz, hTI, ⟨_, _, hTO⟩, itK_new h1, itK_new h2⟩, fun c hc => ?_, q⟩
      have hle : s1.heap.objs.size ≤ c := by
        simp only [List.mem_cons, List.not_mem_nil, or_false] at hc
        rcases hc with z | z | z | z | z <;> subst z <;> first | exact Nat.le_add_right _ _ | exact Nat.le_refl _
      exact I1.fpOk hle (I1.hok.fresh hle)
/-- enumerate of one -/
def IteM (K : PySem.W.Frag) (k : Bool) (a : Addr) : It :=
  ⟨fun i H => ∃ (xs : List V) (x : V), SqK K H k a xs ∧ xs[i]? = some x,
    fun i H v H' => ∃ T x, v = .ref T ∧ H T = none ∧ H' = upd H T (.tup [.int (i : Nat), x]) ∧ ∀ xs, SqK K H k a xs → xs[i]? = some x,
    fun i H => ∃ xs : List V, SqK K H k a xs ∧ i = xs.length⟩
end DL
end

section
set_option Elab.async false
set_option linter.all false
set_option maxRecDepth 100000
set_option maxHeartbeats 4000000
namespace DL
open PySem PySem.Spec PyProof.Rows L2
variable [Tbs]

/-! ### what is walked -/
def Walks (K : PySem.W.Frag) (J : It) (items : List D) (F : Hp) : Prop := ∀ (F2 H2 : Hp) (As : List Addr) (t : Option DS), Same F F2 → Same F2 H2 → StF As t F2 H2 → ∀ i : Nat,
  (∀ d, items[i]? = some d → J.go i H2 ∧ ∀ x H3, J.yld i H2 x H3 → ∃ F3, Grow As F2 H2 As F3 H3 ∧ StF As t F3 H3 ∧ Dp K F3 x d) ∧ (i = items.length → J.stop i H2)
theorem walks_list {K : PySem.W.Frag} {a : Addr} {vs : List V} {ds : List D} {F : Hp} (h : SqL K F a vs) (ha : DpAll K F vs ds) : Walks K (Itl K a) ds F := by
  intro F2 H2 As t k1 k2 s i
  have h2 : SqL K H2 a vs := (k1.trans k2).seq h
  refine ⟨fun d e => ?_, fun e => ⟨vs, h2, by rw [ha.length]; omega⟩⟩
  obtain ⟨v, e1, hd⟩ := ha.get e
  refine ⟨⟨vs, v, h2, e1⟩, fun x H3 y => ?_⟩
  obtain ⟨rfl, y⟩ := y
  have := y vs h2
  rw [e1] at this
  cases this
  exact ⟨F2, .refl k2, s, Dp.mono k1 _ _ hd⟩
theorem walks_tup {K : PySem.W.Frag} {a : Addr} {vs : List V} {ds : List D} {F : Hp} (h : SqT K F a vs) (ha : DpAll K F vs ds) : Walks K (Itt K a) ds F := by
  intro F2 H2 As t k1 k2 s i
  have h2 : SqT K H2 a vs := Same.seqT (k1.trans k2) h
  refine ⟨fun d e => ?_, fun e => ⟨vs, h2, by rw [ha.length]; omega⟩⟩
  obtain ⟨v, e1, hd⟩ := ha.get e
  refine ⟨⟨vs, v, h2, e1⟩, fun x H3 y => ?_⟩
  obtain ⟨rfl, y⟩ := y
  have := y vs h2
  rw [e1] at this
  cases this
  exact ⟨F2, .refl k2, s, Dp.mono k1 _ _ hd⟩
def rangeD (lo : Int) (n : Nat) : List D := (List.range n).map fun (i : Nat) => .int (lo + (i : Int))
theorem walks_range {K : PySem.W.Frag} {lo : Int} {n : Nat} {F : Hp} : Walks K (Itr lo n) (rangeD lo n) F := by
  intro F2 H2 As t k1 k2 s i
  refine ⟨fun d e => ?_, fun e => by unfold rangeD at e; simp at e; exact Nat.le_of_eq e.symm⟩
  unfold rangeD at e
  simp only [List.getElem?_map, Option.map_eq_some_iff] at e
  obtain ⟨j, e1, e2⟩ := e
  obtain ⟨hlt, e3⟩ := List.getElem?_eq_some_iff.mp e1
  simp at hlt e3
  subst e3
  refine ⟨hlt, fun x H3 y => ?_⟩
  obtain ⟨rfl, rfl⟩ := y
  exact ⟨F2, .refl k2, s, by rw [← e2]; exact .int _⟩
def zipD : List D → List D → List D
  | x :: xs, y :: ys => .tuple [x, y] :: zipD xs ys
  | _, _ => []
theorem zipD_get : ∀ {xs ys : List D} {i : Nat} {d : D}, (zipD xs ys)[i]? = some d → ∃ x y, xs[i]? = some x ∧ ys[i]? = some y ∧ d = .tuple [x, y]
  | [], _, _, _, e => by simp [zipD] at e
  | _ :: _, [], _, _, e => by simp [zipD] at e
  | x :: xs, y :: ys, 0, d, e => by simp [zipD] at e; exact ⟨x, y, rfl, rfl, e.symm⟩
  | x :: xs, y :: ys, i + 1, d, e => by
    obtain ⟨x', y', e1, e2, e3⟩ := zipD_get (xs := xs) (ys := ys) (i := i) (by simpa [zipD] using e)
    exact ⟨x', y', by simpa using e1, by simpa using e2, e3⟩
theorem zipD_length : ∀ (xs ys : List D), (zipD xs ys).length = min xs.length ys.length
  | [], _ => by simp [zipD]
  | _ :: _, [] => by simp [zipD]
  | x :: xs, y :: ys => by simp [zipD, zipD_length xs ys]
theorem SqK.mono {K : PySem.W.Frag} {H H' : Hp} {k : Bool} {a : Addr} {xs : List V} (q : Same H H') (h : SqK K H k a xs) : SqK K H' k a xs := by
  cases k with
  | true => exact q.seq h
  | false => exact Same.seqT q h
theorem walks_zip {K : PySem.W.Frag} {k l : Bool} {a b : Addr} {vs ws : List V} {ds es : List D} {F : Hp} (h : SqK K F k a vs) (h' : SqK K F l b ws) (ha : DpAll K F vs ds) (hb : DpAll K F ws es) : Walks K (ItzM K k l a b) (zipD ds es) F := by
  intro F2 H2 As t k1 k2 s i
  have q1 : SqK K H2 k a vs := h.mono (k1.trans k2)
  have q2 : SqK K H2 l b ws := h'.mono (k1.trans k2)
  refine ⟨fun d e => ?_, fun e => ⟨vs, ws, q1, q2, ?_⟩⟩
  · obtain ⟨x, y, e1, e2, rfl⟩ := zipD_get e
    obtain ⟨v, e3, hd⟩ := ha.get e1
    obtain ⟨w, e4, he⟩ := hb.get e2
    refine ⟨⟨vs, ws, v, w, q1, q2, e3, e4⟩, fun z H3 yy => ?_⟩
    obtain ⟨T, x1, y1, rfl, n, rfl, f1, f2⟩ := yy
    have z1 := f1 vs q1
    have z2 := f2 ws q2
    rw [e3] at z1; cases z1
    rw [e4] at z2; cases z2
    obtain ⟨_, g, s'⟩ := alloc (o := .tup [v, w]) s k2 n
    exact ⟨_, g, s', L2.Dp.tup (Or.inl (Or.inl upd_same)) (.cons (Dp.mono (k1.trans g.ff) _ _ hd) (.cons (Dp.mono (k1.trans g.ff) _ _ he) .nil))⟩
  · rw [zipD_length] at e
    rw [ha.length, hb.length]
    omega
abbrev IM := Gm → Option DS → Rs (List D)
def PostI (P : Pm) (As : List Addr) (F H : Hp) (σ : Sg) (R : It → Hp → Prop) : Rs (List D) → Prop
  | .ok items t => ∀ As' F' H' J, Grow As F H As' F' H' → StF As' t F' H' → Walks P.K J items F' → R J H'
  | .ex c fs t => PostX P As F H σ c fs t
  | .stuck => False
def tiM (P : Pm) (m : IM) : TI := fun σ H R => ∃ As F G t, Rel P.K P.xi As F G t σ H ∧ PostI P As F H σ R (m G t)
theorem PostI.re {P : Pm} {As As1 : List Addr} {F F1 H H1 : Hp} {σ : Sg} {R : It → Hp → Prop} {r : Rs (List D)} (g : Grow As F H As1 F1 H1) (h : PostI P As F H σ R r) : PostI P As1 F1 H1 σ R r := by
  cases r with
  | ok r t => exact fun As' F' H' J g' s x => h As' F' H' J (g.trans g') s x
  | ex c fs t => exact PostX.re g h
  | stuck => exact h
instance instI : Ends' (List D) := ⟨It → Hp → Prop, PostI, PostI.re, fun h => h, fun h => h⟩
theorem bindEI {P : Pm} {As : List Addr} {F H : Hp} {G : Gm} {t : Option DS} {σ : Sg} {m : Rs Rv} {f : Rv → Option DS → Rs (List D)} {Q : It → Hp → Prop} {Q1 : VK} (R : Rel P.K P.xi As F G t σ H) (h : PostI P As F H σ Q (m.bind f))
    (h2 : ∀ As1 F1 H1 v1 r1 t1, m = .ok r1 t1 → Grow As F H As1 F1 H1 → Rel P.K P.xi As1 F1 G t1 σ H1 → VOk P.K As1 F1 H1 v1 r1 → PostI P As1 F1 H1 σ Q (f r1 t1) → Q1 v1 H1) : PostE P As F H σ Q1 m :=
  bindE (E := instI) (Q := Q) R h h2
theorem bindAI {P : Pm} {As : List Addr} {F H : Hp} {G : Gm} {t : Option DS} {σ : Sg} {m : Rs (List Rv)} {f : List Rv → Option DS → Rs (List D)} {Q : It → Hp → Prop} {Q1 : List V → Hp → Prop} (R : Rel P.K P.xi As F G t σ H) (h : PostI P As F H σ Q (m.bind f))
    (h2 : ∀ As1 F1 H1 v1 r1 t1, m = .ok r1 t1 → Grow As F H As1 F1 H1 → Rel P.K P.xi As1 F1 G t1 σ H1 → Paired (VOk P.K As1 F1 H1) v1 r1 → PostI P As1 F1 H1 σ Q (f r1 t1) → Q1 v1 H1) : PostA P As F H σ Q1 m :=
  bindA (E := instI) (Q := Q) R h h2
def SI (X : Cx) (P : Pm) (tg iter : Expr) (m : IM) : Prop := PI X tg iter (tiM P m)
theorem _root_.L2.PI.imp {X : Cx} {tg e : Expr} {t t' : TI} (h : PI X tg e t) (hi : ∀ σ H Q, t' σ H Q → t σ H Q) : PI X tg e t' := ⟨fun pins s σ H Q I q => h.run pins s σ H Q I (hi _ _ _ q)⟩
/-- a list or a tuple, by its value -/
def iSeq (K : PySem.W.Frag) (te : TE) : TI := fun σ H R => te σ H fun x H1 => ∃ a, x = .ref a ∧ (((∃ xs, SqL K H1 a xs) ∧ R (Itl K a) H1) ∨ ((∃ xs, SqT K H1 a xs) ∧ R (Itt K a) H1))
theorem pi_seq {X : Cx} {tg e : Expr} {te : TE} (he : PE X e te) : PI X tg e (iSeq X.K te) := by
  refine ⟨fun pins s σ H R I h => thn (he.run pins s σ H _ I h) fun u s1 hh => ?_⟩
  obtain ⟨x, H1, I1, r1, a, ex, h1⟩ := hh
  subst ex
  cases r1
  have new : ∀ {o : Obj}, Inv X pins σ H1 { s1 with heap := s1.heap.push o } := I1.kept (t' := s1.toks) fun b ob e => Heap.get?_push_of_some _ e
  have fp : ∀ b ∈ [s1.heap.objs.size], FpOk X pins H1 b := fun b hb => by
    rw [List.mem_singleton] at hb
    subst hb
    exact I1.fpOk (Nat.le_refl _) (I1.hok.fresh (Nat.le_refl _))
  rcases h1 with ⟨⟨xs, hq⟩, q⟩ | ⟨⟨xs, hq⟩, q⟩
  · obtain ⟨its, rv, p, _⟩ := I1.list hq
    exact wpAny_pyIter_list p.isList ⟨_, [s1.heap.objs.size], _, _, H1, rfl, new, turn_list a _, ⟨_, Heap.get?_push_size _ rfl, rfl, rfl⟩, fp, q⟩
  · obtain ⟨its, rv, p, _⟩ := I1.tuple hq
    exact wpAny_pyIter_tuple (show s1.heap.IsTuple a its.toArray from p) ⟨_, [s1.heap.objs.size], _, _, H1, rfl, new, turn_tuple a _, ⟨_, Heap.get?_push_size _ rfl, rfl, rfl⟩, fp, q⟩
/-- the sequence that a frozen value is -/
def Rv.seq : Rv → Option (List D)
  | .d (.list xs) => some xs
  | .d (.tuple xs) => some xs
  | _ => none
theorem VOk.seq {K : PySem.W.Frag} {As : List Addr} {F H : Hp} {v : V} {r : Rv} {xs : List D} (h : VOk K As F H v r) (e : r.seq = some xs) : ∃ k p vs, v = .ref p ∧ SqK K F k p vs ∧ DpAll K F vs xs := by
  cases r with
  | d y =>
    cases y with
    | list ys =>
      cases e
      cases h with
      | lst hs ha => exact ⟨true, _, _, rfl, hs, ha⟩
    | tuple ys =>
      cases e
      cases h with
      | tup hs ha => exact ⟨false, _, _, rfl, hs, ha⟩
    | _ => cases e
  | _ => cases e
def mSeq (m : EM) : IM := fun G t => (m G t).fz.bind fun r t => .of r.seq t
section
variable {X : Cx} {P : Pm} {tg e a b : Expr} {m ma mb : EM} {pos p : Pos}
theorem si_seq (hK : P.K = X.K) (h : SE X P e m) : SI X P tg e (mSeq m) := by
  refine L2.PI.imp (pi_seq h.fz) fun σ H Q ⟨As, F, G, t, R, pp⟩ => ⟨As, F, G, t, R, bindEI R pp fun As1 F1 H1 v1 r1 t1 _ g1 R1 x1 p1 => ?_⟩
  cases e1 : r1.seq with
  | none => rw [e1] at p1; exact p1.elim
  | some xs =>
    rw [e1] at p1
    obtain ⟨k, p, vs, rfl, hs, ha⟩ := x1.seq e1
    rw [← hK]
    cases k with
    | true => exact ⟨p, rfl, .inl ⟨⟨vs, R1.sub.seq hs⟩, p1 As1 F1 H1 _ (.refl R1.sub) R1.st (walks_list hs ha)⟩⟩
    | false => exact ⟨p, rfl, .inr ⟨⟨vs, Same.seqT R1.sub hs⟩, p1 As1 F1 H1 _ (.refl R1.sub) R1.st (walks_tup hs ha)⟩⟩
def rngOk (i : Int) : Bool := decide (-(2 ^ 62) ≤ i) && decide (i < 2 ^ 62)
theorem rngOk_of {i : Int} (h : rngOk i = true) : -(2 ^ 62) ≤ i ∧ i < 2 ^ 62 := by
  unfold rngOk at h
  rw [Bool.and_eq_true] at h
  exact ⟨of_decide_eq_true h.1, of_decide_eq_true h.2⟩
def rng1 : Rv → Option (List D)
  | .d (.int j) => if rngOk j then some (rangeD 0 j.toNat) else none
  | _ => none
def mRange1 (m : EM) : IM := fun G t => (m G t).fz.bind fun r t => .of (rng1 r) t
theorem si_range1 (hg : Gl X "range") (hm : X.mg "range" = none) (ha : SE X P a ma) (hs : starEach [a] X.env = [(false, eval a X.env)]) : SI X P tg (.Call (.Name "range" p) [a] [] pos) (mRange1 ma) := by
  refine L2.PI.imp (pi_range1 hg hm (pa_cons ha.fz pa_nil hs) hs) fun σ H Q ⟨As, F, G, t, R, pp⟩ => ⟨As, F, G, t, R, bindEI R pp fun As1 F1 H1 v1 r1 t1 er g1 R1 x1 p1 => ?_⟩
  unfold rng1 at p1
  split at p1
  · rename_i j
    split at p1
    · rename_i hj
      cases x1
      obtain ⟨b1, b2⟩ := rngOk_of hj
      exact ⟨j, rfl, b1, b2, p1 As1 F1 H1 _ (.refl R1.sub) R1.st walks_range⟩
    · exact p1.elim
  · exact p1.elim
def rng2 : Rv → Rv → Option (List D)
  | .d (.int i), .d (.int j) => if rngOk i && rngOk j then some (rangeD i (j - i).toNat) else none
  | _, _ => none
def mRange2 (m m' : EM) : IM := fun G t => (m G t).fz.bind fun r t => (m' G t).fz.bind fun r' t => .of (rng2 r r') t
theorem si_range2 (hg : Gl X "range") (hm : X.mg "range" = none) (ha : SE X P a ma) (hb : SE X P b mb) (hs : starEach [a, b] X.env = [(false, eval a X.env), (false, eval b X.env)]) (hs2 : starEach [b] X.env = [(false, eval b X.env)]) :
    SI X P tg (.Call (.Name "range" p) [a, b] [] pos) (mRange2 ma mb) := by
  refine L2.PI.imp (pi_range2 hg hm (pa_cons ha.fz (pa_cons hb.fz pa_nil hs2) (by rw [hs, hs2])) hs hs2) fun σ H Q ⟨As, F, G, t, R, pp⟩ => ⟨As, F, G, t, R, bindEI R pp fun As1 F1 H1 v1 r1 t1 er g1 R1 x1 p1 => ⟨As1, F1, G, t1, R1, bindEI R1 p1 fun As2 F2 H2 v2 r2 t2 er2 g2 R2 x2 p2 => ?_⟩⟩
  clear er er2
  have x1' := x1.mono g2
  unfold rng2 at p2
  split at p2
  · rename_i i j
    split at p2
    · rename_i hj
      cases x1'
      cases x2
      rw [Bool.and_eq_true] at hj
      obtain ⟨a1, a2⟩ := rngOk_of hj.1
      obtain ⟨b1, b2⟩ := rngOk_of hj.2
      exact ⟨i, j, rfl, ⟨a1, a2, b1, b2⟩, p2 As2 F2 H2 _ (.refl R2.sub) R2.st walks_range⟩
    · exact p2.elim
  · exact p2.elim
def mZip (m m' : EM) : IM := fun G t => (m G t).fz.bind fun r t => (m' G t).fz.bind fun r' t => .of (r.seq.bind fun xs => r'.seq.map fun ys => zipD xs ys) t
theorem si_zip {elts : List Expr} {kk : Nat} {tpos : Pos} (hK : P.K = X.K) (hg : Gl X "zip") (hm : X.mg "zip" = none) (ha : SE X P a ma) (hb : SE X P b mb) (hs : starEach [a, b] X.env = [(false, eval a X.env), (false, eval b X.env)]) (hs2 : starEach [b] X.env = [(false, eval b X.env)])
    (hpl : (backTo pos (starEach [b] X.env)).any (·.1) = false) : SI X P (.Tuple elts kk tpos) (.Call (.Name "zip" p) [a, b] [] pos) (mZip ma mb) := by
  refine L2.PI.imp (pi_zipM hg hm (pa_cons ha.fz (pa_cons hb.fz pa_nil hs2) (by rw [hs, hs2])) (by rw [hs, hs2]) hpl) fun σ H Q ⟨As, F, G, t, R, pp⟩ => ⟨As, F, G, t, R, bindEI R pp fun As1 F1 H1 v1 r1 t1 er g1 R1 x1 p1 => ⟨As1, F1, G, t1, R1, bindEI R1 p1 fun As2 F2 H2 v2 r2 t2 _ g2 R2 x2 p2 => ?_⟩⟩
  have x1' := x1.mono g2
  cases e1 : r1.seq with
  | none => rw [e1] at p2; exact p2.elim
  | some xs =>
    cases e2 : r2.seq with
    | none => rw [e1, e2] at p2; exact p2.elim
    | some ys =>
      rw [e1, e2] at p2
      obtain ⟨k, q, vs, rfl, hs, ha⟩ := x1'.seq e1
      obtain ⟨l, q', ws, rfl, hs', hb⟩ := x2.seq e2
      rw [← hK]
      exact ⟨k, l, q, q', vs, ws, rfl, hs.mono R2.sub, hs'.mono R2.sub, p2 As2 F2 H2 _ (.refl R2.sub) R2.st (walks_zip hs hs' ha hb)⟩
end
/-! ### targets -/
inductive Pt where
  | nm (i : Nat) | tup (ps : List Nat)
def setAll : List Nat → List D → Gm → Option Gm
  | [], [], G => some G
  | i :: is, x :: xs, G => if i < G.length then setAll is xs (G.set i (.d x)) else none
  | _, _, _ => none
def asg : Pt → D → Gm → Option Gm
  | .nm i, x, G => setAll [i] [x] G
  | .tup is, .tuple xs, G => setAll is xs G
  | .tup _, _, _ => none
def Pt.ix : Pt → List Nat
  | .nm i => [i]
  | .tup is => is
theorem Rel.set {K : PySem.W.Frag} {xi : XI} {As : List Addr} {F : Hp} {G : Gm} {t : Option DS} {σ : Sg} {H : Hp} (R : Rel K xi As F G t σ H) {i : Nat} {x : D} {v : V} (hi : i < G.length) (hd : Dp K F v x) : Rel K xi As F (G.set i (.d x)) t (σ.set i (some v)) H := by
  refine ⟨R.sub, R.st, by simp [R.len], fun j s e => ?_, fun j k xs ys w n e1 e2 e3 e4 => ?_⟩
  · by_cases hj : j = i
    · subst hj
      rw [List.getElem?_set_self hi] at e
      cases e
      exact ⟨v, by rw [List.getElem?_set_self (by rw [← R.len]; exact hi)], hd⟩
    · rw [List.getElem?_set_ne (Ne.symm hj)] at e
      rw [List.getElem?_set_ne (Ne.symm hj)]
      exact R.slot j s e
  · have nj : j ≠ i := fun q => by subst q; rw [List.getElem?_set_self hi] at e1; cases e1
    have nk : k ≠ i := fun q => by subst q; rw [List.getElem?_set_self hi] at e2; cases e2
    rw [List.getElem?_set_ne (Ne.symm nj)] at e1 e3
    rw [List.getElem?_set_ne (Ne.symm nk)] at e2 e4
    exact R.inj j k xs ys w n e1 e2 e3 e4
/-- behind a target -/
def After (is : List Nat) (σ σ' : Sg) : Prop := σ'.length = σ.length ∧ ∀ j, j ∉ is → σ'[j]? = σ[j]?
theorem After.refl (is : List Nat) (σ : Sg) : After is σ σ := ⟨rfl, fun _ _ => rfl⟩
theorem After.wipe : ∀ {vs is : List Nat} {σ σ' : Sg}, After is (L2.wipe σ vs) σ' → (∀ i ∈ is, i ∈ vs) → L2.wipe σ' vs = L2.wipe σ vs := by
  intro vs is σ σ' h hs
  have key : ∀ (ws : List Nat) (τ : Sg) (j : Nat), (L2.wipe τ ws)[j]? = if j ∈ ws then (if j < τ.length then some none else none) else τ[j]? := by
    intro ws
    induction ws with
    | nil => intro τ j; simp [L2.wipe]
    | cons w ws ih =>
      intro τ j
      unfold L2.wipe
      by_cases hj : w = j
      · subst hj
        by_cases hl : w < τ.length
        · rw [List.getElem?_set_self (by rw [wipe_length]; exact hl)]
          simp [hl]
        · rw [List.getElem?_eq_none (by simp [wipe_length]; omega)]
          simp [hl]
      · rw [List.getElem?_set_ne hj, ih]
        have : (j ∈ w :: ws) = (j ∈ ws) := by simp [Ne.symm hj]
        simp only [this]
  apply List.ext_getElem?
  intro j
  rw [key, key]
  have hl : σ'.length = σ.length := by rw [h.1, wipe_length]
  by_cases hj : j ∈ vs
  · simp [hj, hl]
  · have := h.2 j (fun z => hj (hs j z))
    rw [key] at this
    simp [hj] at this ⊢
    exact this
def tgM (P : Pm) (is : List Nat) (pt : Pt) : TG := fun v σ H Q => ∃ As F G t x G', Rel P.K P.xi As F G t σ H ∧ Dp P.K F v x ∧ asg pt x G = some G' ∧ ∀ σ', Rel P.K P.xi As F G' t σ' H → After is σ σ' → Q σ' H
/-- names one after another -/
theorem tgs_ok {P : Pm} {As : List Addr} {F : Hp} {t : Option DS} {H : Hp} : ∀ {is : List Nat} {xs : List D} {vs : List V} {G G' : Gm} {σ : Sg}, Rel P.K P.xi As F G t σ H → DpAll P.K F vs xs → setAll is xs G = some G' →
    ∃ σ', (∀ Q : Sg → Hp → Prop, Q σ' H → (is.foldr (fun i u => gCons (gName i) u) gNil) vs σ H Q) ∧ Rel P.K P.xi As F G' t σ' H ∧ After is σ σ'
  | [], [], vs, G, G', σ, R, a, e => by
    cases e; cases a
    exact ⟨σ, fun Q q => ⟨rfl, q⟩, R, .refl _ _⟩
  | i :: is, x :: xs, vs, G, G', σ, R, a, e => by
    unfold setAll at e
    split at e
    · rename_i hi
      cases a with
      | cons h1 h2 =>
        obtain ⟨σ', hq, R', af⟩ := tgs_ok (R.set hi h1) h2 e
        refine ⟨σ', fun Q q => ⟨_, _, rfl, hq Q q⟩, R', by rw [af.1]; simp, fun j hj => ?_⟩
        rw [af.2 j (fun z => hj (List.mem_cons_of_mem _ z)), List.getElem?_set_ne (fun z => hj (by rw [z]; exact List.mem_cons_self))]
    · cases e
  | [], _ :: _, _, _, _, _, _, _, e => by cases e
  | _ :: _, [], _, _, _, _, _, _, e => by cases e
section
variable {X : Cx} {P : Pm} {pos : Pos}
def SG (X : Cx) (P : Pm) (tg : Expr) (pt : Pt) : Prop := PG X tg (tgM P pt.ix pt)
theorem _root_.L2.PG.imp {e : Expr} {t t' : TG} (h : PG X e t) (hi : ∀ v σ H Q, t' v σ H Q → t v σ H Q) : PG X e t' := ⟨fun pins s σ H v u Q I r q => h.run pins s σ H v u Q I r (hi _ _ _ _ q)⟩
theorem sg_name {i : Nat} {x : Str} (hN : X.N.Nodup) (hi : X.N[i]? = some x) (hx : Loc X.env.scope x) (hf : X.fn x = true ∨ X.env.scope.names.lookup x = some .local) : SG X P (.Name x pos) (.nm i) := by
  refine L2.PG.imp (pg_name hN hi hx hf) fun v σ H Q ⟨As, F, G, t, x, G', R, hd, e, q⟩ => ?_
  obtain ⟨σ', hq, R', af⟩ := tgs_ok (P := P) (is := [i]) R (DpAll.one hd) e
  obtain ⟨v', r, ev, _, h3, _⟩ := hq (fun s' h' => s' = σ' ∧ h' = H) ⟨rfl, rfl⟩
  cases ev
  show Q (σ.set i (some v)) H
  rw [h3]
  exact q σ' R' af
inductive Nms (X : Cx) : List Expr → List Nat → Prop
  | nil : Nms X [] []
  | cons {i : Nat} {x : Str} {p : Pos} {es : List Expr} {is : List Nat} (hi : X.N[i]? = some x) (hx : Loc X.env.scope x) (hf : X.fn x = true ∨ X.env.scope.names.lookup x = some .local) (r : Nms X es is) : Nms X (.Name x p :: es) (i :: is)
theorem pgs_nms (hN : X.N.Nodup) : ∀ {es : List Expr} {is : List Nat}, Nms X es is → PGs X es (is.foldr (fun i u => gCons (gName i) u) gNil)
  | _, _, .nil => pgs_nil
  | _, _, .cons hi hx hf r => pgs_cons (pg_name hN hi hx hf) (pgs_nms hN r) rfl
theorem assign_nms : ∀ {es : List Expr} {is : List Nat}, Nms X es is → (assignEach es X.env).findIdx? (·.1) = none ∧ (assignEach es X.env).length = is.length
  | _, _, .nil => ⟨rfl, rfl⟩
  | _, _, @Nms.cons _ i x p es is hi hx hf r => by
    obtain ⟨h1, h2⟩ := assign_nms r
    have e : assignEach (.Name x p :: es) X.env = (false, assign (.Name x p) X.env) :: assignEach es X.env := rfl
    rw [e]
    refine ⟨?_, by simp [h2]⟩
    rw [List.findIdx?_cons]
    simp [h1]
theorem setAll_len : ∀ {is : List Nat} {xs : List D} {G G' : Gm}, setAll is xs G = some G' → is.length = xs.length
  | [], [], _, _, _ => rfl
  | i :: is, x :: xs, G, G', e => by
    unfold setAll at e
    split at e
    · simp [setAll_len e]
    · cases e
  | [], _ :: _, _, _, e => by cases e
  | _ :: _, [], _, _, e => by cases e
theorem sg_tup {es : List Expr} {is : List Nat} {k : Nat} (hK : P.K = X.K) (hc : X.calm = true) (hN : X.N.Nodup) (h : Nms X es is) : SG X P (.Tuple es k pos) (.tup is) := by
  obtain ⟨hf, hl⟩ := assign_nms h
  refine L2.PG.imp (pg_tup hc (pgs_nms hN h) rfl hf) fun v σ H Q ⟨As, F, G, t, x, G', R, hd, e, q⟩ => ?_
  cases x with
  | tuple xs =>
    cases hd with
    | tup hs ha =>
      obtain ⟨σ', hq, R', af⟩ := tgs_ok (P := P) R ha e
      refine ⟨_, _, rfl, by rw [← hK]; exact Same.seqT R.sub hs, ?_, hq Q (q σ' R' af)⟩
      rw [ha.length, hl, setAll_len e]
  | _ => cases e
end
end DL
end

section
set_option Elab.async false
set_option linter.all false
set_option maxRecDepth 100000
set_option maxHeartbeats 4000000
namespace DL
open PySem PySem.Spec PyProof.Rows L2
variable [Tbs]

/-! ### statements -/
inductive So where
  | nx (G : Gm) (t : Option DS) | rt (x : D) (t : Option DS) | bk (G : Gm) (t : Option DS) | ct (G : Gm) (t : Option DS)
  | ex (c : Str) (fs : List (Str × D)) (G : Gm) (t : Option DS) | stuck
abbrev SM := Gm → Option DS → So
def Rs.bindS {α : Type} : Rs α → Gm → (α → Option DS → So) → So
  | .ok a t, _, f => f a t
  | .ex c fs t, G, _ => .ex c fs G t
  | .stuck, _, _ => .stuck
/-- a def's entry: what stood there -/
structure Bs where
  As : List Addr
  F : Hp
  H : Hp
structure RelS (P : Pm) (B : Bs) (As : List Addr) (F : Hp) (G : Gm) (t : Option DS) (σ : Sg) (H : Hp) : Prop where
  rel : Rel P.K P.xi As F G t σ H
  gr : Grow B.As B.F B.H As F H
  own : ∀ (i : Nat) xs p, G[i]? = some (.l xs) → σ[i]? = some (some (.ref p)) → B.H p = none
theorem RelS.mono {P : Pm} {B : Bs} {As As' : List Addr} {F F' H H' : Hp} {G : Gm} {t t' : Option DS} {σ : Sg} (R : RelS P B As F G t σ H) (g : Grow As F H As' F' H') (s : StF As' t' F' H') : RelS P B As' F' G t' σ H' :=
  ⟨R.rel.mono g s, R.gr.trans g, R.own⟩
def PostS (P : Pm) (B : Bs) (F : Hp) (D : Ends) : So → Prop
  | .nx G t => ∀ As' F' σ' H', RelS P B As' F' G t σ' H' → Same F F' → D.nx σ' H'
  | .bk G t => ∀ As' F' σ' H', RelS P B As' F' G t σ' H' → Same F F' → D.bk σ' H'
  | .ct G t => ∀ As' F' σ' H', RelS P B As' F' G t σ' H' → Same F F' → D.ct σ' H'
  | .rt x t => ∀ As' F' H' v, Grow B.As B.F B.H As' F' H' → StF As' t F' H' → Same F F' → Dp P.K F' v x → D.rt v H'
  | .ex c fs G t => ∀ As' F' σ' H' C d, P.mg c = some (.ref C) → RelS P B As' F' G t σ' H' → Same F F' → ExAt P.K As' F' H' d fs → P.W (.ref C) d σ' H'
  | .stuck => False
theorem PostS.re {P : Pm} {B : Bs} {F F1 : Hp} {D : Ends} {o : So} (k : Same F F1) (h : PostS P B F D o) : PostS P B F1 D o := by
  cases o with
  | nx G t => exact fun As' F' σ' H' r q => h As' F' σ' H' r (k.trans q)
  | bk G t => exact fun As' F' σ' H' r q => h As' F' σ' H' r (k.trans q)
  | ct G t => exact fun As' F' σ' H' r q => h As' F' σ' H' r (k.trans q)
  | rt x t => exact fun As' F' H' v g s q d => h As' F' H' v g s (k.trans q) d
  | ex c fs G t => exact fun As' F' σ' H' C d e r q x => h As' F' σ' H' C d e r (k.trans q) x
  | stuck => exact h
/-- another wish -/
theorem PostS.imp {P : Pm} {B : Bs} {F : Hp} {D D' : Ends} {o : So} (h : PostS P B F D o) (h1 : ∀ σ H, D.nx σ H → D'.nx σ H) (h2 : ∀ v H, D.rt v H → D'.rt v H) (h3 : ∀ σ H, D.bk σ H → D'.bk σ H) (h4 : ∀ σ H, D.ct σ H → D'.ct σ H) : PostS P B F D' o := by
  cases o with
  | nx G t => exact fun As' F' σ' H' r q => h1 _ _ (h As' F' σ' H' r q)
  | bk G t => exact fun As' F' σ' H' r q => h3 _ _ (h As' F' σ' H' r q)
  | ct G t => exact fun As' F' σ' H' r q => h4 _ _ (h As' F' σ' H' r q)
  | rt x t => exact fun As' F' H' v g s q d => h2 _ _ (h As' F' H' v g s q d)
  | ex c fs G t => exact h
  | stuck => exact h
def tsM (P : Pm) (m : SM) : TS := fun D σ H => ∃ B As F G t, RelS P B As F G t σ H ∧ PostS P B F D (m G t)
def SS (X : Cx) (P : Pm) (st : Stmt) (m : SM) : Prop := PS X st (tsM P m)
def SSs (X : Cx) (P : Pm) (st : List Stmt) (m : SM) : Prop := PSs X st (tsM P m)
section
variable {P : Pm} {B : Bs} {As : List Addr} {F H : Hp} {G : Gm} {t : Option DS} {σ : Sg} {D : Ends}
theorem exS {c : Str} {fs : List (Str × PyData)} {t1 : Option DS} (R : RelS P B As F G t σ H) (h : PostS P B F D (.ex c fs G t1)) : PostX P As F H σ c fs t1 :=
  fun As' F' H' C d e g s x => h As' F' σ H' C d e (R.mono g s) g.ff x
theorem bindSE {m : Rs Rv} {f : Rv → Option DS → So} {Q : VK} (R : RelS P B As F G t σ H) (h : PostS P B F D (m.bindS G f))
    (h2 : ∀ As1 F1 H1 v1 r1 t1, m = .ok r1 t1 → Grow As F H As1 F1 H1 → RelS P B As1 F1 G t1 σ H1 → VOk P.K As1 F1 H1 v1 r1 → Fresh H v1 r1 → PostS P B F1 D (f r1 t1) → Q v1 H1) : PostE P As F H σ Q m := by
  cases m with
  | ok r1 t1 => exact fun As1 F1 H1 v1 g s x fr => h2 As1 F1 H1 v1 r1 t1 rfl g (R.mono g s) x fr (h.re g.ff)
  | ex c fs t => exact exS R h
  | stuck => exact h
theorem bindSB {m : Rs Bool} {f : Bool → Option DS → So} {Q : Bool → Hp → Prop} (R : RelS P B As F G t σ H) (h : PostS P B F D (m.bindS G f))
    (h2 : ∀ As1 F1 H1 b t1, m = .ok b t1 → Grow As F H As1 F1 H1 → RelS P B As1 F1 G t1 σ H1 → PostS P B F1 D (f b t1) → Q b H1) : PostB P As F H σ Q m := by
  cases m with
  | ok r1 t1 => exact fun As1 F1 H1 g s => h2 As1 F1 H1 r1 t1 rfl g (R.mono g s) (h.re g.ff)
  | ex c fs t => exact exS R h
  | stuck => exact h
theorem bindSI {m : Rs (List PyData)} {f : List PyData → Option DS → So} {Q : It → Hp → Prop} (R : RelS P B As F G t σ H) (h : PostS P B F D (m.bindS G f))
    (h2 : ∀ As1 F1 H1 J items t1, m = .ok items t1 → Grow As F H As1 F1 H1 → RelS P B As1 F1 G t1 σ H1 → Walks P.K J items F1 → PostS P B F1 D (f items t1) → Q J H1) : PostI P As F H σ Q m := by
  cases m with
  | ok r1 t1 => exact fun As1 F1 H1 J g s x => h2 As1 F1 H1 J r1 t1 rfl g (R.mono g s) x (h.re g.ff)
  | ex c fs t => exact exS R h
  | stuck => exact h
end
/-! blocks -/
def sSkip : SM := fun G t => .nx G t
def sSeq (a b : SM) : SM := fun G t => match a G t with
  | .nx G1 t1 => b G1 t1
  | o => o
section
variable {X : Cx} {P : Pm} {st : Stmt} {rest : List Stmt} {m m' : SM} {pos : Pos} {e : Expr} {me : EM}
theorem ss_nil : SSs X P [] sSkip := L2.PSs.imp pss_nil fun D σ H ⟨B, As, F, G, t, R, p⟩ => p As F σ H R (Same.refl _)
theorem seq_te {D : Ends} {σ : Sg} {H : Hp} (h : tsM P (sSeq m m') D σ H) : tSeq (tsM P m) (tsM P m') D σ H := by
  obtain ⟨B, As, F, G, t, R, p⟩ := h
  refine ⟨B, As, F, G, t, R, ?_⟩
  unfold sSeq at p
  cases e : m G t with
  | nx G1 t1 =>
    rw [e] at p
    exact fun As' F' σ' H' r q => ⟨B, As', F', G1, t1, r, p.re q⟩
  | rt x t => rw [e] at p; exact p
  | bk G t => rw [e] at p; exact p
  | ct G t => rw [e] at p; exact p
  | ex c fs G t => rw [e] at p; exact p
  | stuck => rw [e] at p; exact p
theorem ss_cons (h1 : SS X P st m) (h2 : SSs X P rest m') : SSs X P (st :: rest) (sSeq m m') := L2.PSs.imp (pss_cons h1 h2) fun D σ H h => seq_te h
theorem ss_pass : SS X P (.Pass pos) sSkip := L2.PS.imp ps_pass fun D σ H ⟨B, As, F, G, t, R, p⟩ => p As F σ H R (Same.refl _)
theorem ss_break : SS X P (.Break pos) (fun G t => .bk G t) := L2.PS.imp ps_break fun D σ H ⟨B, As, F, G, t, R, p⟩ => p As F σ H R (Same.refl _)
theorem ss_continue : SS X P (.Continue pos) (fun G t => .ct G t) := L2.PS.imp ps_continue fun D σ H ⟨B, As, F, G, t, R, p⟩ => p As F σ H R (Same.refl _)
def sExpr (m : EM) : SM := fun G t => (m G t).bindS G fun _ t => .nx G t
theorem ss_expr (he : SE X P e me) (hs : swapsWith e none pos.line X.env = pure false) : SS X P (.Expr e pos) (sExpr me) :=
  L2.PS.imp (ps_expr he hs) fun D σ H ⟨B, As, F, G, t, R, p⟩ => ⟨As, F, G, t, R.rel, bindSE R p fun As1 F1 H1 v1 r1 t1 _ g R1 x fr p1 => p1 As1 F1 σ H1 R1 (Same.refl _)⟩
def rtv : Rv → Option D
  | .d x => some x
  | .l xs => some (.list xs)
  | _ => none
def sRet (m : EM) : SM := fun G t => (m G t).fz.bindS G fun r t => match r with
  | .d x => .rt x t
  | _ => .stuck
theorem ss_ret (he : SE X P e me) : SS X P (.Return (some e) pos) (sRet me) :=
  L2.PS.imp (ps_ret he.fz) fun D σ H ⟨B, As, F, G, t, R, p⟩ => ⟨As, F, G, t, R.rel, bindSE R p fun As1 F1 H1 v1 r1 t1 _ g R1 x fr p1 => by
    cases r1 with
    | d x1 => exact p1 As1 F1 H1 v1 R1.gr R1.rel.st (Same.refl _) x
    | l _ => exact p1.elim
    | b _ => exact p1.elim
    | s => exact p1.elim⟩
theorem ss_retN : SS X P (.Return none pos) (fun G t => .rt .none t) :=
  L2.PS.imp ps_retN fun D σ H ⟨B, As, F, G, t, R, p⟩ => p As F H .non R.gr R.rel.st (Same.refl _) .non
def sIf (c : BM) (a b : SM) : SM := fun G t => (c G t).bindS G fun k t => if k then a G t else b G t
theorem ss_if {c : Expr} {a b : List Stmt} {mc : BM} {ma mb : SM} (hc : SB X P c mc) (ha : SSs X P a ma) (hb : SSs X P b mb) : SS X P (.If c a b pos) (sIf mc ma mb) :=
  L2.PS.imp (ps_if hc ha hb) fun D σ H ⟨B, As, F, G, t, R, p⟩ => ⟨As, F, G, t, R.rel, bindSB R p fun As1 F1 H1 k t1 _ g R1 p1 => by
    cases k with
    | true => exact ⟨B, As1, F1, G, t1, R1, p1⟩
    | false => exact ⟨B, As1, F1, G, t1, R1, p1⟩⟩
/-! a value into a slot -/
def Rv.sl : Rv → Option Sl
  | .d x => some (.d x)
  | .l xs => some (.l xs)
  | .s => some .s
  | .b _ => none
def sSet (i : Nat) (m : EM) : SM := fun G t => (m G t).bindS G fun r t => match r.sl with
  | some s => if i < G.length then .nx (G.set i s) t else .stuck
  | none => .stuck
theorem RelS.put {B : Bs} {As : List Addr} {F H H1 : Hp} {As1 : List Addr} {F1 : Hp} {G : Gm} {t t1 : Option DS} {σ : Sg} {i : Nat} {v : V} {r : Rv} {s : Sl} (R : RelS P B As F G t σ H) (g : Grow As F H As1 F1 H1) (R1 : RelS P B As1 F1 G t1 σ H1) (x : VOk P.K As1 F1 H1 v r) (fr : Fresh H v r) (e : r.sl = some s) (hi : i < G.length) :
    RelS P B As1 F1 (G.set i s) t1 (σ.set i (some v)) H1 := by
  have hσ : i < σ.length := by rw [← R.rel.len]; exact hi
  refine ⟨⟨R1.rel.sub, R1.rel.st, by simp [R1.rel.len], fun j s' e' => ?_, fun j k xs ys w n e1 e2 e3 e4 => ?_⟩, R1.gr, fun j xs p e1 e2 => ?_⟩
  · by_cases hj : j = i
    · subst hj
      rw [List.getElem?_set_self hi] at e'
      cases e'
      rw [List.getElem?_set_self hσ]
      cases r with
      | d y => cases e; exact ⟨v, rfl, x⟩
      | l ys => cases e; exact ⟨v, rfl, x⟩
      | b ys => cases e
      | s =>
        cases e
        obtain ⟨d, rfl, hd⟩ := x
        exact ⟨d, rfl, hd⟩
    · rw [List.getElem?_set_ne (Ne.symm hj)] at e' ⊢
      exact R1.rel.slot j s' e'
  · -- a new list is no other slot's
    have key : ∀ {a b : Nat} {zs : List PyData} {w : V}, a ≠ i → G[a]? = some (.l zs) → σ[a]? = some (some w) → ∀ zs', s = .l zs' → w ≠ v := by
      intro a b zs w na ea ew zs' es ewv
      subst es
      cases r with
      | l ys =>
        obtain ⟨q, rfl, hq⟩ := fr
        obtain ⟨v', ev, q', vs, eq, _, _, hp, _⟩ := R.rel.slot a _ ea
        rw [ew] at ev
        cases ev
        rw [ewv] at eq
        cases eq
        rw [hq] at hp
        cases hp
      | d _ => cases e
      | b _ => cases e
      | s => cases e
    by_cases hj : j = i
    · subst hj
      have hk : k ≠ j := Ne.symm n
      rw [List.getElem?_set_self hi] at e1
      rw [List.getElem?_set_self hσ] at e3
      rw [List.getElem?_set_ne (Ne.symm hk)] at e2 e4
      cases e1
      cases e3
      exact key (b := 0) hk e2 e4 _ rfl rfl
    · rw [List.getElem?_set_ne (Ne.symm hj)] at e1 e3
      by_cases hk : k = i
      · subst hk
        rw [List.getElem?_set_self hi] at e2
        rw [List.getElem?_set_self hσ] at e4
        cases e2
        cases e4
        exact key (b := 0) hj e1 e3 _ rfl rfl
      · rw [List.getElem?_set_ne (Ne.symm hk)] at e2 e4
        exact R1.rel.inj j k xs ys w n e1 e2 e3 e4
  · by_cases hj : j = i
    · subst hj
      rw [List.getElem?_set_self hi] at e1
      rw [List.getElem?_set_self hσ] at e2
      cases e1
      cases e2
      cases r with
      | l ys =>
        obtain ⟨q, eq, hq⟩ := fr
        cases eq
        exact R.gr.nw hq
      | d _ => cases e
      | b _ => cases e
      | s => cases e
    · rw [List.getElem?_set_ne (Ne.symm hj)] at e1 e2
      exact R1.own j xs p e1 e2
theorem set_te {i : Nat} {D : Ends} {σ : Sg} {H : Hp} (h : tsM P (sSet i me) D σ H) : tAsg (teM P me) (gName i) D σ H := by
  obtain ⟨B, As, F, G, t, R, p⟩ := h
  refine ⟨As, F, G, t, R.rel, bindSE R p fun As1 F1 H1 v1 r1 t1 _ g R1 x fr p1 => ?_⟩
  cases e : r1.sl with
  | none => rw [e] at p1; exact p1.elim
  | some s =>
    rw [e] at p1
    have p1 : PostS P B F1 D (if i < G.length then .nx (G.set i s) t1 else .stuck) := p1
    by_cases hi : i < G.length
    · rw [if_pos hi] at p1
      exact p1 As1 F1 _ H1 (R.put g R1 x fr e hi) (Same.refl _)
    · rw [if_neg hi] at p1; exact p1.elim
theorem ss_set {i : Nat} {x : Str} {p' : Pos} (hN : X.N.Nodup) (hi : X.N[i]? = some x) (hx : Loc X.env.scope x) (he : SE X P e me) (hs : swapsWith e (some (.Name x p')) pos.line X.env = pure false) (hf : X.fn x = true ∨ X.env.scope.names.lookup x = some .local) : SS X P (.Assign [.Name x p'] e pos) (sSet i me) :=
  L2.PS.imp (ps_set hN hi hx he hs hf) fun D σ H h => set_te h
/-- a, b = a tuple -/
def sTgt (pt : Pt) (m : EM) : SM := fun G t => (m G t).fz.bindS G fun r t => match r with
  | .d x => match asg pt x G with
    | some G' => .nx G' t
    | none => .stuck
  | _ => .stuck
theorem asg_own {pt : Pt} {x : D} {G G' : Gm} (h : asg pt x G = some G') (i : Nat) (xs : List PyData) (e : G'[i]? = some (.l xs)) : G[i]? = some (.l xs) ∧ i ∉ pt.ix := by
  have key : ∀ (is : List Nat) (ds : List PyData) (G G' : Gm), setAll is ds G = some G' → G'[i]? = some (.l xs) → G[i]? = some (.l xs) ∧ i ∉ is := by
    intro is
    induction is with
    | nil =>
      intro ds G G' h e
      cases ds with
      | nil => cases h; exact ⟨e, by simp⟩
      | cons _ _ => cases h
    | cons j is ih =>
      intro ds G G' h e
      cases ds with
      | nil => cases h
      | cons d ds =>
        unfold setAll at h
        split at h
        · rename_i hj
          obtain ⟨h1, h2⟩ := ih ds _ _ h e
          by_cases hij : i = j
          · subst hij
            rw [List.getElem?_set_self hj] at h1
            cases h1
          · rw [List.getElem?_set_ne (Ne.symm hij)] at h1
            exact ⟨h1, by simp [hij, h2]⟩
        · cases h
  cases pt with
  | nm j => exact key [j] [x] G G' h e
  | tup js =>
    cases x with
    | tuple ys => exact key js ys G G' h e
    | _ => cases h
theorem RelS.tgt {B : Bs} {As : List Addr} {F H : Hp} {G G' : Gm} {t : Option DS} {σ σ' : Sg} {pt : Pt} {x : PyData} (R : RelS P B As F G t σ H) (e : asg pt x G = some G') (R' : Rel P.K P.xi As F G' t σ' H) (af : After pt.ix σ σ') : RelS P B As F G' t σ' H :=
  ⟨R', R.gr, fun i xs p e1 e2 => by
    obtain ⟨h1, h2⟩ := asg_own e i xs e1
    rw [af.2 i h2] at e2
    exact R.own i xs p h1 e2⟩
theorem ss_tgt {tg : Expr} {pt : Pt} (he : SE X P e me) (hg : SG X P tg pt) (hs : swapsWithSole [tg] e pos.line X.env = pure false) (hw : swappedStores [tg] e X.env = pure none) (h1 : (assignEach [tg] X.env).map (·.2) = [assign tg X.env]) : SS X P (.Assign [tg] e pos) (sTgt pt me) :=
  L2.PS.imp (ps_asg he.fz hg hs hw h1) fun D σ H ⟨B, As, F, G, t, R, p⟩ => ⟨As, F, G, t, R.rel, bindSE R p fun As1 F1 H1 v1 r1 t1 _ g R1 x fr p1 => by
    cases r1 with
    | d y =>
      cases e : asg pt y G with
      | none => simp only [e] at p1; exact p1.elim
      | some G' =>
        simp only [e] at p1
        exact ⟨As1, F1, G, t1, y, G', R1.rel, x, e, fun σ' R' af => p1 As1 F1 σ' H1 (R1.tgt e R' af) (Same.refl _)⟩
    | l _ => exact p1.elim
    | b _ => exact p1.elim
    | s => exact p1.elim⟩
/-- a, b = x, y -/
def sPar (i j : Nat) (a b : EM) : SM := fun G t => (a G t).fz.bindS G fun x t => (b G t).fz.bindS G fun y t => match x, y with
  | .d x, .d y => if i < G.length ∧ j < G.length then .nx ((G.set i (.d x)).set j (.d y)) t else .stuck
  | _, _ => .stuck
theorem ss_par {i j : Nat} {x y : Str} {a b : Expr} {ma mb : EM} {px py pt : Pos} {kt k2 pt2} (hc : X.calm = true) (hN : X.N.Nodup) (hi : X.N[i]? = some x) (hj : X.N[j]? = some y) (hij : i ≠ j)
    (hx : X.env.scope.names.lookup x = some .local) (hy : X.env.scope.names.lookup y = some .local) (ha : SE X P a ma) (hb : SE X P b mb) (hs1 : starEach [a, b] X.env = [(false, eval a X.env), (false, eval b X.env)]) (hs2 : starEach [b] X.env = [(false, eval b X.env)])
    (hw : swappedStores [.Tuple [.Name x px, .Name y py] kt pt] (.Tuple [a, b] k2 pt2) X.env = pure (some [x, y])) (hs : swapsWithSole [.Tuple [.Name x px, .Name y py] kt pt] (.Tuple [a, b] k2 pt2) pos.line X.env = pure false) :
    SS X P (.Assign [.Tuple [.Name x px, .Name y py] kt pt] (.Tuple [a, b] k2 pt2) pos) (sPar i j ma mb) :=
  L2.PS.imp (ps_par hc hN hi hj hij hx hy (pa_cons ha.fz (pa_cons hb.fz pa_nil hs2) (by rw [hs1, hs2])) hw hs) fun D σ H ⟨B, As, F, G, t, R, p⟩ => ⟨As, F, G, t, R.rel, bindSE R p fun As1 F1 H1 v1 r1 t1 _ g R1 x1 fr p1 => ⟨As1, F1, G, t1, R1.rel, bindSE R1 p1 fun As2 F2 H2 v2 r2 t2 _ g2 R2 x2 fr2 p2 => by
    have x1' := x1.mono g2
    split at p2
    · split at p2
      · rename_i hij2
        have Ra := R2.rel.set (i := i) hij2.1 x1'
        have Rb := Ra.set (i := j) (by simp; exact hij2.2) x2
        refine ⟨v1, v2, rfl, p2 As2 F2 _ H2 ⟨Rb, R2.gr, fun k xs q e1 e2 => ?_⟩ (Same.refl _)⟩
        have nj : k ≠ j := fun z => by subst z; rw [List.getElem?_set_self (by simp; exact hij2.2)] at e1; cases e1
        rw [List.getElem?_set_ne (Ne.symm nj)] at e1 e2
        have ni : k ≠ i := fun z => by subst z; rw [List.getElem?_set_self hij2.1] at e1; cases e1
        rw [List.getElem?_set_ne (Ne.symm ni)] at e1 e2
        exact R2.own k xs q e1 e2
      · exact p2.elim
    · exact p2.elim⟩⟩
end
/-! ### loops -/
def loop (pt : Pt) (body : SM) : List D → SM
  | [], G, t => .nx G t
  | x :: xs, G, t => match asg pt x G with
    | none => .stuck
    | some G1 => match body G1 t with
      | .nx G2 t2 => loop pt body xs G2 t2
      | .ct G2 t2 => loop pt body xs G2 t2
      | .bk G2 t2 => .nx G2 t2
      | o => o
def sFor (im : IM) (pt : Pt) (body : SM) : SM := fun G t => (im G t).bindS G fun items t => loop pt body items G t
section
variable {X : Cx} {P : Pm} {tg iter : Expr} {body : List Stmt} {im : IM} {pt : Pt} {mb : SM} {pos : Pos}
theorem ss_for (hp : PassesOwn (model X.prog X.w) X.A X.env X.xe) (hc : X.calm = true) (hi : SI X P tg iter im) (hg : SG X P tg pt) (hb : SSs X P body mb) (hs : ∀ x, foldedSetIterable iter X.env x = pure x) : SS X P (.For tg iter body [] pos) (sFor im pt mb) := by
  refine L2.PS.imp (ps_for hp hc hi hg hb hs) fun D σ H ⟨B, As, F, G, t, R, p⟩ => ⟨As, F, G, t, R.rel, bindSI R p fun As1 F1 H1 J items t1 _ g R1 wk p1 => ?_⟩
  let Z : Nat → Sg → Hp → Prop := fun i σ H => i ≤ items.length ∧ ∃ As F G t, RelS P B As F G t σ H ∧ Same F1 F ∧ PostS P B F D (loop pt mb (items.drop i) G t)
  refine ⟨fun i m σ H => m = items.length - i ∧ Z i σ H, ⟨_, rfl, Nat.zero_le _, As1, F1, G, t1, R1, Same.refl _, p1⟩, ?_⟩
  rintro i m σ2 H2 ⟨rfl, hle, As2, F2, G2, t2, R2, k2, p2⟩
  obtain ⟨w1, w2⟩ := wk F2 H2 As2 t2 k2 R2.rel.sub R2.rel.st i
  by_cases hlt : i < items.length
  · have hd : items[i]? = some items[i] := List.getElem?_eq_getElem hlt
    obtain ⟨go, yl⟩ := w1 _ hd
    have hdrop : items.drop i = items[i] :: items.drop (i + 1) := List.drop_eq_getElem_cons hlt
    rw [hdrop] at p2
    refine .inr ⟨go, Z (i + 1), fun σ' H' z => ⟨_, by omega, rfl, z⟩, fun x H3 y => ?_⟩
    obtain ⟨F3, g3, s3, d3⟩ := yl x H3 y
    have R3 := R2.mono g3 s3
    unfold loop at p2
    cases e : asg pt items[i] G2 with
    | none => rw [e] at p2; exact p2.elim
    | some G1 =>
      rw [e] at p2
      refine ⟨As2, F3, G2, t2, _, G1, R3.rel, d3, e, fun σ' R' af => ⟨B, As2, F3, G1, t2, R3.tgt e R' af, ?_⟩⟩
      have go2 : ∀ {G4 : Gm} {t4 : Option DS}, PostS P B F2 D (loop pt mb (items.drop (i + 1)) G4 t4) → ∀ As' F' σ' H', RelS P B As' F' G4 t4 σ' H' → Same F3 F' → Z (i + 1) σ' H' :=
        fun {G4 t4} q As' F' σ' H' r k => ⟨hlt, As', F', G4, t4, r, (k2.trans g3.ff).trans k, q.re (g3.ff.trans k)⟩
      cases eb : mb G1 t2 with
      | nx G4 t4 => simp only [eb] at p2; exact go2 p2
      | ct G4 t4 => simp only [eb] at p2; exact go2 p2
      | bk G4 t4 =>
        simp only [eb] at p2
        exact PostS.re g3.ff p2
      | rt v t4 =>
        simp only [eb] at p2
        exact PostS.re g3.ff p2
      | ex c fs G4 t4 =>
        simp only [eb] at p2
        exact PostS.re g3.ff p2
      | stuck => simp only [eb] at p2; exact p2.elim
  · have ei : i = items.length := by omega
    subst ei
    rw [List.drop_length] at p2
    exact .inl ⟨w2 rfl, p2 As2 F2 σ2 H2 R2 (Same.refl _)⟩
end
end DL
end

section
set_option Elab.async false
set_option linter.all false
set_option maxRecDepth 100000
set_option maxHeartbeats 4000000
namespace DL
open PySem PySem.Spec PyProof.Rows L2
variable [Tbs]

/-! ### list comprehensions -/
def wipeG (G : Gm) : List Nat → Gm
  | [] => G
  | v :: vs => (wipeG G vs).set v .un
def Rs.nox {α : Type} : Rs α → Rs α
  | .ok a t => .ok a t
  | _ => .stuck
def cst (cs : Option BM) : BM := fun G t => match cs with
  | none => .ok true t
  | some c => (c G t).nox
def lcLoop (pt : Pt) (cs : Option BM) (elt : EM) (G0 : Gm) : List D → List D → Option DS → Rs Rv
  | [], acc, t => .ok (.l acc) t
  | x :: xs, acc, t => match asg pt x G0 with
    | none => .stuck
    | some G1 => (cst cs G1 t).bind fun b t => if b then (elt G1 t).fz.nox.bind fun y t => match y with
          | .d y => if acc.length < 16777216 then lcLoop pt cs elt G0 xs (acc ++ [y]) t else .stuck
          | _ => .stuck
        else lcLoop pt cs elt G0 xs acc t
def mLc (im : IM) (pt : Pt) (cs : Option BM) (elt : EM) (vs : List Nat) : EM := fun G t => if pt.ix.all (vs.contains ·) then (im G t).bind fun items t => lcLoop pt cs elt (wipeG G vs) items [] t else .stuck
theorem Rel.wipe {K : PySem.W.Frag} {xi : XI} {As : List Addr} {F : Hp} {G : Gm} {t : Option DS} {σ : Sg} {H : Hp} (R : Rel K xi As F G t σ H) : ∀ vs : List Nat, Rel K xi As F (wipeG G vs) t (L2.wipe σ vs) H
  | [] => R
  | v :: vs => by
    have Q := Rel.wipe R vs
    unfold wipeG L2.wipe
    refine ⟨Q.sub, Q.st, by simp [Q.len], fun j s e => ?_, fun j k xs ys w n e1 e2 e3 e4 => ?_⟩
    · by_cases hj : v = j
      · subst hj
        by_cases hv : v < (wipeG G vs).length
        · rw [List.getElem?_set_self hv] at e; cases e; trivial
        · rw [List.getElem?_eq_none (by simp; omega)] at e; cases e
      · rw [List.getElem?_set_ne hj] at e ⊢
        exact Q.slot j s e
    · have nj : ∀ {a : Nat} {zs : List D}, ((wipeG G vs).set v .un)[a]? = some (.l zs) → v ≠ a := fun {a zs} e q => by
        subst q
        by_cases hv : v < (wipeG G vs).length
        · rw [List.getElem?_set_self hv] at e; cases e
        · rw [List.getElem?_eq_none (by simp; omega)] at e; cases e
      have n1 := nj e1
      have n2 := nj e2
      rw [List.getElem?_set_ne n1] at e1 e3
      rw [List.getElem?_set_ne n2] at e2 e4
      exact Q.inj j k xs ys w n e1 e2 e3 e4
/-- the params within a comprehension: nothing is raised -/
def Pm.calm (P : Pm) : Pm := { P with W := fun _ _ _ _ => False }
theorem PostE.nox {P P' : Pm} (hK : P'.K = P.K) {As : List Addr} {F H : Hp} {σ : Sg} {Q : VK} {r : Rs Rv} (h : PostE P As F H σ Q r.nox) : PostE P' As F H σ Q r := by
  cases r with
  | ok r t => intro As' F' H' v g s x f; rw [hK] at x; exact h As' F' H' v g s x f
  | ex c fs t => exact False.elim h
  | stuck => exact h
theorem PostB.nox {P P' : Pm} {As : List Addr} {F H : Hp} {σ : Sg} {Q : Bool → Hp → Prop} {r : Rs Bool} (h : PostB P As F H σ Q r.nox) : PostB P' As F H σ Q r := by
  cases r with
  | ok r t => exact h
  | ex c fs t => exact False.elim h
  | stuck => exact h
/-- all the tests of a clause -/
def ttsM (P : Pm) (cs : Option BM) : TT := match cs with
  | none => tYes
  | some c => ttM P c
def lcM (P : Pm) (im : IM) (pt : Pt) (cs : Option BM) (elt : EM) (vs : List Nat) : TE := tLc (tiM P im) (tgM P.calm pt.ix pt) (ttsM P.calm cs) (teM P.calm fun G t => (elt G t).fz) vs
theorem lc_te {P : Pm} {im : IM} {pt : Pt} {cs : Option BM} {elt : EM} {vs : List Nat} {σ : Sg} {H : Hp} {Q : VK} (h : teM P (mLc im pt cs elt vs) σ H Q) : lcM P im pt cs elt vs σ H Q := by
  obtain ⟨As, F, G, t, R, p⟩ := h
  unfold mLc at p
  by_cases hix : pt.ix.all (vs.contains ·) = true
  · rw [if_pos hix] at p
    have hix' : ∀ i ∈ pt.ix, i ∈ vs := fun i hi => by
      have := List.all_eq_true.mp hix i hi
      simpa using this
    refine ⟨As, F, G, t, R, ?_⟩
    cases ei : im G t with
    | ex c fs t => rw [ei] at p; exact p
    | stuck => rw [ei] at p; exact p
    | ok items t1 =>
      rw [ei] at p
      intro As1 F1 H1 J g1 s1 wk Dd hD
      have R1 := (R.mono g1 s1).wipe vs
      generalize hG0 : wipeG G vs = G0 at p R1
      have p : PostE P As F H σ Q (lcLoop pt cs elt G0 items [] t1) := p
      have FD : F1 Dd = none := g1.fh.free hD
      obtain ⟨⟨g2, s2⟩, _⟩ := alloc (o := .lst []) s1 g1.fh hD
      let Z : Nat → Hp → Prop := fun i H2 => i ≤ items.length ∧ ∃ As2 F2 t2 accV acc, Rel P.K P.xi As2 F2 G0 t2 (L2.wipe σ vs) H2 ∧ Grow As F H As2 F2 H2 ∧ Same F1 F2 ∧ Dd ∉ As2 ∧ F2 Dd = none ∧ H2 Dd = some (.lst accV) ∧ DpAll P.K F2 accV acc ∧
        PostE P As F H σ Q (lcLoop pt cs elt G0 (items.drop i) acc t2)
      refine ⟨fun i m H2 => m = items.length - i ∧ Z i H2, ⟨_, rfl, Nat.zero_le _, As1, F1, t1, [], [], R1.mono g2 s2, g1.trans g2, Same.refl _, fun z => s1.ok.there _ z hD, FD, upd_same, .nil, p⟩, ?_⟩
      rintro i m H2 ⟨rfl, hle, As2, F2, t2, accV, acc, R2, g, k2, nA, nF, hacc, hda, p2⟩
      obtain ⟨w1, w2⟩ := wk F2 H2 As2 t2 k2 R2.sub R2.st i
      by_cases hlt : i < items.length
      · have hd : items[i]? = some items[i] := List.getElem?_eq_getElem hlt
        obtain ⟨go, yl⟩ := w1 _ hd
        rw [List.drop_eq_getElem_cons hlt] at p2
        refine .inr ⟨go, Z (i + 1), fun H' z => ⟨_, by omega, rfl, z⟩, fun x H3 y => ?_⟩
        obtain ⟨F3, g3, s3, d3⟩ := yl x H3 y
        have R3 := R2.mono g3 s3
        unfold lcLoop at p2
        cases e : asg pt items[i] G0 with
        | none => rw [e] at p2; exact p2.elim
        | some G1 =>
          rw [e] at p2
          refine ⟨As2, F3, G0, t2, _, G1, R3, d3, e, fun σ' R' af => ⟨After.wipe af hix', ?_⟩⟩
          have p2 : PostE P As F H σ Q ((cst cs G1 t2).bind fun b t => if b then (elt G1 t).fz.nox.bind fun y t => match y with
              | .d y => if acc.length < 16777216 then lcLoop pt cs elt G0 (items.drop (i + 1)) (acc ++ [y]) t else .stuck
              | _ => .stuck
            else lcLoop pt cs elt G0 (items.drop (i + 1)) acc t) := p2
          have mv : ∀ {As4 : List Addr} {F4 H4 : Hp}, Grow As2 F3 H3 As4 F4 H4 → Dd ∉ As4 ∧ F4 Dd = none ∧ H4 Dd = some (.lst accV) ∧ DpAll P.K F4 accV acc := fun {As4 F4 H4} g4 => by
            obtain ⟨q, us, eq, a1, a2, a3, a4⟩ := (OwnL.mono (g3.trans g4) (K := P.K) (v := .ref Dd) (xs := acc) ⟨Dd, accV, rfl, nA, nF, hacc, hda⟩)
            cases eq
            refine ⟨a1, a2, ?_, ?_⟩
            · exact (g3.trans g4).hh Dd _ nA hacc
            · exact DpAll.mono (g3.trans g4).ff _ _ hda
          -- behind the tests
          have fin : ∀ {As4 : List Addr} {F4 H4 : Hp} {b : Bool} {t4 : Option DS}, Grow As2 F3 H3 As4 F4 H4 → Rel P.K P.xi As4 F4 G1 t4 σ' H4 → PostE P As F H σ Q (if b then (elt G1 t4).fz.nox.bind fun y t => match y with
              | .d y => if acc.length < 16777216 then lcLoop pt cs elt G0 (items.drop (i + 1)) (acc ++ [y]) t else .stuck
              | _ => .stuck
            else lcLoop pt cs elt G0 (items.drop (i + 1)) acc t4) →
            if b = true then teM P.calm (fun G t => (elt G t).fz) σ' H4 fun y H5 => ∃ acc, H5 Dd = some (.lst acc) ∧ acc.length < sizeLine ∧ Z (i + 1) (upd H5 Dd (.lst (acc ++ [y]))) else Z (i + 1) H4 := by
            intro As4 F4 H4 b t4 g4 R4 p4
            have g04 : Grow As F H As4 F4 H4 := (g.trans g3).trans g4
            obtain ⟨m1, m2, m3, m4⟩ := mv g4
            cases b with
            | false =>
              refine ⟨hlt, As4, F4, t4, accV, acc, (R2.mono (g3.trans g4) R4.st), g04, (k2.trans g3.ff).trans g4.ff, m1, m2, m3, m4, p4⟩
            | true =>
              refine ⟨As4, F4, G1, t4, R4, ?_⟩
              have p5 := PostE.re g04 p4
              show PostE P.calm As4 F4 H4 σ' _ (elt G1 t4).fz
              cases ee : (elt G1 t4).fz with
              | ex c fs t => rw [ee] at p5; exact False.elim p5
              | stuck => rw [ee] at p5; exact False.elim p5
              | ok y t5 =>
                rw [ee] at p4
                intro As5 F5 H5 v g5 s5 x5 _
                cases y with
                | d y =>
                  have p4 : PostE P As F H σ Q (if acc.length < 16777216 then lcLoop pt cs elt G0 (items.drop (i + 1)) (acc ++ [y]) t5 else .stuck) := p4
                  by_cases hz : acc.length < 16777216
                  · rw [if_pos hz] at p4
                    obtain ⟨n1, n2, n3, n4⟩ := mv (g4.trans g5)
                    refine ⟨accV, n3, by rw [n4.length, sizeLine_eq]; exact hz, hlt, As5, F5, t5, accV ++ [v], acc ++ [y], ?_, ?_, ((k2.trans g3.ff).trans g4.ff).trans g5.ff, n1, n2, upd_same, n4.append (DpAll.one x5), p4⟩
                    · -- the relation stands where the new list grows
                      have R5 : Rel P.K P.xi As5 F5 G0 t5 (L2.wipe σ vs) H5 := R2.mono ((g3.trans g4).trans g5) s5
                      have oldD : ∀ {q : Addr} {us : List V} {j : Nat} {zs : List D}, G0[j]? = some (.l zs) → (L2.wipe σ vs)[j]? = some (some (.ref q)) → q ≠ Dd := fun {q us j zs} e1 e2 z => by
                        subst z
                        obtain ⟨w, e3, q', us', e4, _, _, e5, _⟩ := R1.slot j _ e1
                        rw [e2] at e3
                        cases e3
                        cases e4
                        rw [hD] at e5
                        cases e5
                      have kF : Same F5 (upd H5 Dd (.lst (accV ++ [v]))) := fun b o e => by rw [upd_ne (ne_of_none e n2)]; exact g5.fh b o e
                      refine ⟨kF, ⟨s5.ok.upd n1 (lst_code n3), s5.sf⟩, R5.len, fun j s e => ?_, R5.inj⟩
                      have sl := R5.slot j s e
                      cases s with
                      | un => trivial
                      | d x => exact sl
                      | l zs =>
                        obtain ⟨w, e1, q, us, e2, b1, b2, b3, b4⟩ := sl
                        subst e2
                        exact ⟨_, e1, q, us, rfl, b1, b2, by rw [upd_ne (oldD (us := us) e e1)]; exact b3, b4⟩
                      | s => exact sl
                      | e c fs =>
                        obtain ⟨a, dd, e1, e2, ex⟩ := sl
                        refine ⟨a, dd, e1, e2, ?_⟩
                        rcases ex with ex | ⟨a', vs', e3, b1, b2, b3⟩
                        · exact .inl ex
                        · refine .inr ⟨a', vs', e3, b1, ?_, b3⟩
                          rw [upd_ne (fun z => by subst z; rw [n3] at b2; cases b2)]
                          exact b2
                    · have g05 := g04.trans g5
                      have nD : H Dd = none := g1.nw hD
                      refine ⟨g05.ff, fun b o e => ?_, fun q o nq e => ?_, g05.nn, fun q e => ?_, g05.ss⟩
                      · rw [upd_ne (ne_of_none e n2)]; exact g5.fh b o e
                      · rw [upd_ne (ne_of_none e nD)]; exact g05.hh q o nq e
                      · by_cases hq : q = Dd
                        · rw [hq, upd_same]; simp
                        · rw [upd_ne hq]; exact g05.dd q e
                  · rw [if_neg hz] at p4; exact p4.elim
                | l _ => exact False.elim p4
                | b _ => exact False.elim p4
                | s => exact False.elim p4
          cases cs with
          | none => exact fin (b := true) (.refl R'.sub) R' p2
          | some c =>
            refine ⟨As2, F3, G1, t2, R', ?_⟩
            show PostB P.calm As2 F3 H3 σ' _ (c G1 t2)
            rw [show cst (some c) G1 t2 = (c G1 t2).nox from rfl] at p2
            cases ec : c G1 t2 with
            | ex c' fs t => rw [ec] at p2; exact False.elim p2
            | stuck => rw [ec] at p2; exact False.elim p2
            | ok b t4 =>
              rw [ec] at p2
              intro As4 F4 H4 g4 s4
              exact fin g4 (R'.mono g4 s4) p2
      · have ei : i = items.length := by omega
        subst ei
        rw [List.drop_length] at p2
        have hDn : H Dd = none := g1.nw hD
        exact .inl ⟨w2 rfl, p2 As2 F2 H2 (.ref Dd) g R2.st ⟨Dd, accV, rfl, nA, nF, hacc, hda⟩ ⟨Dd, rfl, hDn⟩⟩
  · rw [if_neg hix] at p; exact p.elim
end DL
end

section
set_option Elab.async false
set_option linter.all false
set_option maxRecDepth 100000
set_option maxHeartbeats 4000000
namespace DL
open PySem PySem.Spec PyProof.Rows L2
variable [Tbs]

section
variable {X : Cx} {P : Pm} {pos spos : Pos}
/-! ### comprehensions, in the text -/
theorem pts_of {c : Expr} {mc : BM} (h : SB X P c mc) : PTs X [c] (ttsM P (some mc)) := pts_one h
theorem se_lc {elt tg iter : Expr} {ifs : List Expr} {scope : Scope} {own : List (Str × Nat)} {im : IM} {pt : Pt} {cs : Option BM} {me : EM} (hc : X.calm = true) (hN : X.N.Nodup) (hi : SI X P tg iter im) (ok : BlkOk X.N X.env.scope scope own)
    (hg : ∀ (s : Shared) (H : Hp) (C : Addr) (cl : List (Str × Addr)) (fp : List Addr), SG (X.blk s H scope (compEnvC scope cl C X.env) fp) P.calm tg pt)
    (ht : ∀ (s : Shared) (H : Hp) (C : Addr) (cl : List (Str × Addr)) (fp : List Addr), PTs (X.blk s H scope (compEnvC scope cl C X.env) fp) ifs (ttsM P.calm cs))
    (he : ∀ (s : Shared) (H : Hp) (C : Addr) (cl : List (Str × Addr)) (fp : List Addr), SE (X.blk s H scope (compEnvC scope cl C X.env) fp) P.calm elt me) (hs : ∀ x, foldedSetIterable iter X.env x = pure x) :
    SE X P (.ListComp elt [⟨tg, iter, ifs, 0⟩] scope pos) (mLc im pt cs me (own.map (·.2))) :=
  L2.PE.imp (pe_lc hc hN hi ok hg ht (fun s H C cl fp => (he s H C cl fp).fz) hs) fun σ H Q h => lc_te h
theorem ss_setLc {i : Nat} {y : Str} {py : Pos} {elt tg iter : Expr} {ifs : List Expr} {scope : Scope} {own : List (Str × Nat)} {im : IM} {pt : Pt} {cs : Option BM} {me : EM} (hc : X.calm = true) (hN : X.N.Nodup) (hy : X.N[i]? = some y) (hyl : X.env.scope.names.lookup y = some .local)
    (hsw : swapsWith (.ListComp elt [⟨tg, iter, ifs, 0⟩] scope pos) (some (.Name y py)) spos.line X.env = pure true) (hi : SI X P tg iter im) (ok : BlkOk X.N X.env.scope scope own)
    (hg : ∀ (s : Shared) (H : Hp) (C : Addr) (cl : List (Str × Addr)) (fp : List Addr), SG (X.blk s H scope (compEnvC scope cl C X.env) fp) P.calm tg pt)
    (ht : ∀ (s : Shared) (H : Hp) (C : Addr) (cl : List (Str × Addr)) (fp : List Addr), PTs (X.blk s H scope (compEnvC scope cl C X.env) fp) ifs (ttsM P.calm cs))
    (he : ∀ (s : Shared) (H : Hp) (C : Addr) (cl : List (Str × Addr)) (fp : List Addr), SE (X.blk s H scope (compEnvC scope cl C X.env) fp) P.calm elt me) (hs : ∀ x, foldedSetIterable iter X.env x = pure x) :
    SS X P (.Assign [.Name y py] (.ListComp elt [⟨tg, iter, ifs, 0⟩] scope pos) spos) (sSet i (mLc im pt cs me (own.map (·.2)))) :=
  L2.PS.imp (ps_setLc hc hN hy hyl hsw hi ok hg ht (fun s H C cl fp => (he s H C cl fp).fz) hs) fun D σ H h => by
    have q := set_te h
    obtain ⟨As, F, G, t, R, p⟩ := q
    exact lc_te ⟨As, F, G, t, R, p⟩
end
/-! ### a list of one's own, changed -/
theorem RelS.write {P : Pm} {B : Bs} {As : List Addr} {F H : Hp} {G : Gm} {t : Option DS} {σ : Sg} {i : Nat} {xs ys : List D} {p : Addr} {vs ws : List V} (R : RelS P B As F G t σ H) (e : G[i]? = some (.l xs)) (ev : σ[i]? = some (some (.ref p))) (hp : H p = some (.lst vs)) (a : DpAll P.K F ws ys) :
    RelS P B As F (G.set i (.l ys)) t σ (upd H p (.lst ws)) := by
  obtain ⟨v, e1, p', vs', e2, b1, b2, b3, b4⟩ := R.rel.slot i _ e
  rw [ev] at e1
  cases e1
  cases e2
  have hi : i < G.length := (List.getElem?_eq_some_iff.mp e).1
  have kF : Same F (upd H p (.lst ws)) := fun b o q => by rw [upd_ne (ne_of_none q b2)]; exact R.rel.sub b o q
  have hB := R.own i xs p e ev
  refine ⟨⟨kF, ⟨R.rel.st.ok.upd b1 (lst_code b3), R.rel.st.sf⟩, by simp [R.rel.len], fun j s ej => ?_, fun j k zs us w n e1 e2 e3 e4 => ?_⟩, ⟨R.gr.ff, kF, fun q o nq eq => ?_, R.gr.nn, fun q eq => ?_, R.gr.ss⟩, fun j zs q e1 e2 => ?_⟩
  · by_cases hj : j = i
    · subst hj
      rw [List.getElem?_set_self hi] at ej
      cases ej
      exact ⟨_, ev, p, ws, rfl, b1, b2, upd_same, a⟩
    · rw [List.getElem?_set_ne (Ne.symm hj)] at ej
      have sl := R.rel.slot j s ej
      cases s with
      | un => trivial
      | d x => exact sl
      | l zs =>
        obtain ⟨w, e1, q, us, e2, c1, c2, c3, c4⟩ := sl
        subst e2
        refine ⟨_, e1, q, us, rfl, c1, c2, ?_, c4⟩
        rw [upd_ne (fun z => R.rel.inj j i zs xs (.ref q) hj ej e e1 (by rw [z]; exact ev))]
        exact c3
      | s => exact sl
      | e c fs =>
        obtain ⟨a', dd, e1, e2, ex⟩ := sl
        refine ⟨a', dd, e1, e2, ?_⟩
        rcases ex with ex | ⟨a', vs', e3, c1, c2, c3⟩
        · exact .inl ex
        · refine .inr ⟨a', vs', e3, c1, ?_, c3⟩
          rw [upd_ne (fun z => by subst z; rw [b3] at c2; cases c2)]
          exact c2
  · have own : ∀ {a : Nat} {zs : List D}, (G.set i (.l ys))[a]? = some (.l zs) → ∃ zs', G[a]? = some (.l zs') := fun {a zs} q => by
      by_cases ha : a = i
      · subst ha; exact ⟨_, e⟩
      · rw [List.getElem?_set_ne (Ne.symm ha)] at q; exact ⟨_, q⟩
    obtain ⟨_, q1⟩ := own e1
    obtain ⟨_, q2⟩ := own e2
    exact R.rel.inj j k _ _ w n q1 q2 e3 e4
  · rw [upd_ne (ne_of_none eq hB)]; exact R.gr.hh q o nq eq
  · by_cases hq : q = p
    · rw [hq, upd_same]; simp
    · rw [upd_ne hq]; exact R.gr.dd q eq
  · by_cases hj : j = i
    · subst hj; exact R.own j xs q e e2
    · rw [List.getElem?_set_ne (Ne.symm hj)] at e1; exact R.own j zs q e1 e2
/-- xs.append(e), xs in slot i -/
def sApp (i : Nat) (m : EM) : SM := fun G t => match G[i]? with
  | some (.l xs) => (m G t).fz.bindS G fun r t => match r with
    | .d x => if xs.length < 16777216 then .nx (G.set i (.l (xs ++ [x]))) t else .stuck
    | _ => .stuck
  | _ => .stuck
theorem slot_l {P : Pm} {B : Bs} {As : List Addr} {F H : Hp} {G : Gm} {t : Option DS} {σ : Sg} {i : Nat} {xs : List D} (R : RelS P B As F G t σ H) (e : G[i]? = some (.l xs)) : ∃ p vs, σ[i]? = some (some (.ref p)) ∧ H p = some (.lst vs) ∧ DpAll P.K F vs xs := by
  obtain ⟨v, e1, p', vs', e2, b1, b2, b3, b4⟩ := R.rel.slot i _ e
  subst e2
  exact ⟨p', vs', e1, b3, b4⟩
section
variable {X : Cx} {P : Pm} {a b : Expr} {ma mb : EM} {pos cpos apos npos : Pos}
theorem ss_app {i : Nat} {x : Str} (hN : X.N[i]? = some x) (hv : Vis X.env.scope x) (hd : (x == ("__debug__" : Str)) = false) (hcd : (x == ("__classdict__" : Str)) = false) (ha : SE X P a ma)
    (h : PE X (.Name x npos) (tVar i) → PA X [a] (tCons (teM P fun G t => (ma G t).fz) tNil) → PE X (.Call (.Attribute (.Name x npos) "append" apos) [a] [] cpos) (tBM X.K "list" rAppend (tVar i) (tCons (teM P fun G t => (ma G t).fz) tNil)))
    (hs : starEach [a] X.env = [(false, eval a X.env)]) (hsw : swapsWith (.Call (.Attribute (.Name x npos) "append" apos) [a] [] cpos) none pos.line X.env = pure false) :
    SS X P (.Expr (.Call (.Attribute (.Name x npos) "append" apos) [a] [] cpos) pos) (sApp i ma) := by
  refine L2.PS.imp (ps_expr (h (pe_var hN hv hd hcd) (pa_cons ha.fz pa_nil hs)) hsw) fun D σ H ⟨B, As, F, G, t, R, p⟩ => ?_
  unfold sApp at p
  split at p
  · rename_i xs e
    obtain ⟨q, vs, ev, hq, hda⟩ := slot_l R e
    refine ⟨.ref q, ev, .inl ⟨rfl, _, SqL.of hq⟩, As, F, G, t, R.rel, bindSE R p fun As1 F1 H1 v1 r1 t1 _ g R1 x1 fr p1 => ?_⟩
    cases r1 with
    | d y =>
      have p1 : PostS P B F1 D (if xs.length < 16777216 then .nx (G.set i (.l (xs ++ [y]))) t1 else .stuck) := p1
      by_cases hz : xs.length < 16777216
      · rw [if_pos hz] at p1
        obtain ⟨q', vs', ev', hq', hda'⟩ := slot_l R1 e
        rw [ev] at ev'
        cases ev'
        exact ⟨q, vs', v1, rfl, rfl, hq', by rw [hda'.length, sizeLine_eq]; exact hz, p1 As1 F1 σ _ (R1.write e ev hq' (hda'.append (DpAll.one x1))) (Same.refl _)⟩
      · rw [if_neg hz] at p1; exact p1.elim
    | l _ => exact False.elim p1
    | b _ => exact False.elim p1
    | s => exact False.elim p1
  · exact p.elim
/-- xs[i] = e, xs a list of one's own -/
def sPut (i : Nat) (mi m : EM) : SM := fun G t => (m G t).fz.bindS G fun r t => match r with
  | .d x => (match G[i]? with
    | some (.l _) => (mi G t).fz.bindS G fun r2 t => (match r2, G[i]? with
      | .d (.int k), some (.l xs) => (match ixN xs.length k with
        | some j => .nx (G.set i (.l (xs.set j x))) t
        | none => .stuck)
      | _, _ => .stuck)
    | _ => .stuck)
  | _ => .stuck
theorem ss_put {i : Nat} {x : Str} {p' : Pos} (hN : X.N[i]? = some x) (hv : Vis X.env.scope x) (hd : (x == ("__debug__" : Str)) = false) (hcd : (x == ("__classdict__" : Str)) = false) (hi : SE X P b mb) (ha : SE X P a ma)
    (h : PE X (.Name x npos) (tVar i) → PE X b (teM P fun G t => (mb G t).fz) → PE X a (teM P fun G t => (ma G t).fz) → PS X (.Assign [.Subscript (.Name x npos) b p'] a pos) (tAsg (teM P fun G t => (ma G t).fz) (gSub (tVar i) (teM P fun G t => (mb G t).fz) rSetL))) :
    SS X P (.Assign [.Subscript (.Name x npos) b p'] a pos) (sPut i mb ma) := by
  refine L2.PS.imp (h (pe_var hN hv hd hcd) hi.fz ha.fz) fun D σ H ⟨B, As, F, G, t, R, p⟩ => ⟨As, F, G, t, R.rel, bindSE R p fun As1 F1 H1 v1 r1 t1 _ g R1 x1 fr p1 => ?_⟩
  cases r1 with
  | d y =>
    cases e : G[i]? with
    | none => simp only [e] at p1; exact p1.elim
    | some s =>
      cases s with
      | l xs =>
        simp only [e] at p1
        obtain ⟨q, vs, ev, hq, hda⟩ := slot_l R1 e
        refine ⟨.ref q, ev, As1, F1, G, t1, R1.rel, bindSE R1 p1 fun As2 F2 H2 v2 r2 t2 em2 g2 R2 x2 fr2 p2 => ?_⟩
        clear em2
        split at p2
        · rename_i k xs' ex
          cases ex
          split at p2
          · rename_i j ej
            cases x2
            obtain ⟨q', vs', ev', hq', hda'⟩ := slot_l R2 e
            rw [ev] at ev'
            cases ev'
            have x1' := x1.mono g2
            exact ⟨q, vs', k, j, rfl, rfl, hq', by rw [hda'.length]; exact ej, p2 As2 F2 σ _ (R2.write e ev hq' (DpAll.set x1' j hda')) (Same.refl _)⟩
          · exact p2.elim
        · exact p2.elim
      | _ => simp only [e] at p1; exact p1.elim
  | l _ => exact False.elim p1
  | b _ => exact False.elim p1
  | s => exact False.elim p1
end
/-- the slot's list is given away: no change for Python -/
def sFrz (i : Nat) (m : SM) : SM := fun G t => match G[i]? with
  | some (.l xs) => m (G.set i (.d (.list xs))) t
  | _ => m G t
theorem RelS.frz {P : Pm} {B : Bs} {As : List Addr} {F H : Hp} {G : Gm} {t : Option DS} {σ : Sg} {i : Nat} {xs : List D} (R : RelS P B As F G t σ H) (e : G[i]? = some (.l xs)) :
    ∃ q vs, σ[i]? = some (some (.ref q)) ∧ H q = some (.lst vs) ∧ F q = none ∧ DpAll P.K F vs xs ∧ Same F (upd F q (.lst vs)) ∧ RelS P B As (upd F q (.lst vs)) (G.set i (.d (.list xs))) t σ H := by
  obtain ⟨v, e1, q, vs, e2, b1, b2, b3, b4⟩ := R.rel.slot i _ e
  subst e2
  have hi : i < G.length := (List.getElem?_eq_some_iff.mp e).1
  have hB := R.own i xs q e e1
  have k : Same F (upd F q (.lst vs)) := fun b o z => by rw [upd_ne (ne_of_none z b2)]; exact z
  have kH : Same (upd F q (.lst vs)) H := fun b o z => by
    by_cases hb : b = q
    · subst hb; rw [upd_same] at z; cases z; exact b3
    · rw [upd_ne hb] at z; exact R.rel.sub b o z
  refine ⟨q, vs, e1, b3, b2, b4, k, ⟨⟨kH, ⟨R.rel.st.ok, fun r hr => ?_⟩, by simp [R.rel.len], fun j s ej => ?_, fun j l zs us w n e1 e2 e3 e4 => ?_⟩, ⟨R.gr.ff.trans k, kH, R.gr.hh, fun r er z => ?_, R.gr.dd, R.gr.ss⟩, fun j zs r ej er => ?_⟩⟩
  · rw [upd_ne (fun z => b1 (by rw [← z]; exact hr))]; exact R.rel.st.sf r hr
  · by_cases hj : j = i
    · subst hj
      rw [List.getElem?_set_self hi] at ej
      cases ej
      exact ⟨_, e1, L2.Dp.lst (SqL.of upd_same) (DpAll.mono k _ _ b4)⟩
    · rw [List.getElem?_set_ne (Ne.symm hj)] at ej
      have sl := R.rel.slot j s ej
      cases s with
      | un => trivial
      | d x => obtain ⟨w, h1, h2⟩ := sl; exact ⟨w, h1, Dp.mono k _ _ h2⟩
      | l zs =>
        obtain ⟨w, h1, r, us, h2, c1, c2, c3, c4⟩ := sl
        subst h2
        refine ⟨_, h1, r, us, rfl, c1, ?_, c3, DpAll.mono k _ _ c4⟩
        rw [upd_ne (fun z => R.rel.inj j i zs xs (.ref r) hj ej e h1 (by rw [z]; exact e1))]
        exact c2
      | s => exact sl
      | e c fs =>
        obtain ⟨a', dd, h1, h2, ex⟩ := sl
        refine ⟨a', dd, h1, h2, ?_⟩
        rcases ex with ex | ⟨a2, vs2, e3, c1, c2, c3⟩
        · exact .inl ex
        · exact .inr ⟨a2, vs2, e3, c1, c2, c3.mono k⟩
  · have nj : ∀ {a : Nat} {zs : List PyData}, (G.set i (.d (.list xs)))[a]? = some (.l zs) → a ≠ i := fun {a zs} q z => by subst z; rw [List.getElem?_set_self hi] at q; cases q
    have n1 := nj e1
    have n2 := nj e2
    rw [List.getElem?_set_ne (Ne.symm n1)] at e1
    rw [List.getElem?_set_ne (Ne.symm n2)] at e2
    exact R.rel.inj j l zs us w n e1 e2 e3 e4
  · rw [upd_ne (fun z' => z (by rw [z']; exact hB))]; exact R.gr.nn r er z
  · by_cases hj : j = i
    · subst hj; rw [List.getElem?_set_self hi] at ej; cases ej
    · rw [List.getElem?_set_ne (Ne.symm hj)] at ej; exact R.own j zs r ej er
theorem ss_frz {X : Cx} {P : Pm} {st : Stmt} {m : SM} {i : Nat} (h : SS X P st m) : SS X P st (sFrz i m) := by
  refine L2.PS.imp h fun D σ H ⟨B, As, F, G, t, R, p⟩ => ?_
  unfold sFrz at p
  split at p
  · rename_i xs e
    obtain ⟨q, vs, _, _, _, _, k, R2⟩ := R.frz e
    exact ⟨B, As, _, _, t, R2, p.re k⟩
  · exact ⟨B, As, F, G, t, R, p⟩
/-! ### while -/
def whileL (c : BM) (body : SM) : Nat → SM
  | 0, _, _ => .stuck
  | n + 1, G, t => (c G t).bindS G fun k t => if k then (match body G t with
      | .nx G1 t1 => whileL c body n G1 t1
      | .ct G1 t1 => whileL c body n G1 t1
      | .bk G1 t1 => .nx G1 t1
      | o => o) else .nx G t
theorem ss_while {X : Cx} {P : Pm} {c : Expr} {body : List Stmt} {mc : BM} {mb : SM} {pos : Pos} (n : Nat) (hp : PassesOwn (model X.prog X.w) X.A X.env X.xe) (hc : SB X P c mc) (hb : SSs X P body mb) : SS X P (.While c body [] pos) (whileL mc mb n) := by
  refine L2.PS.imp (ps_while hp hc hb) fun D σ H ⟨B, As, F, G, t, R, p⟩ => ?_
  refine ⟨fun m σ H => ∃ As F G t, RelS P B As F G t σ H ∧ PostS P B F D (whileL mc mb m G t), ⟨n, As, F, G, t, R, p⟩, ?_⟩
  rintro m σ1 H1 ⟨As1, F1, G1, t1, R1, p1⟩
  cases m with
  | zero => exact p1.elim
  | succ m =>
    refine ⟨As1, F1, G1, t1, R1.rel, bindSB R1 p1 fun As2 F2 H2 k t2 _ g2 R2 p2 => ?_⟩
    cases k with
    | false => exact p2 As2 F2 σ1 H2 R2 (Same.refl _)
    | true =>
      rw [if_pos rfl] at p2
      rw [if_pos rfl]
      refine ⟨fun σ' H' => ∃ As F G t, RelS P B As F G t σ' H' ∧ PostS P B F D (whileL mc mb m G t), fun σ' H' z => ⟨m, Nat.lt_succ_self _, z⟩, B, As2, F2, G1, t2, R2, ?_⟩
      cases eb : mb G1 t2 with
      | nx G4 t4 => simp only [eb] at p2; exact fun As' F' σ' H' r k => ⟨As', F', G4, t4, r, p2.re k⟩
      | ct G4 t4 => simp only [eb] at p2; exact fun As' F' σ' H' r k => ⟨As', F', G4, t4, r, p2.re k⟩
      | bk G4 t4 => simp only [eb] at p2; exact p2
      | rt v t4 => simp only [eb] at p2; exact p2
      | ex c fs G4 t4 => simp only [eb] at p2; exact p2
      | stuck => simp only [eb] at p2; exact p2.elim
end DL
end

section
set_option Elab.async false
set_option linter.all false
set_option maxRecDepth 100000
set_option maxHeartbeats 4000000
namespace DL
open PySem PySem.Spec PyProof.Rows L2
variable [Tbs]

/-! ### defs -/
/-- a def's promise, called where no guard stands -/
structure FnG (P : Program) (w : World) (K : PySem.W.Frag) (mg : Str → Option Value) (base : Heap) (k : Nat) (f : Addr) (fd : FuncData) (ps : List Str) (sp : Sp) : Prop where
  len : ∀ {vs : List V} {H : Hp} {Q : VK} {E : XK}, sp vs H Q E → vs.length = ps.length
  run : ∀ {A : Around} {outer : List Env} {s : Shared} {H : Hp} {args : Args} {us : List Value} {vs : List V} {Q : VK} {E : XK}, Room k A → A.guards = some [] → Env0 P w K mg base A outer s H → BindsTo s fd args (ps.zip us) →
    Vals vs us → sp vs H Q E → codeAny (model P w) A (.call (.ref f) args) (CR (L2.CX P w) outer P w H s Q E) s
theorem FnG.more {P : Program} {w : World} {K : PySem.W.Frag} {mg : Str → Option Value} {base : Heap} {j k : Nat} {f : Addr} {fd : FuncData} {ps : List Str} {sp : Sp} (F : FnG P w K mg base j f fd ps sp) (h : j ≤ k) : FnG P w K mg base k f fd ps sp :=
  ⟨F.len, fun r g e b v q => F.run (r.mono h) g e b v q⟩
/-- an end of a body as an end of the call -/
theorem body_end {X : Cx} {P : Program} {w : World} {outer : List Env} {s s' : Shared} {H : Hp} {Q : VK} {E : XK} {fl : Flow} (h1 : X.prog = P) (h2 : X.w = w) (h3 : X.s_0 = s) (h4 : X.H_0 = H) (h5 : X.outer = outer) (h6 : X.ex = [])
    (h : SP X [] { nx := fun _ H' => Q .non H', rt := Q } fl s') : CR (L2.CX P w) outer P w H s Q E (.ok (.ret (match (generalizing := false) fl with | .ret v => v | _ => .none))) s' := by
  subst h1 h2 h3 h4 h5
  have all : ∀ {τ : Sg} {J : Hp} {v : V} {u : Value}, Inv X [] τ J s' → RelV v u → Q v J → CE X.outer X.prog X.w X.H_0 X.s_0 Q u s' := fun {τ J v u} I r q =>
    ⟨v, J, I.os, I.bare, by have b := I.base; rw [h6] at b; exact b, I.hok, r, q⟩
  cases fl with
  | next =>
    obtain ⟨τ, J, I, q⟩ := h
    exact all (v := .non) (u := .none) I rfl q
  | ret u =>
    obtain ⟨v, τ, J, I, r, q⟩ := h
    exact all I r q
  | brk =>
    obtain ⟨_, _, _, q⟩ := h
    exact q.elim
  | cont =>
    obtain ⟨_, _, _, q⟩ := h
    exact q.elim
abbrev cxG (P : Program) (w : World) (K : PySem.W.Frag) (mg : Str → Option Value) (base : Heap) (N : List Str) (qual : Str) (scope : Scope) (f : Addr) (cdv : Value) (A : Around) (outer : List Env) (s : Shared) (H : Hp) (E : XK) : Cx :=
  cxOf (L2.CX P w) P w K mg base N qual scope f cdv A outer s H E
/-- the code object of the def at f -/
def CodeAt (K : PySem.W.Frag) (f : Addr) (cdv : Value) : Prop := ∃ (oc : Value) (od : Option Addr) (fd : FuncData) (osl : Array (Option Value)), K.lookup f = some ⟨oc, od, .func fd, osl⟩ ∧ fd.code = cdv ∧ ∃ q, PySem.W.codeIn K cdv q = true
/-- a def by its body -/
theorem fnG_of {P : Program} {w : World} {K : PySem.W.Frag} {mg : Str → Option Value} {base : Heap} {k : Nat} {f : Addr} {fd : FuncData} {x qual : Str} {params : Arguments} {body : List Stmt} {scope : Scope} {dvs : List V} {kws : List (Str × V)} {N ps : List Str} {sp : Sp}
    (F : FunD K x qual params body scope dvs kws f fd) (S : FnScope N ps scope) (hlen : ∀ {vs : List V} {H : Hp} {Q : VK} {E : XK}, sp vs H Q E → vs.length = ps.length)
    (hb : ∀ {cdv : Value} {A : Around} {outer : List Env} {s : Shared} {H : Hp} {vs : List V} {Q : VK} {E : XK}, Room k (A.deeper (envOfC qual scope s.heap.objs.size f cdv)) → A.guards = some [] → CodeAt K f cdv → sp vs H Q E →
      ∃ t, PSs (cxG P w K mg base N qual scope f cdv A outer s H E) body t ∧ t { nx := fun _ H' => Q .non H', rt := Q } (L2.start N vs) H) : FnG P w K mg base (k + 1) f fd ps sp := by
  obtain ⟨oc, od, dV, kV, doc, pm, an, cdv, ct, osl, rfl, lk, hcd, _, _⟩ := F.ex
  refine ⟨hlen, fun {A outer s H args us vs Q E} hr hg e0 bd rv hsp => ?_⟩
  have old : ∀ b o, base.get? b = some o → s.heap.get? b = some o := fun b o e => (e0.bs b o e).1
  have inK : K.In s.heap := e0.mod.kin.keeps old
  have nolim : s.heap.NoLimit := e0.mod.nolimit.keeps old
  refine codeAny_call_function hr.depth (inK _ _ lk) rfl S.co S.gen rfl (PySem.W.codeRec_of inK hcd) (bd _ _ _ _ ?_)
  refine wpAny_newFunctionEnv_cells S.kind (fun y hy => ?_) fun env he s1 inn => ?_
  · have hy1 : y.1 ∈ ps := (List.of_mem_zip (show (y.1, y.2) ∈ ps.zip us from hy)).1
    rcases S.par y.1 hy1 with z | z
    · exact .inl z
    · exact .inr ⟨z, PySem.W.cellsFrom_some _ _ _ (.inl z)⟩
  · subst he
    refine ⟨nolim.keeps inn.toInCall.keep, codeAny_func ?_⟩
    obtain ⟨t, ht, hq⟩ := hb (hr.deeper _) hg ⟨oc, od, _, osl, lk, rfl, _, hcd⟩ hsp
    have I := inv_start (CX := L2.CX P w) (E := E) S hr.hd e0 (hlen hsp) rv inn
    exact wpAny_mono (ht.run [] s1 (L2.start N vs) H _ I hq) (fun fl s' z => body_end rfl rfl rfl rfl rfl rfl z) fun e s' z => z

/-! ### what a def computes -/
abbrev FM := List Rv → Option DS → Rs Rv
def Rv.arg : Rv → Option Sl
  | .d x => some (.d x)
  | .s => some .s
  | _ => none
def argsG : List Rv → Option Gm
  | [] => some []
  | r :: rs => r.arg.bind fun x => (argsG rs).map (x :: ·)
/-- m run: its slots n, the arguments first -/
def runM (m : SM) (n : Nat) : FM := fun rs t => match argsG rs with
  | none => .stuck
  | some G => match m (G ++ List.replicate (n - G.length) .un) t with
    | .nx _ t => .ok (.d .none) t
    | .rt x t => .ok (.d x) t
    | .ex c fs _ t => .ex c fs t
    | _ => .stuck
def xP (K : PySem.W.Frag) (mg : Str → Option Value) (E : XK) : Pm := ⟨K, mg, none, fun c d _ H => E c d H⟩
def spM (K : PySem.W.Frag) (mg : Str → Option Value) (n : Nat) (f : FM) : Sp := fun vs H Q E => vs.length = n ∧ ∃ As F t rs, Same F H ∧ StF As t F H ∧ Paired (VOk K As F H) vs rs ∧ PostE (xP K mg E) As F H [] Q (f rs t)
theorem spM_len {K : PySem.W.Frag} {mg : Str → Option Value} {ps : List Str} {f : FM} {vs : List V} {H : Hp} {Q : VK} {E : XK} (h : spM K mg ps.length f vs H Q E) : vs.length = ps.length := h.1
/-- the arguments in the slots -/
theorem args_slots {K : PySem.W.Frag} {As : List Addr} {F H : Hp} : ∀ {rs : List Rv} {vs : List V} {G : Gm}, Paired (VOk K As F H) vs rs → argsG rs = some G →
    G.length = vs.length ∧ (∀ (i : Nat) (x : Sl), G[i]? = some x → SlOk K none As F H (vs.map some)[i]? x) ∧ ∀ (i : Nat) xs, G[i]? ≠ some (.l xs)
  | _, _, G, .nil, e => by cases e; exact ⟨rfl, fun i x h => by simp at h, fun i xs h => by simp at h⟩
  | _, _, G, @Paired.cons _ _ _ v r vs rs h t, e => by
    simp only [argsG, Option.bind_eq_some_iff, Option.map_eq_some_iff] at e
    obtain ⟨x, e1, G', e2, rfl⟩ := e
    obtain ⟨l, g, n⟩ := args_slots t e2
    refine ⟨by simp [l], fun i y hy => ?_, fun i xs hy => ?_⟩
    · cases i with
      | zero =>
        simp at hy
        subst hy
        cases r with
        | d z => cases e1; exact ⟨v, by simp, h⟩
        | s => cases e1; obtain ⟨a, e3, e4⟩ := h; exact ⟨a, by simp [e3], e4⟩
        | l z => cases e1
        | b z => cases e1
      | succ i => simpa using g i y (by simpa using hy)
    · cases i with
      | zero =>
        simp at hy
        subst hy
        cases r <;> cases e1
      | succ i => exact n i xs (by simpa using hy)
theorem rel_start {K : PySem.W.Frag} {mg : Str → Option Value} {As : List Addr} {F H : Hp} {N : List Str} {rs : List Rv} {vs : List V} {G : Gm} {t : Option DS} {W : WX} (hl : vs.length ≤ N.length) (k : Same F H) (s : StF As t F H) (h : Paired (VOk K As F H) vs rs) (e : argsG rs = some G) :
    RelS ⟨K, mg, none, W⟩ ⟨As, F, H⟩ As F (G ++ List.replicate (N.length - G.length) .un) t (L2.start N vs) H := by
  obtain ⟨l, g, n⟩ := args_slots h e
  have low : ∀ (i : Nat) (x : Sl), (G ++ List.replicate (N.length - G.length) Sl.un)[i]? = some x → x = .un ∨ G[i]? = some x := fun i x hx => by
    by_cases hi : i < G.length
    · rw [List.getElem?_append_left hi] at hx; exact .inr hx
    · rw [List.getElem?_append_right (by omega), List.getElem?_replicate] at hx
      split at hx
      · exact .inl (Option.some.inj hx).symm
      · cases hx
  have nol : ∀ (i : Nat) xs, (G ++ List.replicate (N.length - G.length) Sl.un)[i]? ≠ some (.l xs) := fun i xs hx => by
    rcases low i _ hx with z | z
    · cases z
    · exact n i xs z
  refine ⟨⟨k, s, ?_, fun i x hx => ?_, fun i j xs ys v _ hx => absurd hx (nol i xs)⟩, .refl k, fun i xs p hx => absurd hx (nol i xs)⟩
  · unfold L2.start
    simp only [List.length_append, List.length_replicate, List.length_map, l]
  · rcases low i x hx with z | z
    · subst z; exact trivial
    · have hi : i < vs.length := by
        rw [← l]
        exact (List.getElem?_eq_some_iff.mp z).1
      have q := g i x z
      have e2 : (L2.start N vs)[i]? = (vs.map some)[i]? := by
        unfold L2.start
        rw [List.getElem?_append_left (by simpa using hi)]
      show SlOk K none As F H (L2.start N vs)[i]? x
      rw [e2]
      exact q
/-- a def that computes its m -/
theorem fnM {P : Program} {w : World} {K : PySem.W.Frag} {mg : Str → Option Value} {base : Heap} {k : Nat} {f : Addr} {fd : FuncData} {x qual : Str} {params : Arguments} {body : List Stmt} {scope : Scope} {dvs : List V} {kws : List (Str × V)} {N ps : List Str} {m : SM}
    (F : FunD K x qual params body scope dvs kws f fd) (S : FnScope N ps scope) (hps : ps.length ≤ N.length)
    (hb : ∀ {cdv : Value} {A : Around} {outer : List Env} {s : Shared} {H : Hp} {E : XK}, Room k (A.deeper (envOfC qual scope s.heap.objs.size f cdv)) → A.guards = some [] → CodeAt K f cdv →
      SSs (cxG P w K mg base N qual scope f cdv A outer s H E) (xP K mg E) body m) : FnG P w K mg base (k + 1) f fd ps (spM K mg ps.length (runM m N.length)) := by
  refine fnG_of F S spM_len fun {cdv A outer s H vs Q E} hr hg ca h => ⟨_, hb hr hg ca, ?_⟩
  obtain ⟨hl, As, F0, t, rs, k0, s0, hv, q⟩ := h
  unfold runM at q
  split at q
  · exact q.elim
  · rename_i G eG
    refine ⟨⟨As, F0, H⟩, As, F0, _, t, rel_start (mg := mg) (by rw [hl]; exact hps) k0 s0 hv eG, ?_⟩
    generalize G ++ List.replicate (N.length - G.length) Sl.un = G0 at q
    cases e : m G0 t with
    | nx G' t' =>
      rw [e] at q
      exact fun As' F' σ' H' R _ => q As' F' H' .non R.gr R.rel.st .non trivial
    | rt y t' =>
      rw [e] at q
      exact fun As' F' H' v g st _ d => q As' F' H' v g st d trivial
    | bk G' t' => rw [e] at q; exact q.elim
    | ct G' t' => rw [e] at q; exact q.elim
    | ex c fs G' t' =>
      rw [e] at q
      exact fun As' F' σ' H' C d mc R _ xa => q As' F' H' C d mc R.gr R.rel.st xa
    | stuck => rw [e] at q; exact q.elim

/-! ### calls -/
/-- a def that may be called by its name: ds fill up -/
structure CalM (P : Program) (w : World) (K : PySem.W.Frag) (mg : Str → Option Value) (base : Heap) (k n : Nat) (x : Str) (f : FM) (dvs : List D) : Prop where
  ex : ∃ (a : Addr) (fd : FuncData) (ps : List Str) (ds : List Value) (vs : List V), FnG P w K mg base k a fd ps (spM K mg ps.length f) ∧ mg x = some (.ref a) ∧ PySem.W.keepIn K (.ref a) = true ∧ Binds K fd ps ds ∧ Vals vs ds ∧ ps.length = n ∧ vs.length = dvs.length ∧ ∀ F, DpAll K F vs dvs
theorem CalM.more {P : Program} {w : World} {K : PySem.W.Frag} {mg : Str → Option Value} {base : Heap} {j k n : Nat} {x : Str} {f : FM} {dvs : List D} (c : CalM P w K mg base j n x f dvs) (h : j ≤ k) : CalM P w K mg base k n x f dvs := by
  obtain ⟨a, fd, ps, ds, vs, F, r⟩ := c.ex
  exact ⟨a, fd, ps, ds, vs, F.more h, r⟩
def mCall (n : Nat) (f : FM) (dvs : List D) (m : AM) : EM := fun G t => (m G t).bind fun rs t => if rs.length + dvs.length = n then f (rs ++ dvs.map Rv.d) t else .stuck
theorem vals_d {K : PySem.W.Frag} {As : List Addr} {F H : Hp} : ∀ {vs : List V} {ds : List D}, DpAll K F vs ds → Paired (VOk K As F H) vs (ds.map Rv.d)
  | _, [], h => by cases h; exact .nil
  | _, d :: ds, h => by
    cases h with
    | cons h1 h2 => exact .cons h1 (vals_d h2)
theorem pair_app {α β : Type} {R : α → β → Prop} : ∀ {a c : List α} {b d : List β}, Paired R a b → Paired R c d → Paired R (a ++ c) (b ++ d)
  | _, _, _, _, .nil, h => h
  | _, _, _, _, .cons h t, h2 => .cons h (pair_app t h2)
section
variable {X : Cx} {P : Pm} {k j n : Nat} {x : Str} {f : FM} {dvs : List D} {e : Expr} {es : List Expr} {m : AM} {p pos : Pos}
/-- a callee's exceptions reach the caller's wish -/
theorem call_run {pins : List (Addr × Obj)} {σ : Sg} {H : Hp} {s : Shared} {Q : VK} {us : List Value} {vs wv : List V} {a : Addr} {fd : FuncData} {ps : List Str} {ds : List Value} {sp : Sp} (F : FnG X.prog X.w X.K X.mg X.base k a fd ps sp) (hr : Room k X.A) (hg : X.A.guards = some []) (tk : Takes X P.W)
    (hb : Binds X.K fd ps ds) (hd : Vals wv ds) (I : Inv X pins σ H s) (r : Vals vs us) (h : sp (vs ++ wv) H Q (WE P.W σ)) : wpAny (model X.prog X.w) X.A (call (.ref a) us) (EP X pins σ Q) X.xe s := by
  have rr : Vals (vs ++ wv) (us ++ ds) := r.append hd
  have bd := hb s us I.kIn (by rw [← rr.length]; exact F.len h)
  refine wpAny_call (codeAny_mono (F.run hr hg I.env0 bd rr h) fun res s' q => ?_)
  cases res with
  | error er => exact passAt tk σ pins H s er s' I q
  | ok fl =>
    cases fl with
    | ret u => exact I.after q
    | next => exact q.elim
    | brk => exact q.elim
    | cont => exact q.elim
theorem call_te {ps : List Str} {wv : List V} {K : PySem.W.Frag} {mg : Str → Option Value} {As : List Addr} {F H : Hp} {t : Option DS} {σ : Sg} {G : Gm} {rs : List Rv} {vs : List V} {Q : VK} (hK : P.K = K) (hm : P.mg = mg) (R : Rel P.K P.xi As F G t σ H) (hl : (vs ++ wv).length = ps.length) (hv : Paired (VOk P.K As F H) vs rs)
    (hd : DpAll P.K F wv dvs) (h : PostE P As F H σ Q (f (rs ++ dvs.map Rv.d) t)) : spM K mg ps.length f (vs ++ wv) H Q (WE P.W σ) := by
  subst hK hm
  refine ⟨hl, As, F, t, _, R.sub, R.st, pair_app hv (vals_d hd), ?_⟩
  cases e : f (rs ++ dvs.map Rv.d) t with
  | ok r t' => rw [e] at h; exact h
  | ex c fs t' => rw [e] at h; exact h
  | stuck => rw [e] at h; exact h
theorem calm_te {pins : List (Addr × Obj)} {σ : Sg} {H : Hp} {s : Shared} {Q : VK} (c : CalM X.prog X.w X.K X.mg X.base k n x f dvs) (hK : P.K = X.K) (hm : P.mg = X.mg) (hr : Room k X.A) (hg : X.A.guards = some []) (tk : Takes X P.W) {As : List Addr} {F : Hp} {t : Option DS} {G : Gm} {rs : List Rv} {vs : List V} {us : List Value}
    (R : Rel P.K P.xi As F G t σ H) (hv : Paired (VOk P.K As F H) vs rs) (I : Inv X pins σ H s) (r : Vals vs us) (h : PostE P As F H σ Q (if rs.length + dvs.length = n then f (rs ++ dvs.map Rv.d) t else .stuck)) :
    ∃ a, X.mg x = some (.ref a) ∧ PySem.W.keepIn X.K (.ref a) = true ∧ wpAny (model X.prog X.w) X.A (call (.ref a) us) (EP X pins σ Q) X.xe s := by
  obtain ⟨a, fd, ps, ds, wv, F1, m1, k1, b1, d1, l1, l2, a1⟩ := c.ex
  by_cases hn : rs.length + dvs.length = n
  · rw [if_pos hn] at h
    refine ⟨a, m1, k1, call_run F1 hr hg tk b1 d1 I r (call_te (ps := ps) hK hm R ?_ hv (by rw [hK]; exact a1 F) h)⟩
    rw [List.length_append, hv.length, l2, l1, hn]
  · rw [if_neg hn] at h; exact h.elim
theorem se_call (c : CalM X.prog X.w X.K X.mg X.base k n x f dvs) (hK : P.K = X.K) (hm : P.mg = X.mg) (hr : Room j X.A) (hk : k ≤ j) (hg : X.A.guards = some []) (tk : Takes X P.W) (hgl : Gl X x) (ha : SA X P (e :: es) m)
    (he : starEach (e :: es) X.env = (false, eval e X.env) :: starEach es X.env) (hpl : (backTo pos (starEach es X.env)).any (·.1) = false) (hdb : (x == ("__debug__" : Str)) = false) : SE X P (.Call (.Name x p) (e :: es) [] pos) (mCall n f dvs m) := by
  obtain ⟨a, fd, ps, ds, wv, F1, m1, k1, _⟩ := id c.ex
  refine ⟨fun pins s σ H Q I h => ?_⟩
  obtain ⟨As, F, G, t, R, q⟩ := h
  refine wpAny_Call_Name_kw (ld_glob I hgl m1 ?_ hdb)
  refine PySem.W.callWith_K (h₀ := X.base) I.ok.mod.kin k1 (thn (ha.run pos pins s σ H (fun vs H1 => ∃ As1 F1 t1 rs, Rel P.K P.xi As1 F1 G t1 σ H1 ∧ Paired (VOk P.K As1 F1 H1) vs rs ∧ PostE P As1 F1 H1 σ Q (if rs.length + dvs.length = n then f (rs ++ dvs.map Rv.d) t1 else .stuck)) I
    ⟨As, F, G, t, R, bindAE R q fun As1 F1 H1 vs rs t1 er g1 R1 x1 p1 => ?_⟩) fun us s1 z => ?_) he hpl
  · exact ⟨As1, F1, t1, rs, R1, x1, p1⟩
  · obtain ⟨vs, H1, I1, r1, As1, F1, t1, rs, R1, x1, p1⟩ := z
    refine ⟨I1.kIn, ?_⟩
    obtain ⟨b, m2, _, z⟩ := calm_te c hK hm (hr.mono hk) hg tk R1 x1 I1 r1 p1
    rw [m1] at m2
    cases m2
    exact z
theorem se_call0 (c : CalM X.prog X.w X.K X.mg X.base k n x f dvs) (hK : P.K = X.K) (hm : P.mg = X.mg) (hr : Room j X.A) (hk : k ≤ j) (hg : X.A.guards = some []) (tk : Takes X P.W) (hgl : Gl X x)
    (hdb : (x == ("__debug__" : Str)) = false) : SE X P (.Call (.Name x p) [] [] pos) (mCall n f dvs mNil) := by
  obtain ⟨a, fd, ps, ds, wv, F1, m1, k1, _⟩ := id c.ex
  refine ⟨fun pins s σ H Q I h => ?_⟩
  obtain ⟨As, F, G, t, R, q⟩ := h
  refine wpAny_Call_Name_kw (ld_glob I hgl m1 ?_ hdb)
  obtain ⟨b, m2, _, z⟩ := calm_te (us := []) c hK hm (hr.mono hk) hg tk R .nil I .nil q
  rw [m1] at m2
  cases m2
  exact PySem.W.callWith_K0 I.kIn k1 z
end
end DL
end

section
set_option Elab.async false
set_option linter.all false
set_option maxRecDepth 100000
set_option maxHeartbeats 4000000
namespace DL
open PySem PySem.Spec PyProof.Rows L2
variable [Tbs]

/-! ### own errors -/
/-- what the written part says of the own base class at U -/
structure BaseE (K : PySem.W.Frag) (mg : Str → Option Value) (U : Addr) : Prop where
  gU : mg "UnitError" = some (.ref U)
  rd : PySem.W.readsIn K U (.type "type") = true
  ini : PySem.W.findCls K (.ref U) (.type "type") "__init__" = some (.val (.builtin "ValueError.__init__"))
  ga : PySem.W.specialIn K (.ref U) "__getattribute__" = some (some (.builtin "type.__getattribute__"))
/-- UnitError.__init__(self, ..) -/
theorem pe_uinit {X : Cx} {e : Expr} {es : List Expr} {ta : TA} {p1 p2 pos : Pos} {pl : Sem Bool} {U : Addr} (B : BaseE X.K X.mg U) (hg : Gl X "UnitError") (ha : PA X (e :: es) ta)
    (hc : eval (.Call (.Attribute (.Name "UnitError" p1) "__init__" p2) (e :: es) [] pos) X.env = (do
      let ov ← eval (.Name "UnitError" p1) X.env
      standAt p2.atName
      let (f, first) ← holding [ov] (getMethod ov "__init__" pl)
      callWith pos f first (backTo pos (starEach (e :: es) X.env)) (backToKw pos (keywordEach [] X.env))) := by rfl)
    (he : starEach (e :: es) X.env = (false, eval e X.env) :: starEach es X.env := by rfl) (hpl : (backTo pos (starEach es X.env)).any (·.1) = false := by rfl) :
    PE X (.Call (.Attribute (.Name "UnitError" p1) "__init__" p2) (e :: es) [] pos) (tVeI X.K ta) := by
  constructor
  intro pins s σ H Q I h
  refine PySem.W.methodCall_KW (ld_glob I hg B.gU ?_ (by decide)) hc
  refine PySem.W.method_cls I.kIn B.ga (PySem.W.cls_value I.kIn B.rd B.ini (by decide +kernel) ?_)
  have run := ha.run pos pins _ σ H _ (I.tok (s.toks + 1)) h
  refine PyProof.Rows.callWith_method1 (thn run fun us s1 z => ?_) he hpl
  obtain ⟨vs, H1, I1, r1, a, C, ws, rfl, small, T, ea, q⟩ := z
  cases r1 with
  | @cons _ u0 _ ur r0 rw' =>
    obtain rfl : u0 = Value.ref a := r0
    refine oinit_ok T I1 ea ?_ fun s' J => ⟨.non, H1, J, rfl, q⟩
    rw [← Paired.length rw', sizeLine_eq]
    omega
/-- what an __init__ of one field, of two fields leaves -/
def spX1 (K : PySem.W.Frag) (C : Addr) (f : Str) : Sp := fun vs H Q _ => ∃ a v, vs = [.ref a, v] ∧ OexC K C ∧ PySem.W.findIn K (.ref C) f = some none ∧ H a = some (exo a C none) ∧
  ∀ dx, H dx = none → dx ≠ a → Q .non (upd (upd H dx (exd dx [(f, v)])) a (exo a C (some dx)))
def spX2 (K : PySem.W.Frag) (C : Addr) (f g : Str) : Sp := fun vs H Q _ => ∃ a v u, vs = [.ref a, v, u] ∧ OexC K C ∧ PySem.W.findIn K (.ref C) f = some none ∧ PySem.W.findIn K (.ref C) g = some none ∧ H a = some (exo a C none) ∧
  ∀ dx, H dx = none → dx ≠ a → Q .non (upd (upd (upd H dx (exd dx [(f, v)])) a (exo a C (some dx))) dx (exd dx [(g, u), (f, v)]))
theorem spX1_len {K : PySem.W.Frag} {C : Addr} {f p q : Str} {vs : List V} {H : Hp} {Q : VK} {E : XK} (h : spX1 K C f vs H Q E) : vs.length = [p, q].length := by
  obtain ⟨a, v, rfl, _⟩ := h
  rfl
theorem spX2_len {K : PySem.W.Frag} {C : Addr} {f g p q r : Str} {vs : List V} {H : Hp} {Q : VK} {E : XK} (h : spX2 K C f g vs H Q E) : vs.length = [p, q, r].length := by
  obtain ⟨a, v, u, rfl, _⟩ := h
  rfl
/-- the reading of such an __init__ -/
def tI1 (K : PySem.W.Frag) (f m : Str) : TS := tSeq (tDrop (tVeI K (tCons (tVar 0) (tCons (tC (.str m)) tNil)))) (tSeq (tOst K f (tVar 0) (tVar 1)) tNext)
def tI2 (K : PySem.W.Frag) (f g m : Str) : TS := tSeq (tDrop (tVeI K (tCons (tVar 0) (tCons (tC (.str m)) tNil)))) (tSeq (tOst K f (tVar 0) (tVar 1)) (tSeq (tOst K g (tVar 0) (tVar 2)) tNext))
theorem tI1_ok {K : PySem.W.Frag} {C : Addr} {f m : Str} {N : List Str} (hN : N.length = 2) {vs : List V} {H : Hp} {Q : VK} {E : XK} (h : spX1 K C f vs H Q E) : tI1 K f m { nx := fun _ H' => Q .non H', rt := Q } (L2.start N vs) H := by
  obtain ⟨a, v, rfl, T, no, ea, q⟩ := h
  have s0 : (L2.start N [V.ref a, v])[0]? = some (some (.ref a)) := rfl
  have s1 : (L2.start N [V.ref a, v])[1]? = some (some v) := rfl
  refine ⟨.ref a, s0, a, C, [.str m], rfl, Nat.le_of_ble_eq_true rfl, T, ea, ?_⟩
  refine ⟨v, s1, .ref a, s0, a, C, rfl, T, no, .inl ⟨ea, fun dx n ne => ?_⟩⟩
  exact q dx n ne
theorem tI2_ok {K : PySem.W.Frag} {C : Addr} {f g m : Str} {N : List Str} (hN : N.length = 3) {vs : List V} {H : Hp} {Q : VK} {E : XK} (h : spX2 K C f g vs H Q E) : tI2 K f g m { nx := fun _ H' => Q .non H', rt := Q } (L2.start N vs) H := by
  obtain ⟨a, v, u, rfl, T, no, no2, ea, q⟩ := h
  have s0 : (L2.start N [V.ref a, v, u])[0]? = some (some (.ref a)) := rfl
  have s1 : (L2.start N [V.ref a, v, u])[1]? = some (some v) := rfl
  have s2 : (L2.start N [V.ref a, v, u])[2]? = some (some u) := rfl
  refine ⟨.ref a, s0, a, C, [.str m], rfl, Nat.le_of_ble_eq_true rfl, T, ea, ?_⟩
  refine ⟨v, s1, .ref a, s0, a, C, rfl, T, no, .inl ⟨ea, fun dx n ne => ?_⟩⟩
  refine ⟨u, s2, .ref a, s0, a, C, rfl, T, no2, .inr ⟨dx, [(f, v)], upd_same, ?_, Nat.le_of_ble_eq_true rfl, q dx n ne⟩⟩
  rw [upd_ne ne]
  exact upd_same
/-- an own error that may be raised by its name: C its class; fl its fields -/
structure ExcR (P : Program) (w : World) (K : PySem.W.Frag) (mg : Str → Option Value) (base : Heap) (k : Nat) (c : Str) (fl : List Str) (C : Addr) : Prop where
  gC : mg c = some (.ref C)
  T : OexC K C
  xf : XfC K C
  no : ∀ f ∈ fl, PySem.W.findIn K (.ref C) f = some none
  ini : ∃ (fI : Addr) (fd : FuncData) (ps : List Str) (sp : Sp), PySem.W.findIn K (.ref C) "__init__" = some (some (.ref fI)) ∧ PySem.W.typeIn K (.ref fI) = some (.type "function") ∧ FnOk P w K mg base C8.CX0 k fI fd ps sp ∧ Binds K fd ps [] ∧
    ((∃ f, fl = [f] ∧ sp = spX1 K C f) ∨ ∃ f g, fl = [f, g] ∧ sp = spX2 K C f g)
def sRaise (c : Str) (fl : List Str) (m : AM) : SM := fun G t => (m G t).bindS G fun rs t => match dats rs with
  | some ds => if ds.length = fl.length then .ex c (fl.zip ds).reverse G t else .stuck
  | none => .stuck
theorem bindSA {P : Pm} {B : Bs} {As : List Addr} {F H : Hp} {G : Gm} {t : Option DS} {σ : Sg} {D : Ends} {m : Rs (List Rv)} {f : List Rv → Option DS → So} {Q : List V → Hp → Prop} (R : RelS P B As F G t σ H) (h : PostS P B F D (m.bindS G f))
    (h2 : ∀ As1 F1 H1 v1 r1 t1, m = .ok r1 t1 → Grow As F H As1 F1 H1 → RelS P B As1 F1 G t1 σ H1 → Paired (VOk P.K As1 F1 H1) v1 r1 → PostS P B F1 D (f r1 t1) → Q v1 H1) : PostA P As F H σ Q m := by
  cases m with
  | ok r1 t1 => exact fun As1 F1 H1 v1 g s x => h2 As1 F1 H1 v1 r1 t1 rfl g (R.mono g s) x (h.re g.ff)
  | ex c fs t => exact exS R h
  | stuck => exact h
theorem heap_made {H : Hp} {a d : Addr} {x y z w : HO} (n : H a = none) (ne : d ≠ a) : upd (L2.del (upd (upd (upd H a x) d y) a z) a) d w = upd H d w := by
  funext b
  by_cases hd : b = d
  · rw [hd, upd_same, upd_same]
  · rw [upd_ne hd, upd_ne hd]
    by_cases ha : b = a
    · rw [ha, L2.del_same, n]
    · rw [L2.del_ne ha, upd_ne ha, upd_ne hd, upd_ne ha]
theorem heap_made2 {H : Hp} {a d : Addr} {x y z w y2 : HO} (n : H a = none) (ne : d ≠ a) : upd (L2.del (upd (upd (upd (upd H a x) d y) a z) d y2) a) d w = upd H d w := by
  funext b
  by_cases hd : b = d
  · rw [hd, upd_same, upd_same]
  · rw [upd_ne hd, upd_ne hd]
    by_cases ha : b = a
    · rw [ha, L2.del_same, n]
    · rw [L2.del_ne ha, upd_ne hd, upd_ne ha, upd_ne hd, upd_ne ha]
section
variable {X : Cx} {P : Pm} {k j : Nat} {c : Str} {fl : List Str} {C : Addr} {e : Expr} {es : List Expr} {m : AM} {p pos pos2 : Pos}
theorem ss_raise (R : ExcR X.prog X.w X.K X.mg X.base k c fl C) (hK : P.K = X.K) (hm : P.mg = X.mg) (hc : X.calm = true) (hr : Room j X.A) (hk : k + 1 ≤ j) (tk : Takes X P.W) (hgl : Gl X c) (ha : SA X P (e :: es) m)
    (he : starEach (e :: es) X.env = (false, eval e X.env) :: starEach es X.env) (hpl : (backTo pos (starEach es X.env)).any (·.1) = false) (hdb : (c == ("__debug__" : Str)) = false) :
    SS X P (.Raise (some (.Call (.Name c p) (e :: es) [] pos)) none pos2) (sRaise c fl m) := by
  obtain ⟨gC, T, xf, no, fI, fd, ps, sp, iC, tI, F1, b1, hsp⟩ := R
  refine L2.PS.imp (ps_raise hc tk (pmk_oex (dvs := []) (ds := []) T iC tI F1 (hr.mono hk) b1 .nil C8.pass0 hgl gC ha hdb he hpl)) fun D σ H ⟨B, As, F, G, t, R, q⟩ => ?_
  refine ⟨As, F, G, t, R.rel, bindSA R q fun As1 F1 H1 vs rs t1 er g1 R1 x1 p1 => ?_⟩
  clear er
  split at p1
  · rename_i ds eds
    split at p1
    · rename_i hl
      have hv := dats_ok x1 eds
      have len := hv.length
      have fin : ∀ (d : Addr) (ws : List (Str × V)), H1 d = none → XdAll P.K F1 ws (fl.zip ds).reverse → P.W (.ref C) (some d) σ (upd H1 d (.xd ws)) := fun d ws n hx => by
        obtain ⟨⟨g, s⟩, _⟩ := alloc (o := .xd ws) R1.rel.st R1.rel.sub n
        have nA : d ∉ As1 := fun z => R1.rel.st.ok.there d z n
        exact p1 As1 F1 σ _ C (some d) (by rw [hm]; exact gC) (R1.mono g s) (Same.refl _) (.inr ⟨d, ws, rfl, nA, upd_same, hx⟩)
      rcases hsp with ⟨f, rfl, rfl⟩ | ⟨f, g, rfl, rfl⟩
      · match ds, vs, hl, hv, len with
        | [y], [v], _, hv, _ =>
          cases hv with
          | cons hy _ =>
            refine ⟨Nat.le_of_ble_eq_true rfl, fun a na => ⟨a, v, rfl, T, no f (by simp), upd_same, fun dx n ne => ⟨rfl, dx, [(f, v)], upd_same, ?_, ?_, ?_⟩⟩⟩
            · rw [upd_ne ne]; exact upd_same
            · rw [upd_ne ne] at n; exact n
            · rw [upd_ne ne] at n
              rw [heap_made na ne]
              exact fin dx _ n (.cons ⟨rfl, hy⟩ .nil)
      · match ds, vs, hl, hv, len with
        | [y, z], [v, u], _, hv, _ =>
          cases hv with
          | cons hy hv =>
            cases hv with
            | cons hz _ =>
              refine ⟨Nat.le_of_ble_eq_true rfl, fun a na => ⟨a, v, u, rfl, T, no f (by simp), no g (by simp), upd_same, fun dx n ne => ⟨rfl, dx, [(g, u), (f, v)], ?_, upd_same, ?_, ?_⟩⟩⟩
              · rw [upd_ne (Ne.symm ne)]; exact upd_same
              · rw [upd_ne ne] at n; exact n
              · rw [upd_ne ne] at n
                rw [heap_made2 na ne]
                exact fin dx _ n (.cons ⟨rfl, hz⟩ (.cons ⟨rfl, hy⟩ .nil))
    · exact p1.elim
  · exact p1.elim
end
end DL
end

section
set_option Elab.async false
set_option linter.all false
set_option maxRecDepth 100000
set_option maxHeartbeats 4000000
namespace DL
open PySem PySem.Spec PyProof.Rows L2
variable [Tbs]

/-! ### try with several clauses, named or not -/
/-- a clause: its class, the slot of its name, its suite -/
structure Cl where
  c : Value
  i : Option Nat
  ts : Addr → Value → Option Addr → TS
def unn : Option Nat → Sg → Sg
  | some i, σ => σ.set i none
  | none, σ => σ
def inn (a : Addr) : Option Nat → Sg → Sg
  | some i, σ => σ.set i (some (.ref a))
  | none, σ => σ
def endsU (i : Option Nat) (D : Ends) : Ends := { nx := fun σ H => D.nx (unn i σ) H, rt := D.rt, bk := fun σ H => D.bk (unn i σ) H, ct := fun σ H => D.ct (unn i σ) H }
def wCl (K : PySem.W.Frag) (Wout : WX) (D : Ends) : List Cl → WX
  | [] => Wout
  | q :: r => fun cls d σ H => ∃ b, PySem.W.exmOne K cls q.c = some b ∧ (b = true → ∀ a, H a = none → q.ts a cls d (endsU q.i D) (inn a q.i σ) H) ∧ (b = false → wCl K Wout D r cls d σ H)
inductive ClOk (X : Cx) : List ExceptHandler → List Cl → Prop
  | nil : ClOk X [] []
  | bare {x : Str} {c : Value} {ts : Addr → Value → Option Addr → TS} {st : Stmt} {sts : List Stmt} {np hp : Pos} {hds : List ExceptHandler} {l : List Cl} (hc : Names X x c)
      (hsu : ∀ (a : Addr) (oe : Obj) (cls : Value) (d : Option Addr) (pn : List (Addr × Obj)), Zc cls d oe → (∃ vs, oe.data = .fields vs) → PSs (X.suite a ((a, oe) :: pn)) (st :: sts) (ts a cls d)) (r : ClOk X hds l) :
      ClOk X (.ExceptHandler (some (.Name x np)) none (st :: sts) hp :: hds) (⟨c, none, ts⟩ :: l)
  | named {x n : Str} {i : Nat} {c : Value} {ts : Addr → Value → Option Addr → TS} {st : Stmt} {sts : List Stmt} {np hp : Pos} {hds : List ExceptHandler} {l : List Cl} (hc : Names X x c) (hi : X.N[i]? = some n) (hl : X.env.kindOf n = some .local)
      (hsu : ∀ (a : Addr) (oe : Obj) (cls : Value) (d : Option Addr) (pn : List (Addr × Obj)), Zc cls d oe → (∃ vs, oe.data = .fields vs) → PSs (X.suite a ((a, oe) :: pn)) (st :: sts) (ts a cls d)) (r : ClOk X hds l) :
      ClOk X (.ExceptHandler (some (.Name x np)) (some n) (st :: sts) hp :: hds) (⟨c, some i, ts⟩ :: l)
section
variable {X : Cx}
/-- the class's name, looked up within the clauses -/
theorem clause_name {x : Str} {c : Value} {np : Pos} (hc : Names X x c) {a : Addr} {q : Addr × Obj} {pn : List (Addr × Obj)} {σ : Sg} {H : Hp} {s : Shared} (S : L2.Inv (X.suite a (q :: pn)) [] σ H s) {Q E : Value → Shared → Prop} (z : Q c s) :
    wpAny (model X.prog X.w) (X.A.mark (some (.ref a))) (eval (.Name x np) X.env) Q E s := by
  obtain ⟨g, nd, h | ⟨h, bv, nn⟩⟩ := hc
  · exact ld_glob (X := X.suite a (q :: pn)) S g h z nd
  · exact ld_blt (X := X.suite a (q :: pn)) S g h bv z nn nd
/-- out of a suite -/
theorem suite_out {a : Addr} {q : Addr × Obj} {pins : List (Addr × Obj)} {D : Ends} {fl : Flow} {s : Shared} (ok : X.Ok) (h : SP (X.suite a (q :: (X.pn ++ pins))) [] D fl s) : SP X pins D fl s := by
  cases fl with
  | next => obtain ⟨τ, J, S, z⟩ := h; exact ⟨τ, J, S.unsuite ok, z⟩
  | brk => obtain ⟨τ, J, S, z⟩ := h; exact ⟨τ, J, S.unsuite ok, z⟩
  | cont => obtain ⟨τ, J, S, z⟩ := h; exact ⟨τ, J, S.unsuite ok, z⟩
  | ret u => obtain ⟨v, τ, J, S, r, z⟩ := h; exact ⟨v, τ, J, S.unsuite ok, r, z⟩
/-- out of a try's body -/
theorem try_out {xe : Value → Shared → Prop} {pins pn' : List (Addr × Obj)} {D : Ends} {fl : Flow} {s : Shared} (ok : X.Ok) (h : SP (X.tr (X.pn ++ pins) xe) pn' D fl s) : SP X pins D fl s := by
  cases fl with
  | next => obtain ⟨τ, J, S, z⟩ := h; exact ⟨τ, J, S.ofTry ok, z⟩
  | brk => obtain ⟨τ, J, S, z⟩ := h; exact ⟨τ, J, S.ofTry ok, z⟩
  | cont => obtain ⟨τ, J, S, z⟩ := h; exact ⟨τ, J, S.ofTry ok, z⟩
  | ret u => obtain ⟨v, τ, J, S, r, z⟩ := h; exact ⟨v, τ, J, S.ofTry ok, r, z⟩
theorem ps_tryC {body : List Stmt} {h₀ : ExceptHandler} {hds : List ExceptHandler} {l : List Cl} {pos : Pos} {tb : WX → TS} {Wout : WX} (hs : X.stack = X.env :: X.outer) (hf : X.env.frame = some X.env.locals) (hN : X.N.Nodup) (tk : Takes X Wout)
    (hb : ∀ (W : WX) (pn : List (Addr × Obj)) (xe : Value → Shared → Prop), Takes (X.tr pn xe) W → PassesOwn (model X.prog X.w) X.A X.env xe → PSs (X.tr pn xe) body (tb W))
    (hh : ClOk X (h₀ :: hds) l) : PS X (.Try body (h₀ :: hds) [] [] pos) (fun D σ H => tb (wCl X.K Wout D l) D σ H) := by
  constructor
  intro pins s σ H D I h
  have ok := I.ok
  have hfr : X.A.frames = some (X.env :: X.outer) := by rw [← hs]; exact ok.frames
  refine wpAny_Try_except ?_
  have catchAll : ∀ (u : Value) (s' : Shared), XE (X.tr (X.pn ++ pins) fun _ _ => False) (wCl X.K Wout D l) u s' → wpAny (model X.prog X.w) X.A (noteFrame u X.env) (fun _ s₂ => wpAny (model X.prog X.w) X.A (setFlight u none) (fun _ s₃ =>
      wpAny (model X.prog X.w) X.A (handleBy u X.env (h₀ :: hds)) (SP X pins D) X.xe s₃) X.xe s₂) X.xe s' := by
    rintro u s' ⟨a, B, sI, pins', σ', H', cls, d, rfl, J', nb, up, sky, na, os, ag, wish⟩
    have J : L2.Inv X pins σ' H' sI := J'.ofTry ok
    have sky2 : Sky B (X.env :: X.outer) a (Zc cls d) X.env.locals s'.heap := by rw [← hs]; exact sky
    refine Sky.land Zc.steady hfr hf sky2 fun h3 fl3 up3 => ?_
    have J3 : L2.Inv X pins σ' H' { s' with heap := h3 } := J.landed nb fl3.1 (up.trans up3) os ag
    obtain ⟨oe, fv, oeAt, oeZ, oeD⟩ := fl3.there
    have apart : a ∉ frs (X.env :: X.outer) := fun hm => by
      obtain ⟨_, o2, e2, nf⟩ := fl3.2.2.1.mem hm
      rw [oeAt] at e2
      cases e2
      exact nf _ oeD
    have aL : a ≠ X.env.locals := fun z => apart (List.mem_filterMap.mpr ⟨X.env, List.mem_cons_self, by rw [z]; exact hf⟩)
    have aF : a ∉ X.fs := fun hm => by
      obtain ⟨env, m1, m2⟩ := List.mem_filterMap.mp hm
      exact apart (List.mem_filterMap.mpr ⟨env, List.mem_cons_of_mem _ m1, m2⟩)
    have S3 := J3.suite oeAt oeD na aL aF
    have typ : PySem.W.Looks (model X.prog X.w) h3 (typeOf (.ref a)) cls := fun A Q E s kp q => wpAny_typeOf_ref (kp _ _ oeAt) (by rw [oeZ.1]; exact q)
    have down : ∀ {i : Option Nat} {ts : Addr → Value → Option Addr → TS}, True := fun {_ _} => trivial
    clear down
    have clauses : ∀ {hs2 : List ExceptHandler} {l2 : List Cl}, ClOk X hs2 l2 → wCl X.K Wout D l2 cls d σ' H' → wpAny (model X.prog X.w) X.A (handleBy (.ref a) X.env hs2) (SP X pins D) X.xe { s' with heap := h3 } := by
      intro hs2 l2 k2
      induction k2 with
      | nil =>
        intro out
        refine wpAny_handleBy_nil ?_
        obtain ⟨_, _, _, oe', vs', T, _, _, e1, _, e2, e3, _⟩ := id fl3
        have onward : wpAny (model X.prog X.w) X.A (setFlight (.ref a) X.env.frame) (fun _ s4 => wpAny (model X.prog X.w) X.A (throw (.ref a) : Sem Flow) (SP X pins D) X.xe s4) X.xe { s' with heap := h3 } := by
          rw [hf]
          refine HandSPX.setFlight_upZ fl3 fun h4 held4 up4 => wpAny_throw (tk _ _ ⟨a, B, sI, pins, σ', H', cls, d, rfl, J, nb, (up.trans up3).trans up4, .inr (.inr ?_), na, os, ag, out⟩)
          rw [hs]
          exact held4
        unfold PySem.passOn
        refine wpAny_bind (wpAny_field e1 e2 e3 ?_)
        have nz : ¬ ((Value.ref T == Value.none) = true) := by simp
        rw [if_neg nz]
        first
          | exact wpAny_bind (wpAny_pure (wpAny_bind onward))
          | exact wpAny_bind onward
      | @bare x c ts st sts np hp hds2 l3 hc hsu r ih =>
        rintro ⟨b, isb, yes, no⟩
        refine wpAny_handleBy_cons (codeAny_handlers_test ?_) (by intro q; cases q)
        refine clause_name hc S3 ((PySem.W.exm_one (M := model X.prog X.w) J3.kIn typ isb).here ?_)
        cases b with
        | false => exact ih (no rfl)
        | true =>
          refine codeAny_handlers_suite (HandSPX.lands_againZ fl3 fun h4 fl4 up4 => ?_)
          have J4 : L2.Inv X pins σ' H' { s' with heap := h4 } := J.landed nb fl4.1 ((up.trans up3).trans up4) os ag
          obtain ⟨oe4, fv4, at4, z4, d4⟩ := fl4.there
          exact wpAny_mono ((hsu a oe4 cls d (X.pn ++ pins) z4 ⟨_, d4⟩).run [] _ _ H' _ (J4.suite at4 d4 na aL aF) (yes rfl a na)) (fun f s6 z => suite_out ok z) fun _ _ z => z.elim
      | @named x n i c ts st sts np hp hds2 l3 hc hi hl hsu r ih =>
        rintro ⟨b, isb, yes, no⟩
        refine wpAny_handleBy_cons (codeAny_handlers_test ?_) (by intro q; cases q)
        refine clause_name hc S3 ((PySem.W.exm_one (M := model X.prog X.w) J3.kIn typ isb).here ?_)
        cases b with
        | false => exact ih (no rfl)
        | true =>
          refine codeAny_handlers_suite_as (HandSPX.lands_againZ fl3 fun h4 fl4 up4 => ?_)
          have J4 : L2.Inv X pins σ' H' { s' with heap := h4 } := J.landed nb fl4.1 ((up.trans up3).trans up4) os ag
          obtain ⟨oe4, fv4, at4, z4, d4⟩ := fl4.there
          refine store_ok (X := X.suite a ((a, oe4) :: (X.pn ++ pins))) (v := .ref a) (J4.suite at4 d4 na aL aF) hN hi (.inl hl) rfl (fun s5 S5 => ?_) (.inr hl)
          refine wpAny_mono ((hsu a oe4 cls d (X.pn ++ pins) z4 ⟨_, d4⟩).run [] s5 _ H' _ S5 (yes rfl a na)) (fun f s6 z => ?_) fun _ _ z => z.elim
          cases f with
          | next => obtain ⟨τ, H6, S6, q6⟩ := z; exact gone_ok (S6.unsuite ok) hN hi hl fun s7 J7 => ⟨_, _, J7, q6⟩
          | brk => obtain ⟨τ, H6, S6, q6⟩ := z; exact gone_ok (S6.unsuite ok) hN hi hl fun s7 J7 => ⟨_, _, J7, q6⟩
          | cont => obtain ⟨τ, H6, S6, q6⟩ := z; exact gone_ok (S6.unsuite ok) hN hi hl fun s7 J7 => ⟨_, _, J7, q6⟩
          | ret u => obtain ⟨v6, τ, H6, S6, r6, q6⟩ := z; exact gone_ok (S6.unsuite ok) hN hi hl fun s7 J7 => ⟨_, _, _, J7, r6, q6⟩
    exact clauses hh wish
  refine wpAny_mono ((hb (wCl X.K Wout D l) (X.pn ++ pins) (fun e s₁ => wpAny (model X.prog X.w) X.A (noteFrame e X.env) (fun _ s₂ => wpAny (model X.prog X.w) X.A (setFlight e none) (fun _ s₃ =>
    wpAny (model X.prog X.w) X.A (handleBy e X.env (h₀ :: hds)) (SP X pins D) X.xe s₃) X.xe s₂) X.xe s₁) (fun u s' xx => ?_) PassesOwn.looking).run [] s σ H D (I.toTry _) h) (fun f s1 z => ?_) fun e s1 z => z
  · obtain ⟨a, B, sI, pins', σ', H', cls, d, e, J', r⟩ := xx
    exact catchAll u s' ⟨a, B, sI, pins', σ', H', cls, d, e, ⟨⟨J'.ok.mod, J'.ok.kind, J'.ok.glob, J'.ok.blt, J'.ok.above, J'.ok.inj, J'.ok.has, J'.ok.cab, J'.ok.hd, J'.ok.frames, J'.ok.stk, J'.ok.exf, J'.ok.bs, J'.ok.bsz, J'.ok.noex, J'.ok.exfs, J'.ok.funs, J'.ok.frf⟩,
      J'.os, J'.bare, J'.base, J'.loc, J'.cell, J'.free, J'.freeC, J'.pin, J'.hok, J'.len⟩, r⟩
  · have w := try_out ok z
    cases f with
    | next => exact wpAny_execs_nil w
    | brk => exact w
    | cont => exact w
    | ret u => exact w
end
end DL
end

section
set_option Elab.async false
set_option linter.all false
set_option maxRecDepth 100000
set_option maxHeartbeats 4000000
namespace DL
open PySem PySem.Spec PyProof.Rows L2
variable [Tbs]

/-! ### try: what it computes -/
structure Hd where
  c : Str
  i : Option Nat
  m : SM
def Sl.isE : Sl → Bool
  | .e _ _ => true
  | _ => false
def noE (G : Gm) : Bool := G.all fun x => !x.isE
def inG (c : Str) (fs : List (Str × D)) : Option Nat → Gm → Gm
  | some i, G => G.set i (.e c fs)
  | none, G => G
def unG : Option Nat → Gm → Gm
  | some i, G => G.set i .un
  | none, G => G
def outU (i : Option Nat) : So → So
  | .nx G t => if noE (unG i G) then .nx (unG i G) t else .stuck
  | .bk G t => if noE (unG i G) then .bk (unG i G) t else .stuck
  | .ct G t => if noE (unG i G) then .ct (unG i G) t else .stuck
  | .rt x t => .rt x t
  | _ => .stuck
abbrev Tab := Str → Str → Option Bool
def handleM (tab : Tab) (c : Str) (fs : List (Str × D)) (G : Gm) (t : Option DS) : List Hd → So
  | [] => .ex c fs G t
  | h :: r => match tab c h.c with
    | some true => if noE G then outU h.i (h.m (inG c fs h.i G) t) else .stuck
    | some false => handleM tab c fs G t r
    | none => .stuck
def sTry (tab : Tab) (mb : SM) (hs : List Hd) : SM := fun G t => match mb G t with
  | .ex c fs G t => handleM tab c fs G t hs
  | o => o
/-- tab tells the classes' kinship -/
def TabOk (K : PySem.W.Frag) (mg : Str → Option Value) (tab : Tab) : Prop := ∀ c x b C X', tab c x = some b → mg c = some (.ref C) → mg x = some (.ref X') → PySem.W.exmOne K (.ref C) (.ref X') = some b
def Pm.su (P : Pm) (a : Addr) (d : Option Addr) (c : Str) : Pm := ⟨P.K, P.mg, some (a, d, c), fun _ _ _ _ => False⟩
inductive HdOk (X : Cx) (P : Pm) : List ExceptHandler → List Hd → Prop
  | nil : HdOk X P [] []
  | bare {x : Str} {C : Addr} {st : Stmt} {sts : List Stmt} {m : SM} {np hp : Pos} {hds : List ExceptHandler} {l : List Hd} (hg : Gl X x) (hdb : (x == ("__debug__" : Str)) = false) (hm : X.mg x = some (.ref C))
      (hsu : ∀ (a : Addr) (oe : Obj) (d : Option Addr) (pn : List (Addr × Obj)) (c : Str) (C' : Addr), X.mg c = some (.ref C') → Zc (.ref C') d oe → (∃ vs, oe.data = .fields vs) → SSs (X.suite a ((a, oe) :: pn)) (P.su a d c) (st :: sts) m) (r : HdOk X P hds l) :
      HdOk X P (.ExceptHandler (some (.Name x np)) none (st :: sts) hp :: hds) (⟨x, none, m⟩ :: l)
  | named {x n : Str} {i : Nat} {C : Addr} {st : Stmt} {sts : List Stmt} {m : SM} {np hp : Pos} {hds : List ExceptHandler} {l : List Hd} (hg : Gl X x) (hdb : (x == ("__debug__" : Str)) = false) (hm : X.mg x = some (.ref C)) (hi : X.N[i]? = some n) (hl : X.env.kindOf n = some .local)
      (hsu : ∀ (a : Addr) (oe : Obj) (d : Option Addr) (pn : List (Addr × Obj)) (c : Str) (C' : Addr), X.mg c = some (.ref C') → Zc (.ref C') d oe → (∃ vs, oe.data = .fields vs) → SSs (X.suite a ((a, oe) :: pn)) (P.su a d c) (st :: sts) m) (r : HdOk X P hds l) :
      HdOk X P (.ExceptHandler (some (.Name x np)) (some n) (st :: sts) hp :: hds) (⟨x, some i, m⟩ :: l)
theorem noE_at {G : Gm} (h : noE G = true) {i : Nat} {c : Str} {fs : List (Str × D)} : G[i]? ≠ some (.e c fs) := fun e => by
  have := List.all_eq_true.mp h _ (List.mem_of_getElem? e)
  cases this
theorem RelS.xi {P P' : Pm} {B : Bs} {As : List Addr} {F H : Hp} {G : Gm} {t : Option DS} {σ : Sg} (hK : P'.K = P.K) (ne : noE G = true) (R : RelS P B As F G t σ H) : RelS P' B As F G t σ H := by
  refine ⟨⟨R.rel.sub, R.rel.st, R.rel.len, fun i x e => ?_, R.rel.inj⟩, R.gr, R.own⟩
  have q := R.rel.slot i x e
  rw [hK]
  cases x with
  | e c fs => exact absurd e (noE_at ne)
  | un => exact q
  | d y => exact q
  | l ys => exact q
  | s => exact q
theorem RelS.setE {P : Pm} {B : Bs} {As : List Addr} {F H : Hp} {G : Gm} {t : Option DS} {σ : Sg} {i : Nat} {x : Sl} {v : Option V} (R : RelS P B As F G t σ H) (nl : ∀ xs, x ≠ .l xs) (h : SlOk P.K P.xi As F H (some v) x) :
    RelS P B As F (G.set i x) t (σ.set i v) H := by
  have len := R.rel.len
  have back : ∀ {j : Nat} {y : Sl}, (G.set i x)[j]? = some y → (j = i ∧ i < σ.length ∧ y = x) ∨ (j ≠ i ∧ G[j]? = some y) := fun {j y} e => by
    by_cases hj : j = i
    · subst hj
      rw [List.getElem?_set] at e
      split at e
      · split at e
        · rename_i hlt; exact .inl ⟨rfl, len ▸ hlt, (Option.some.inj e).symm⟩
        · cases e
      · rename_i z; exact absurd rfl z
    · rw [List.getElem?_set_ne (Ne.symm hj)] at e
      exact .inr ⟨hj, e⟩
  have lold : ∀ {j : Nat} {xs : List D}, (G.set i x)[j]? = some (.l xs) → j ≠ i ∧ G[j]? = some (.l xs) := fun {j xs} e => by
    rcases back e with ⟨_, _, z⟩ | z
    · exact absurd z.symm (nl xs)
    · exact z
  refine ⟨⟨R.rel.sub, R.rel.st, by simp [len], fun j y e => ?_, fun j k xs ys u n e1 e2 e3 e4 => ?_⟩, R.gr, fun j xs p e1 e2 => ?_⟩
  · rcases back e with ⟨rfl, hlt, rfl⟩ | ⟨hj, e'⟩
    · rw [List.getElem?_set_self hlt]; exact h
    · rw [List.getElem?_set_ne (Ne.symm hj)]; exact R.rel.slot j y e'
  · obtain ⟨n1, z1⟩ := lold e1
    obtain ⟨n2, z2⟩ := lold e2
    rw [List.getElem?_set_ne (Ne.symm n1)] at e3
    rw [List.getElem?_set_ne (Ne.symm n2)] at e4
    exact R.rel.inj j k xs ys u n z1 z2 e3 e4
  · obtain ⟨n1, z1⟩ := lold e1
    rw [List.getElem?_set_ne (Ne.symm n1)] at e2
    exact R.own j xs p z1 e2
theorem RelS.unE {P : Pm} {B : Bs} {As : List Addr} {F H : Hp} {G : Gm} {t : Option DS} {σ : Sg} (R : RelS P B As F G t σ H) : ∀ i : Option Nat, RelS P B As F (unG i G) t (unn i σ) H
  | none => R
  | some i => R.setE (fun xs e => by cases e) trivial
theorem out_te {P : Pm} {B : Bs} {F : Hp} {D : Ends} {a : Addr} {d : Option Addr} {c : Str} {i : Option Nat} {o : So} (h : PostS P B F D (outU i o)) : PostS (P.su a d c) B F (endsU i D) o := by
  cases o with
  | nx G t =>
    simp only [outU] at h
    split at h
    · rename_i ne
      exact fun As' F' σ' H' R k => h As' F' _ H' (RelS.xi (P := P.su a d c) (P' := P) rfl ne (R.unE i)) k
    · exact h.elim
  | bk G t =>
    simp only [outU] at h
    split at h
    · rename_i ne
      exact fun As' F' σ' H' R k => h As' F' _ H' (RelS.xi (P := P.su a d c) (P' := P) rfl ne (R.unE i)) k
    · exact h.elim
  | ct G t =>
    simp only [outU] at h
    split at h
    · rename_i ne
      exact fun As' F' σ' H' R k => h As' F' _ H' (RelS.xi (P := P.su a d c) (P' := P) rfl ne (R.unE i)) k
    · exact h.elim
  | rt x t => exact h
  | ex c fs G t => exact h.elim
  | stuck => exact h
section
variable {X : Cx} {P : Pm}
theorem clause_suite {m : SM} {sts : List Stmt} (hsu : ∀ (a : Addr) (oe : Obj) (d : Option Addr) (pn : List (Addr × Obj)) (c : Str) (C' : Addr), X.mg c = some (.ref C') → Zc (.ref C') d oe → (∃ vs, oe.data = .fields vs) → SSs (X.suite a ((a, oe) :: pn)) (P.su a d c) sts m)
    (a : Addr) (oe : Obj) (cls : Value) (d : Option Addr) (pn : List (Addr × Obj)) (hz : Zc cls d oe) (hv : ∃ vs, oe.data = .fields vs) :
    PSs (X.suite a ((a, oe) :: pn)) sts (fun D σ H => ∃ c C', X.mg c = some (.ref C') ∧ cls = .ref C' ∧ tsM (P.su a d c) m D σ H) := by
  constructor
  rintro pins s σ H D I ⟨c, C', e1, rfl, h⟩
  exact (hsu a oe d pn c C' e1 hz hv).run pins s σ H D I h
theorem hd_cl {tab : Tab} (hK : P.K = X.K) (hm : P.mg = X.mg) (ht : TabOk X.K X.mg tab) {hds : List ExceptHandler} {l : List Hd} (h : HdOk X P hds l) : ∃ cl : List Cl, ClOk X hds cl ∧
    ∀ {B : Bs} {As : List Addr} {F H : Hp} {D : Ends} {c : Str} {fs : List (Str × PyData)} {G : Gm} {t : Option DS} {σ : Sg} {C : Addr} {d : Option Addr}, X.mg c = some (.ref C) → RelS P B As F G t σ H → ExAt P.K As F H d fs → PostS P B F D (handleM tab c fs G t l) →
      wCl X.K P.W D cl (.ref C) d σ H := by
  have hit : ∀ {i : Option Nat} {m : SM} {B : Bs} {As : List Addr} {F H : Hp} {D : Ends} {c : Str} {fs : List (Str × PyData)} {G : Gm} {t : Option DS} {σ : Sg} {C : Addr} {d : Option Addr}, X.mg c = some (.ref C) → RelS P B As F G t σ H → ExAt P.K As F H d fs →
      noE G = true → PostS P B F D (outU i (m (inG c fs i G) t)) → ∀ a, H a = none → ∃ c' C', X.mg c' = some (.ref C') ∧ Value.ref C = .ref C' ∧ tsM (P.su a d c') m (endsU i D) (inn a i σ) H := by
    intro i m B As F H D c fs G t σ C d e R xa ne q a na
    refine ⟨c, C, e, rfl, B, As, F, inG c fs i G, t, ?_, out_te q⟩
    have R2 : RelS (P.su a d c) B As F G t σ H := RelS.xi (P := P) (P' := P.su a d c) rfl ne R
    cases i with
    | none => exact R2
    | some i => exact R2.setE (fun xs z => by cases z) ⟨a, d, rfl, rfl, xa⟩
  induction h with
  | nil =>
    exact ⟨[], .nil, fun {B As F H D c fs G t σ C d} e R xa q => q As F σ H C d (by rw [hm]; exact e) R (Same.refl _) xa⟩
  | @bare x C0 st sts m np hp hds l hg hdb hmx hsu r ih =>
    obtain ⟨cl, ok, w⟩ := ih
    refine ⟨_ :: cl, .bare (c := .ref C0) ⟨hg, hdb, .inl hmx⟩ (clause_suite hsu) ok, fun {B As F H D c fs G t σ C d} e R xa q => ?_⟩
    unfold handleM at q
    split at q
    · rename_i e2
      split at q
      · rename_i ne
        exact ⟨true, ht c x true C C0 e2 e hmx, fun _ => hit (i := none) e R xa ne q, fun z => Bool.noConfusion z⟩
      · exact q.elim
    · rename_i e2
      exact ⟨false, ht c x false C C0 e2 e hmx, And.intro (fun z => Bool.noConfusion z) (fun _ => w e R xa q)⟩
    · exact q.elim
  | @named x n i C0 st sts m np hp hds l hg hdb hmx hi hl hsu r ih =>
    obtain ⟨cl, ok, w⟩ := ih
    refine ⟨_ :: cl, .named (c := .ref C0) ⟨hg, hdb, .inl hmx⟩ hi hl (clause_suite hsu) ok, fun {B As F H D c fs G t σ C d} e R xa q => ?_⟩
    unfold handleM at q
    split at q
    · rename_i e2
      split at q
      · rename_i ne
        exact ⟨true, ht c x true C C0 e2 e hmx, fun _ => hit (i := some i) e R xa ne q, fun z => Bool.noConfusion z⟩
      · exact q.elim
    · rename_i e2
      exact ⟨false, ht c x false C C0 e2 e hmx, And.intro (fun z => Bool.noConfusion z) (fun _ => w e R xa q)⟩
    · exact q.elim
def Pm.wi (P : Pm) (W : WX) : Pm := ⟨P.K, P.mg, P.xi, W⟩
theorem ss_try {tab : Tab} {body : List Stmt} {h₀ : ExceptHandler} {hds : List ExceptHandler} {l : List Hd} {mb : SM} {pos : Pos} (hK : P.K = X.K) (hm : P.mg = X.mg) (ht : TabOk X.K X.mg tab) (hs : X.stack = X.env :: X.outer) (hf : X.env.frame = some X.env.locals) (hN : X.N.Nodup) (tk : Takes X P.W)
    (hb : ∀ (W : WX) (pn : List (Addr × Obj)) (xe : Value → Shared → Prop), Takes (X.tr pn xe) W → PassesOwn (model X.prog X.w) X.A X.env xe → SSs (X.tr pn xe) (P.wi W) body mb)
    (hh : HdOk X P (h₀ :: hds) l) : SS X P (.Try body (h₀ :: hds) [] [] pos) (sTry tab mb l) := by
  obtain ⟨cl, ok, w⟩ := hd_cl hK hm ht hh
  refine L2.PS.imp (ps_tryC hs hf hN tk (fun W pn xe tk2 ps => hb W pn xe tk2 ps) ok) fun D σ H ⟨B, As, F, G, t, R, q⟩ => ⟨B, As, F, G, t, ⟨⟨R.rel.sub, R.rel.st, R.rel.len, R.rel.slot, R.rel.inj⟩, R.gr, R.own⟩, ?_⟩
  unfold sTry at q
  have same : ∀ {As' : List Addr} {F' H' : Hp} {σ' : Sg} {G' : Gm} {t' : Option DS} {W : WX}, RelS (P.wi W) B As' F' G' t' σ' H' → RelS P B As' F' G' t' σ' H' := fun R => ⟨⟨R.rel.sub, R.rel.st, R.rel.len, R.rel.slot, R.rel.inj⟩, R.gr, R.own⟩
  cases e : mb G t with
  | nx G' t' => rw [e] at q; exact fun As' F' σ' H' R k => q As' F' σ' H' (same R) k
  | bk G' t' => rw [e] at q; exact fun As' F' σ' H' R k => q As' F' σ' H' (same R) k
  | ct G' t' => rw [e] at q; exact fun As' F' σ' H' R k => q As' F' σ' H' (same R) k
  | rt x t' => rw [e] at q; exact q
  | stuck => rw [e] at q; exact q
  | ex c fs G' t' =>
    rw [e] at q
    intro As' F' σ' H' C d mc R2 k xa
    exact w (by rw [← hm]; exact mc) (same R2) xa (PostS.re k q)

/-! ### a caught error's fields -/
def mXf (ft : Str → List Str) (i : Nat) (f : Str) : EM := fun G t => match G[i]? with
  | some (.e c fs) => if (ft c).contains f then .of ((fs.lookup f).map Rv.d) t else .stuck
  | _ => .stuck
def FtOk (K : PySem.W.Frag) (mg : Str → Option Value) (ft : Str → List Str) : Prop := ∀ c C f, (ft c).contains f = true → mg c = some (.ref C) → XfC K C ∧ PySem.W.findIn K (.ref C) f = some none
theorem xd_look {K : PySem.W.Frag} {F : Hp} {f : Str} {x : D} : ∀ {vs : List (Str × V)} {fs : List (Str × D)}, XdAll K F vs fs → fs.lookup f = some x → ∃ v, vs.lookup f = some v ∧ Dp K F v x
  | _, _, .nil, e => by cases e
  | _, _, @Paired.cons _ _ _ p q vs fs h t, e => by
    obtain ⟨n, v⟩ := p
    obtain ⟨n', y⟩ := q
    obtain ⟨e1, e2⟩ := h
    have e1' : n = n' := e1
    subst e1'
    rw [List.lookup] at e ⊢
    cases hq : f == n with
    | true =>
      rw [hq] at e
      cases e
      exact ⟨v, rfl, e2⟩
    | false =>
      rw [hq] at e
      exact xd_look t e
theorem se_xf {X : Cx} {P : Pm} {ft : Str → List Str} {a : Addr} {oe : Obj} {d : Option Addr} {c : Str} {C : Addr} {pn : List (Addr × Obj)} {n f : Str} {i : Nat} {p pos : Pos} (hK : P.K = X.K) (hft : FtOk X.K X.mg ft) (hm : X.mg c = some (.ref C)) (hz : Zc (.ref C) d oe) (hv : ∃ vs, oe.data = .fields vs)
    (hN : X.N[i]? = some n) (hvis : Vis X.env.scope n) (hd : (n == ("__debug__" : Str)) = false) (hcd : (n == ("__classdict__" : Str)) = false)
    (hb : attributeBase (.Name n p) f X.env (eval (.Name n p) X.env) = eval (.Name n p) X.env) : SE (X.suite a ((a, oe) :: pn)) (P.su a d c) (.Attribute (.Name n p) f pos) (mXf ft i f) := by
  constructor
  rintro pins s σ H Q I ⟨As, F, G, t, R, q⟩
  unfold mXf at q
  split at q
  · rename_i c' fs eG
    split at q
    · rename_i hc
      obtain ⟨a', d', e1, e2, xa⟩ := R.slot i _ eG
      cases e1
      obtain ⟨xf, no⟩ := hft c C f hc hm
      cases el : fs.lookup f with
      | none => rw [el] at q; exact q.elim
      | some x =>
        rw [el] at q
        rcases xa with ⟨rfl, _⟩ | ⟨dd, vs, rfl, nA, hdd, all⟩
        · cases el
        · obtain ⟨v, e3, hx⟩ := xd_look all el
          exact (pe_xf (X := X) (cls := .ref C) xf no hz hv (pe_var (X := X.suite a ((a, oe) :: pn)) (i := i) hN hvis hd hcd) hb).run pins s σ H Q I ⟨.ref a, e2, rfl, rfl, dd, vs, v, rfl, hdd, e3, q As F H v (.refl R.sub) R.st hx trivial⟩
    · exact q.elim
  · exact q.elim
end
end DL
end

section
set_option Elab.async false
set_option linter.all false
set_option maxRecDepth 100000
set_option maxHeartbeats 4000000
namespace DL
open PySem PySem.Spec PyProof.Rows L2
variable [Tbs]

/-! ### a law's end -/
/-- the code objects that make lambdas, and their tables -/
structure TabsAt (K : PySem.W.Frag) (h : Heap) (cs : List (Addr × Addr)) : Prop where
  empty : ∀ p ∈ cs, h.get? p.2 = some { cls := .none, data := .fields #[] }
  out : ∀ p ∈ cs, K.lookup p.2 = none
  hd : ∀ p ∈ cs, PySem.W.CodeHd h p.1 p.2
theorem law_end {P : Program} {w : World} {K : PySem.W.Frag} {mg mb : Str → Option Value} {k : Nat} {fa a : Addr} {cs : List (Addr × Addr)} {fd : FuncData} {x : Str} {f : FM} {s₁ : Shared} {vs : List Value} {ns : List Int} (hTs : tabA = cs.map (·.2))
    (inK : K.In s₁.heap) (hG : s₁.heap.Ns mainGlobals mg) (hB : s₁.heap.Ns builtinsNs mb) (hBB : ∀ x : Str, x ≠ "__name__" → mb x = bootBuiltins x) (lim : s₁.heap.NoLimit) (g0 : s₁.gens = #[]) (tabs : TabsAt K s₁.heap cs)
    (hbm : ∃ (bm : Addr) (ob : Obj), mg "__builtins__" = some (.ref bm) ∧ bm ≠ builtinsNs ∧ s₁.heap.get? bm = some ob ∧ ob.cls = .type "module" ∧ ob.dict = some builtinsNs ∧ ob.data = .plain)
    (scr : s₁.heap.get? a = some { cls := .type "list", data := .seq vs.toArray }) (hin : IntsAre vs ns) (small : ns.length ≤ sizeLine) (room : Room k callerA)
    (F : ∀ base : Heap, K.In base → base.Ns mainGlobals mg → (∀ p ∈ cs, LamX.TabB base mg p.1 p.2) → FnG P w K mg base k fa fd [x] (spM K mg 1 f)) (bd : ∀ (s : Shared) (u : Value), BindsTo s fd ⟨[u], []⟩ [(x, u)])
    (law : ∃ t', f [.d (.list (ns.map .int))] none = .ok (.d (.bool true)) t') :
    codeAny (model P w) callerA (.call (.ref fa) ⟨[.ref a], []⟩) (fun r s' => r = .ok (.ret (.bool true)) ∧ OldK s₁.heap s'.heap ∧ s'.os = s₁.os ∧ AllBare s'.gens) s₁ := by
  obtain ⟨t', law⟩ := law
  have rv := vals_ints hin
  have atT : ∀ b ∈ tabA, s₁.heap.get? b = some { cls := .none, data := .fields #[] } := fun b hb => by
    rw [hTs] at hb
    obtain ⟨p, hp, rfl⟩ := List.mem_map.mp hb
    exact tabs.empty p hp
  have outT : ∀ b ∈ tabA, K.lookup b = none := fun b hb => by
    rw [hTs] at hb
    obtain ⟨p, hp, rfl⟩ := List.mem_map.mp hb
    exact tabs.out p hp
  have scrT : a ∉ tabA := fun z => by
    have q := atT a z
    rw [scr] at q
    cases congrArg Obj.data (Option.some.inj q)
  -- H: nothing but the tables and the script, unless the module holds it
  have main : ∀ H : Hp, (∀ b ∈ tabA, H b = some (.tbl #[])) → (∀ b, b ≠ a → b ∉ tabA → H b = none) → (∀ u, H a = some u → K.lookup a = none ∧ ∃ o xs, u = .frz o (.lst xs)) → SqL K H a (ns.map V.int) → HOk P w H s₁.heap →
      codeAny (model P w) callerA (.call (.ref fa) ⟨[.ref a], []⟩) (fun r s' => r = .ok (.ret (.bool true)) ∧ OldK s₁.heap s'.heap ∧ s'.os = s₁.os ∧ AllBare s'.gens) s₁ := by
    intro H atH only ofA seq hok
    have hidden : ∀ {b : Addr} {o : Obj}, s₁.heap.get? b = some o → (∀ us n, o.data ≠ .seq us n) → o.data ≠ .fields #[] → H b = none := fun {b o} e n1 n2 => by
      by_cases hb : b = a
      · subst hb
        rw [scr] at e
        cases e
        exact absurd rfl (n1 vs.toArray _)
      · by_cases ht : b ∈ tabA
        · rw [atT b ht] at e
          cases e
          exact absurd rfl n2
        · exact only b hb ht
    have stays : ∀ {b : Addr} {o : Obj}, s₁.heap.get? b = some o → (∀ us n, o.data ≠ .seq us n) → o.data ≠ .fields #[] → (hidT s₁.heap H).get? b = some o := fun {b o} e n1 n2 => hidT_get e (hidden e n1 n2)
    have nsT : ∀ {b : Addr} {m : Str → Option Value}, s₁.heap.Ns b m → (hidT s₁.heap H).Ns b m := fun {b m} ⟨o, es, n, e, d, r⟩ =>
      ⟨o, es, n, stays e (fun us n z => by rw [d] at z; cases z) (fun z => by rw [d] at z; cases z), d, r⟩
    have inT : K.In (hidT s₁.heap H) := fun b o e => hidT_get (inK b o e) (by
      by_cases hb : b = a
      · cases z : H b with
        | none => rfl
        | some u =>
          subst hb
          rw [(ofA u z).1] at e
          cases e
      · by_cases ht : b ∈ tabA
        · rw [outT b ht] at e
          cases e
        · exact only b hb ht)
    have limT : (hidT s₁.heap H).NoLimit := by
      obtain ⟨mc, h1, h2⟩ := lim
      exact ⟨mc, nsT h1, h2⟩
    have tb : ∀ p ∈ cs, LamX.TabB (hidT s₁.heap H) mg p.1 p.2 := fun p hp => by
      have pe := tabs.empty p hp
      refine ⟨?_, ?_, fun z => ?_⟩
      · obtain ⟨o, us, file, tf, flags, tg, inF, text, tt, e1, r1, r2, r3, r⟩ := tabs.hd p hp
        refine ⟨o, us, file, tf, flags, tg, inF, text, tt, stays e1 (fun us' n z => ?_) (fun z => ?_), r1, r2, r3, r⟩
        · rw [r2] at z; cases z
        · rw [r2] at z
          cases z
          simp at r3
      · obtain ⟨bm, ob, b1, b2, b3, b4, b5, b6⟩ := hbm
        refine ⟨bm, ob, b1, b2, fun q => ?_, fun q => ?_, stays b3 (fun us n z => by rw [b6] at z; cases z) (fun z => by rw [b6] at z; cases z), b4, b5, b6⟩
        · obtain ⟨o, es, n, e, d, _⟩ := hG
          rw [q, e] at b3
          cases b3
          rw [d] at b6
          cases b6
        · rw [q, pe] at b3
          cases b3
          cases b6
      · obtain ⟨o, es, n, e, d, _⟩ := hG
        rw [z, pe] at e
        cases e
        cases d
    have e0 : Env0 P w K mg (hidT s₁.heap H) callerA [] s₁ H :=
      ⟨rfl, ⟨inT, nsT hG, ⟨mb, nsT hB, hBB⟩, limT⟩, fun b o e => of_hidT e, Nat.le_of_eq (hidT_size _ _), trivial, fun b hb => absurd (show b ∈ ([] : List Addr) from hb) (by simp), hok, .of_eq g0⟩
    have keepA : K.lookup a ≠ none ∨ H a ≠ none := by
      rcases seq with (z | ⟨o, z⟩) | ⟨o, _, _, z, _⟩
      · exact .inr (by rw [z]; simp)
      · exact .inr (by rw [z]; simp)
      · exact .inl (by rw [z]; simp)
    let F0 : Hp := fun b => if b ∈ tabA then none else H b
    have kF : Same F0 H := fun b o e => by
      by_cases hb : b ∈ tabA
      · rw [show F0 b = none from if_pos hb] at e; cases e
      · rw [show F0 b = H b from if_neg hb] at e; exact e
    have seqF : SqL K F0 a (ns.map V.int) := by
      have ea : F0 a = H a := if_neg scrT
      rcases seq with (z | ⟨o, z⟩) | z
      · exact .inl (.inl (ea.trans z))
      · exact .inl (.inr ⟨o, ea.trans z⟩)
      · exact .inr z
    have tabsH : LamX.Tabs Tbs.T H := fun p hp => .nil (atH p.1 (List.mem_map.mpr ⟨p, hp, rfl⟩))
    have prom : spM K mg 1 f [V.ref a] H (fun v _ => v = .bl true) (fun _ _ _ => False) := by
      refine ⟨rfl, tabA, F0, none, [.d (.list (ns.map .int))], kF, ⟨⟨tabsH, rfl⟩, fun p hp => if_pos hp⟩, .cons (L2.Dp.lst seqF (dp_ints ns)) .nil, ?_⟩
      rw [law]
      intro As' F' H' v _ _ x _
      cases x
      rfl
    refine codeAny_mono ((F _ inT (nsT hG) tb).run (us := [.ref a]) (vs := [.ref a]) room rfl e0 (bd s₁ (.ref a)) (.cons rfl .nil) prom) fun r s' z => ?_
    cases r with
    | error e =>
      obtain ⟨_, _, _, _, _, _, _, _, _, _, _, _, no⟩ := z
      exact no.elim
    | ok fl =>
      cases fl with
      | next => exact z.elim
      | brk => exact z.elim
      | cont => exact z.elim
      | ret u =>
        obtain ⟨v, H', os, bare, un, hok', r', q⟩ := z
        have qv : v = .bl true := q
        subst qv
        obtain rfl : u = Value.bool true := r'
        have apart : ∀ b o, b ∉ tabA → s₁.heap.get? b = some o → s'.heap.get? b = some o := fun b o nt e => by
          cases hb : H b with
          | none => exact un.keep b o e hb (fun m => absurd (show b ∈ ([] : List Addr) from m) (by simp)) (by simp)
          | some y =>
            have ba : b = a := by
              by_cases h : b = a
              · exact h
              · rw [only b h nt] at hb; cases hb
            subst ba
            obtain ⟨_, ob, xs, rfl⟩ := ofA y hb
            obtain ⟨e1, _⟩ := hok b _ hb
            obtain ⟨e2, _⟩ := hok' b _ (un.frzs b ob _ hb)
            rw [e] at e1
            cases e1
            exact e2
        have grew : ∀ p ∈ cs, ∃ more : Array Value, s'.heap.get? p.2 = some { cls := .none, data := .fields more } := fun p hp => by
          obtain ⟨more, e⟩ := un.tbls p.2 #[] (atH p.2 (by rw [hTs]; exact List.mem_map.mpr ⟨p, hp, rfl⟩))
          exact ⟨_, hok' p.2 _ e⟩
        refine ⟨rfl, ⟨fun b o e => ?_, fun b o e => ?_⟩, os, bare⟩
        · by_cases hb : b ∈ tabA
          · rw [hTs] at hb
            obtain ⟨p, hp, rfl⟩ := List.mem_map.mp hb
            obtain ⟨more, hm⟩ := grew p hp
            rw [tabs.empty p hp] at e
            cases e
            exact .inr (.inl ⟨((tabs.hd p hp).tab (tabs.empty p hp)).isCodeTable, rfl, #[], more, rfl, by rw [Array.empty_append]; exact hm⟩)
          · exact .inl (apart b o hb e)
        · by_cases hb : b ∈ tabA
          · rw [hTs] at hb
            obtain ⟨p, hp, rfl⟩ := List.mem_map.mp hb
            obtain ⟨more, hm⟩ := grew p hp
            exact ⟨_, hm⟩
          · exact ⟨o, apart b o hb e⟩
  cases own : K.lookup a with
  | some o =>
    have e := inK a o own
    rw [scr] at e
    cases e
    refine main (fun b => if b ∈ tabA then some (.tbl #[]) else none) (fun b hb => if_pos hb) (fun b _ hb => if_neg hb) (fun u z => ?_) (.inr ⟨_, vs.toArray, _, own, rfl, rfl, rfl, ?_, by simpa using rv⟩) fun b u z => ?_
    · rw [if_neg scrT] at z; cases z
    · rw [List.size_toArray, hin.length]; exact small
    · have z' : (if b ∈ tabA then some (HO.tbl #[]) else none) = some u := z
      by_cases hb : b ∈ tabA
      · rw [if_pos hb] at z'
        cases z'
        exact atT b hb
      · rw [if_neg hb] at z'
        cases z'
  | none =>
    refine main (upd (fun b => if b ∈ tabA then some (.tbl #[]) else none) a (.frz { cls := .type "list", data := .seq vs.toArray } (.lst (ns.map V.int)))) (fun b hb => ?_) (fun b hb ht => ?_) (fun u z => ?_) (.inl (.inr ⟨{ cls := .type "list", data := .seq vs.toArray }, upd_same⟩)) fun b u z => ?_
    · rw [upd_ne (fun z => scrT (by rw [← z]; exact hb))]
      exact if_pos hb
    · rw [upd_ne hb]
      exact if_neg ht
    · rw [upd_same] at z
      cases z
      exact ⟨own, _, _, rfl⟩
    · by_cases hb : b = a
      · subst hb
        rw [upd_same] at z
        cases z
        exact ⟨scr, by rw [List.length_map]; exact small, vs, _, rv, scr⟩
      · rw [upd_ne hb] at z
        by_cases ht : b ∈ tabA
        · have z' : some (HO.tbl #[]) = some u := (if_pos ht).symm.trans z
          cases z'
          exact atT b ht
        · have z' : (none : Option HO) = some u := (if_neg ht).symm.trans z
          cases z'
omit [Tbs] in
/-- the goal that a head leaves -/
theorem walkG {l : PySem.W.OpenLaw} {n k : Nat} {q : Program} {loose : List Str} {XP : (Str → Option Value) → Heap → Prop} {YP : World → Heap → Prop} {d : DefRec} {x : Str}
    (hn : l.most = some n) (hn2 : n ≤ sizeLine) (hdf : d.params.defaults = []) (hr : Room k callerA)
    (F : ∀ (w : World) (mg : Str → Option Value) (fa : Addr) (h : Heap), YP w h → h.Ns mainGlobals mg → mg d.name = some (.ref fa) →
      ∃ (_ : Tbs) (K : PySem.W.Frag) (fd : FuncData) (f : FM) (cs : List (Addr × Addr)), K.In h ∧ tabA = cs.map (·.2) ∧ TabsAt K h cs ∧ (∀ (s : Shared) (u : Value), BindsTo s fd ⟨[u], []⟩ [(x, u)]) ∧
        (∀ ns : List Int, ns.length ≤ n → ∃ t', f [.d (.list (ns.map .int))] none = .ok (.d (.bool true)) t') ∧
        ∀ base : Heap, K.In base → base.Ns mainGlobals mg → (∀ p ∈ cs, LamX.TabB base mg p.1 p.2) → FnG l.prog w K mg base k fa fd [x] (spM K mg 1 f)) :
    PySem.W.WalkO q loose XP YP l.row.toRowW d [] (fun f vs => PySem.call f vs) := by
  refine Att.attach_callB hn hdf fun w s₀ s₁ mg mb fa o pm cd doc a vs ns G Y ho hd hcd hmg hobj hints hlen _ hg => ?_
  obtain ⟨_, K, fd, f, cs, inK, hTs, tabs, bd, law, hF⟩ := F w mg fa _ Y G.T.g hmg
  exact law_end hTs inK G.T.g G.T.b G.T.builtins G.T.nolimit hg tabs G.T.bmain hobj hints (Nat.le_trans hlen hn2) hr hF bd (law ns hlen)

/-! ### the head's facts of own errors -/
def oexB (K : PySem.W.Frag) (C : Addr) : Bool := (match K.lookup C with
  | some ⟨.type "type", _, .cls cd, sl⟩ => (match cd.mro, sl.toList with
    | .ref C' :: bm, [_, _, _, _, some (.builtin n), _] => C' == C && n == "ValueError.__new__" && !cd.hasDel && cd.hasDict && PySem.HandSPX.refsVE bm
    | _, _ => false)
  | _ => false) && (decide (PySem.W.findIn K (.ref C) "__setattr__" = some (some (.builtin "object.__setattr__"))) && (decide (PySem.W.subIn K (.ref C) (.type "BaseException") = some true) &&
    (decide (PySem.W.typeIn K (.ref C) = some (.type "type")) && PySem.W.keepIn K (.ref C))))
theorem oexB_ok {K : PySem.W.Frag} {C : Addr} (h : oexB K C = true) : OexC K C := by
  unfold oexB at h
  simp only [Bool.and_eq_true, decide_eq_true_eq] at h
  obtain ⟨h1, h2, h3, h4, h5⟩ := h
  refine ⟨?_, h2, h3, h4, h5⟩
  split at h1
  · rename_i dd cd sl lk
    split at h1
    · rename_i C' bm k0 k1 k2 k3 n k5 hm hs
      simp only [Bool.and_eq_true, beq_iff_eq, Bool.not_eq_true'] at h1
      obtain ⟨⟨⟨⟨rfl, rfl⟩, dl⟩, hd⟩, hv⟩ := h1
      obtain ⟨nm, bs, mro, N, q, hasD, sn, sub, ab, col, del⟩ := cd
      dsimp only at hm dl hd
      subst hm dl hd
      obtain ⟨l⟩ := sl
      dsimp only at hs
      subst hs
      exact ⟨nm, q, N, bs, bm, sn, sub, ab, col, dd, k0, k1, k2, k3, k5, lk, hv⟩
    · cases h1
  · cases h1
def bseB (K : PySem.W.Frag) : Bool := PySem.W.readsIn K (He.ga K "UnitError") (.type "type") && ((match PySem.W.findCls K (.ref (He.ga K "UnitError")) (.type "type") "__init__" with
  | some (.val (.builtin n)) => n == "ValueError.__init__"
  | _ => false) && decide (PySem.W.specialIn K (.ref (He.ga K "UnitError")) "__getattribute__" = some (some (.builtin "type.__getattribute__"))))
theorem bseB_ok {K : PySem.W.Frag} {mg : Str → Option Value} (h : bseB K = true) (g : mg "UnitError" = some (.ref (He.ga K "UnitError"))) : BaseE K mg (He.ga K "UnitError") := by
  unfold bseB at h
  simp only [Bool.and_eq_true, decide_eq_true_eq] at h
  obtain ⟨h1, h2, h3⟩ := h
  refine ⟨g, h1, ?_, h3⟩
  split at h2
  · rename_i n e
    rw [e, beq_iff_eq.mp h2]
  · cases h2
/-- an own error c of the fields fl -/
def errB (K : PySem.W.Frag) (q : Str × List Str) : Bool := oexB K (He.ga K q.1) && (xfB K (He.ga K q.1) && ((q.2.all fun f => decide (PySem.W.findIn K (.ref (He.ga K q.1)) f = some none)) &&
  (decide (PySem.W.findIn K (.ref (He.ga K q.1)) "__init__" = some (some (.ref (He.fAd K (q.1, some "__init__"))))) && decide (PySem.W.typeIn K (.ref (He.fAd K (q.1, some "__init__"))) = some (.type "function")))))
def exmB (K : PySem.W.Frag) (tab : Tab) (cs xs : List Str) : Bool := cs.all fun c => xs.all fun x => match tab c x with
  | some b => decide (PySem.W.exmOne K (.ref (He.ga K c)) (.ref (He.ga K x)) = some b)
  | none => true
/-- the whole of it -/
def exB (es : List (Str × List Str)) (tab : Tab) (cs xs : List Str) (K : PySem.W.Frag) : Bool := bseB K && (es.all (errB K) && exmB K tab cs xs)
end DL
end

section
set_option Elab.async false
set_option linter.all false
set_option maxRecDepth 100000
set_option maxHeartbeats 4000000
namespace DL
open PySem PySem.Spec PyProof.Rows L2
variable [Tbs]

/-! ### the draws' state: looked at, changed -/
theorem st_write {As : List Addr} {F H : Hp} {p : Addr} {o : HO} {t t' : Option DS} (s : StF As t F H) (k : Same F H) (hp : p ∈ As) (ok : StOk As t' (upd H p o)) : Grow As F H As F (upd H p o) ∧ StF As t' F (upd H p o) := by
  have kF : Same F (upd H p o) := fun b u e => by
    rw [upd_ne (fun z => by rw [z, s.sf p hp] at e; cases e)]
    exact k b u e
  refine ⟨⟨Same.refl _, kF, fun b u n e => ?_, fun b e _ => e, fun b z => ?_, .inl rfl⟩, ok, s.sf⟩
  · rw [upd_ne (fun z => n (by rw [z]; exact hp))]; exact e
  · by_cases hb : b = p
    · rw [hb, upd_same]; simp
    · rw [upd_ne hb]; exact z
/-- slot i holds the state -/
theorem slot_s {K : PySem.W.Frag} {xi : XI} {As : List Addr} {F H : Hp} {G : Gm} {t : Option DS} {σ : Sg} {i : Nat} (R : Rel K xi As F G t σ H) (e : G[i]? = some .s) : ∃ st d c l, t = some st ∧ As = tabA ++ [d, c, l] ∧ d ≠ c ∧ d ≠ l ∧ c ≠ l ∧ σ[i]? = some (some (.ref d)) ∧
    H d = some (.dK [(.inr "cells", .ref c), (.inr "lefts", .ref l), (.inr "at", .int st.pos)]) ∧ H c = some (.lst (st.cells.map .int)) ∧ H l = some (.lst (st.lefts.map .int)) := by
  obtain ⟨d, e1, hd⟩ := R.slot i _ e
  obtain ⟨_, ok⟩ := R.st.ok
  cases t with
  | none =>
    have z : As = tabA := ok
    subst z
    rw [sd_tab] at hd
    cases hd
  | some st =>
    obtain ⟨d', c, l, rfl, n1, n2, n3, h1, h2, h3⟩ := ok
    have e2 : sd (tabA ++ [d', c, l]) = some d' := by simp [sd]
    rw [e2] at hd
    cases hd
    exact ⟨st, _, c, l, rfl, rfl, n1, n2, n3, e1, h1, h2, h3⟩
/-- the same state's addresses further on -/
theorem slot_s2 {K : PySem.W.Frag} {xi : XI} {As As1 : List Addr} {F F1 H H1 : Hp} {G : Gm} {t1 : Option DS} {σ : Sg} {i : Nat} {d c l : Addr} (g : Grow As F H As1 F1 H1) (hA : As = tabA ++ [d, c, l]) (R : Rel K xi As1 F1 G t1 σ H1) (e : G[i]? = some .s) : ∃ st, t1 = some st ∧ As1 = tabA ++ [d, c, l] ∧ d ≠ c ∧ d ≠ l ∧ c ≠ l ∧ σ[i]? = some (some (.ref d)) ∧
    H1 d = some (.dK [(.inr "cells", .ref c), (.inr "lefts", .ref l), (.inr "at", .int st.pos)]) ∧ H1 c = some (.lst (st.cells.map .int)) ∧ H1 l = some (.lst (st.lefts.map .int)) := by
  obtain ⟨st, d', c', l', e1, e2, r⟩ := slot_s R e
  rcases g.ss with z | ⟨z, _⟩
  · rw [z, hA] at e2
    cases List.append_cancel_left e2
    exact ⟨st, e1, by rw [z, hA], r⟩
  · rw [hA] at z
    have := congrArg List.length z
    simp at this
def stKey (k : Nat) : Str := if k = 0 then "cells" else "lefts"
def DS.lst (st : DS) (k : Nat) : List Int := if k = 0 then st.cells else st.lefts
def mStAt (i : Nat) : EM := fun G t => match G[i]?, t with
  | some .s, some st => .ok (.d (.int st.pos)) t
  | _, _ => .stuck
def mStLen (k i : Nat) : EM := fun G t => match G[i]?, t with
  | some .s, some st => .ok (.d (.int (st.lst k).length)) t
  | _, _ => .stuck
def mStIx (k i : Nat) (m : EM) : EM := fun G t => match G[i]? with
  | some .s => (m G t).fz.bind fun r t => match r, t with
    | .d (.int j), some st => .of ((atI (st.lst k) j).map fun z => .d (.int z)) t
    | _, _ => .stuck
  | _ => .stuck
def sStAt (i : Nat) (m : EM) : SM := fun G t => match G[i]? with
  | some .s => (m G t).fz.bindS G fun r t => match r, t with
    | .d (.int j), some st => .nx G (some { st with pos := j })
    | _, _ => .stuck
  | _ => .stuck
def sStPut (i : Nat) (mi m : EM) : SM := fun G t => match G[i]? with
  | some .s => (m G t).fz.bindS G fun r t => (mi G t).fz.bindS G fun r2 t => match r, r2, t with
    | .d (.int z), .d (.int j), some st => (match ixN st.lefts.length j with
      | some n => .nx G (some { st with lefts := st.lefts.set n z })
      | none => .stuck)
    | _, _, _ => .stuck
  | _ => .stuck
theorem dget_st {H : Hp} {d c l : Addr} {z : Int} (e : H d = some (.dK [(.inr "cells", .ref c), (.inr "lefts", .ref l), (.inr "at", .int z)])) (k : Nat) : DGet H d (.str (stKey k)) (some (.ref (if k = 0 then c else l))) := by
  unfold stKey
  by_cases hk : k = 0
  · rw [if_pos hk, if_pos hk]; exact .inl ⟨_, .inr "cells", .inl e, rfl, rfl⟩
  · rw [if_neg hk, if_neg hk]
    exact .inl ⟨_, .inr "lefts", .inl e, rfl, rfl⟩
theorem map_atI {xs : List Int} {i z : Int} (e : atI xs i = some z) : atI (xs.map V.int) i = some (.int z) := by
  unfold atI at e ⊢
  rw [List.length_map]
  cases h : ixN xs.length i with
  | none => rw [h] at e; cases e
  | some j =>
    rw [h] at e
    have e : xs[j]? = some z := e
    show (xs.map V.int)[j]? = _
    rw [List.getElem?_map, e]; rfl
section
variable {X : Cx} {P : Pm} {i k : Nat} {x : Str} {e e1 e2 : Expr} {m m1 m2 : EM} {p p2 p3 p4 p5 pos : Pos} {j : Nat}
theorem se_stAt (hu : X.A.units + 1 < cLine) (hN : X.N[i]? = some x) (hv : Vis X.env.scope x) (hd : (x == ("__debug__" : Str)) = false) (hcd : (x == ("__classdict__" : Str)) = false) (hs : NoSl (.Constant (.str "at") j p2)) :
    SE X P (.Subscript (.Name x p) (.Constant (.str "at") j p2) pos) (mStAt i) := by
  refine L2.PE.imp (pe_dget hu (pe_var hN hv hd hcd) pe_str hs) fun σ H Q ⟨As, F, G, t, R, q⟩ => ?_
  unfold mStAt at q
  split at q
  · rename_i st eG
    obtain ⟨st', d, c, l, e1, e2, n1, n2, n3, ev, h1, h2, h3⟩ := slot_s R eG
    cases e1
    exact ⟨.ref d, ev, d, .int st.pos, rfl, .inl ⟨_, .inr "at", .inl h1, rfl, rfl⟩, q As F H _ (.refl R.sub) R.st (.int _) trivial⟩
  · exact q.elim
theorem se_stLen (hu : X.A.units + 1 < cLine) (hN : X.N[i]? = some x) (hv : Vis X.env.scope x) (hd : (x == ("__debug__" : Str)) = false) (hcd : (x == ("__classdict__" : Str)) = false) (hs : NoSl (.Constant (.str (stKey k)) j p2)) (hg : Gl X "len") (hm : X.mg "len" = none)
    (he : starEach [.Subscript (.Name x p) (.Constant (.str (stKey k)) j p2) p3] X.env = (false, eval (.Subscript (.Name x p) (.Constant (.str (stKey k)) j p2) p3) X.env) :: starEach [] X.env) (hpl : (backTo pos (starEach [] X.env)).any (·.1) = false) :
    SE X P (.Call (.Name "len" p4) [.Subscript (.Name x p) (.Constant (.str (stKey k)) j p2) p3] [] pos) (mStLen k i) := by
  refine L2.PE.imp (pe_callB call_len hg hm boot_len (pa_cons (pe_dget hu (pe_var hN hv hd hcd) pe_str hs) pa_nil he) (by decide) (by decide) he hpl) fun σ H Q ⟨As, F, G, t, R, q⟩ => ?_
  unfold mStLen at q
  split at q
  · rename_i st eG
    obtain ⟨st', d, c, l, e1, e2, n1, n2, n3, ev, h1, h2, h3⟩ := slot_s R eG
    cases e1
    refine ⟨.ref d, ev, d, _, rfl, dget_st h1 k, _, (st.lst k).length, rfl, ?_, q As F H _ (.refl R.sub) R.st (.int _) trivial⟩
    unfold DS.lst
    by_cases hk : k = 0
    · rw [if_pos hk, if_pos hk]; exact .inl ⟨_, SqL.of h2, by simp⟩
    · rw [if_neg hk, if_neg hk]; exact .inl ⟨_, SqL.of h3, by simp⟩
  · exact q.elim
theorem se_stIx (hu : X.A.units + 1 < cLine) (hN : X.N[i]? = some x) (hv : Vis X.env.scope x) (hd : (x == ("__debug__" : Str)) = false) (hcd : (x == ("__classdict__" : Str)) = false) (hs : NoSl (.Constant (.str (stKey k)) j p2)) (he : SE X P e m) (hp : PlainIx e) :
    SE X P (.Subscript (.Subscript (.Name x p) (.Constant (.str (stKey k)) j p2) p3) e pos) (mStIx k i m) := by
  refine L2.PE.imp (pe_ix ix_list (pe_dget hu (pe_var hN hv hd hcd) pe_str hs) he.fz hp) fun σ H Q ⟨As, F, G, t, R, q⟩ => ?_
  unfold mStIx at q
  split at q
  · rename_i eG
    obtain ⟨st, d, c, l, e1, e2, n1, n2, n3, ev, h1, h2, h3⟩ := slot_s R eG
    refine ⟨.ref d, ev, d, _, rfl, dget_st h1 k, As, F, G, t, R, bindEE R q fun As1 F1 H1 v1 r1 t1 er g1 R1 x1 p1 => ?_⟩
    clear er
    split at p1
    · rename_i z st1
      obtain ⟨st2, e3, e4, _, _, _, ev2, k1, k2, k3⟩ := slot_s2 g1 e2 R1 eG
      cases e3
      cases x1
      cases ea : atI (st1.lst k) z with
      | none => rw [ea] at p1; exact p1.elim
      | some y =>
        rw [ea] at p1
        have fin := p1 As1 F1 H1 (.int y) (.refl R1.sub) R1.st (.int y) trivial
        unfold DS.lst at ea
        by_cases hk : k = 0
        · rw [if_pos hk] at ea ⊢
          exact ⟨c, _, z, .int y, rfl, rfl, SqL.of k2, map_atI ea, fin⟩
        · rw [if_neg hk] at ea ⊢
          exact ⟨l, _, z, .int y, rfl, rfl, SqL.of k3, map_atI ea, fin⟩
    · exact p1.elim
  · exact q.elim
theorem ss_stAt (hu : X.A.units + 1 < cLine) (hN : X.N[i]? = some x) (hv : Vis X.env.scope x) (hd : (x == ("__debug__" : Str)) = false) (hcd : (x == ("__classdict__" : Str)) = false) (he : SE X P e m)
    (hs : swapsWith e (some (.Subscript (.Name x p) (.Constant (.str "at") j p2) p3)) pos.line X.env = pure false) : SS X P (.Assign [.Subscript (.Name x p) (.Constant (.str "at") j p2) p3] e pos) (sStAt i m) := by
  refine L2.PS.imp (ps_dput hu (pe_var hN hv hd hcd) pe_str he.fz hs) fun D σ H ⟨B, As, F, G, t, R, q⟩ => ?_
  unfold sStAt at q
  split at q
  · rename_i eG
    refine ⟨As, F, G, t, R.rel, bindSE R q fun As1 F1 H1 v1 r1 t1 er g1 R1 x1 fr p1 => ?_⟩
    clear er fr
    split at p1
    · rename_i z st1
      obtain ⟨st2, d, c, l, e3, e4, n1, n2, n3, ev2, k1, k2, k3⟩ := slot_s R1.rel eG
      cases e3
      cases x1
      refine ⟨.ref d, ev2, d, _, rfl, DPut.k (k := .inr "at") k1 (by rw [sizeLine_eq]; exact Nat.lt_of_lt_of_le (Nat.lt_succ_self 3) (by decide)), ?_⟩
      obtain ⟨g, s'⟩ := st_write (t' := some { st1 with pos := z }) (p := d) (o := .dK (putK [(.inr "cells", .ref c), (.inr "lefts", .ref l), (.inr "at", .int st1.pos)] (.inr "at") (.int z))) R1.rel.st R1.rel.sub (by rw [e4]; simp)
        ⟨tab_upd R1.rel.st.ok.1 (not_tab R1.rel.st.ok.1 (fun ps z => by rw [k1] at z; cases z)) (dK_code k1), d, c, l, e4, n1, n2, n3, upd_same, by rw [upd_ne (Ne.symm n1)]; exact k2, by rw [upd_ne (Ne.symm n2)]; exact k3⟩
      exact p1 As1 F1 σ _ (R1.mono g s') (Same.refl _)
    · exact p1.elim
  · exact q.elim
theorem ss_stPut (hu : X.A.units + 1 < cLine) (hN : X.N[i]? = some x) (hv : Vis X.env.scope x) (hd : (x == ("__debug__" : Str)) = false) (hcd : (x == ("__classdict__" : Str)) = false) (hn : NoSl (.Constant (.str (stKey 1)) j p2)) (h1 : SE X P e1 m1) (h2 : SE X P e2 m2)
    (ha : ∀ v, assign (.Subscript (.Subscript (.Name x p) (.Constant (.str (stKey 1)) j p2) p3) e1 p4) X.env v = (do
      let ov ← holding [v] (eval (.Subscript (.Name x p) (.Constant (.str (stKey 1)) j p2) p3) X.env)
      let iv ← holding [v, ov] (eval e1 X.env)
      standAt p4
      holding [v, ov, iv] (setItem ov iv v)
      release [v, ov, iv] []))
    (hs : swapsWithSole [.Subscript (.Subscript (.Name x p) (.Constant (.str (stKey 1)) j p2) p3) e1 p4] e2 pos.line X.env = pure false) (hw : swappedStores [.Subscript (.Subscript (.Name x p) (.Constant (.str (stKey 1)) j p2) p3) e1 p4] e2 X.env = pure none)
    (ht : (assignEach [.Subscript (.Subscript (.Name x p) (.Constant (.str (stKey 1)) j p2) p3) e1 p4] X.env).map (·.2) = [assign (.Subscript (.Subscript (.Name x p) (.Constant (.str (stKey 1)) j p2) p3) e1 p4) X.env]) :
    SS X P (.Assign [.Subscript (.Subscript (.Name x p) (.Constant (.str (stKey 1)) j p2) p3) e1 p4] e2 pos) (sStPut i m1 m2) := by
  refine L2.PS.imp (ps_asg h2.fz (pg_sub (pe_dget hu (pe_var hN hv hd hcd) pe_str hn) h1.fz set_list ha) hs hw ht) fun D σ H ⟨B, As, F, G, t, R, q⟩ => ?_
  unfold sStPut at q
  split at q
  · rename_i eG
    refine ⟨As, F, G, t, R.rel, bindSE R q fun As1 F1 H1 v1 r1 t1 er g1 R1 x1 fr p1 => ?_⟩
    obtain ⟨st1, d, c, l, e3, e4, n1, n2, n3, ev2, k1, k2, k3⟩ := slot_s R1.rel eG
    refine ⟨.ref d, ev2, d, _, rfl, dget_st k1 1, As1, F1, G, t1, R1.rel, bindSE R1 p1 fun As2 F2 H2 v2 r2 t2 er2 g2 R2 x2 fr2 p2 => ?_⟩
    clear er fr er2 fr2
    replace x1 := x1.mono g2
    split at p2
    · rename_i z y st2
      obtain ⟨st3, e5, e6, _, _, _, _, w1, w2, w3⟩ := slot_s2 g2 e4 R2.rel eG
      cases e5
      cases x1
      cases x2
      cases en : ixN st2.lefts.length y with
      | none => rw [en] at p2; exact p2.elim
      | some n =>
        rw [en] at p2
        refine ⟨l, _, y, n, rfl, rfl, w3, by rw [List.length_map]; exact en, ?_⟩
        have em : (st2.lefts.map V.int).set n (V.int z) = (st2.lefts.set n z).map V.int := by rw [List.map_set]
        rw [em]
        obtain ⟨g, s'⟩ := st_write (t' := some { st2 with lefts := st2.lefts.set n z }) (p := l) (o := .lst ((st2.lefts.set n z).map V.int)) R2.rel.st R2.rel.sub (by rw [e6]; simp)
          ⟨tab_upd R2.rel.st.ok.1 (not_tab R2.rel.st.ok.1 (fun ps z => by rw [w3] at z; cases z)) (lst_code w3), d, c, l, e6, n1, n2, n3, by rw [upd_ne n2]; exact w1, by rw [upd_ne n3]; exact w2, upd_same⟩
        exact p2 As2 F2 σ _ (R2.mono g s') (Same.refl _)
    · exact p2.elim
  · exact q.elim
end
end DL
end

section
set_option Elab.async false
set_option linter.all false
set_option maxRecDepth 100000
set_option maxHeartbeats 4000000
namespace DL
open PySem PySem.Spec PyProof.Rows L2
variable [Tbs]

/-! ### a new state -/
/-- the reading of return {'cells': (slot i), 'lefts': m, 'at': 0} -/
def tMkSt (P : Pm) (i : Nat) (m : EM) : TS := fun D σ H => ∃ B F G cs ls, RelS P B tabA F G none σ H ∧ G[i]? = some (.l (cs.map .int)) ∧ m (G.set i (.d (.list (cs.map .int)))) none = .ok (.l (ls.map .int)) none ∧
  ∀ As' F' H' v, Grow tabA B.F B.H As' F' H' → StF As' (some ⟨cs, ls, 0⟩) F' H' → (∃ d, v = .ref d ∧ sd As' = some d) → D.rt v H'
theorem key3 {p c l : Addr} : mergeK [] [((.inr "cells" : Key), V.ref c), (.inr "lefts", .ref l), (.inr "at", .int 0)] = [(.inr "cells", .ref c), (.inr "lefts", .ref l), (.inr "at", .int 0)] := by
  with_unfolding_all rfl
theorem ps_mkSt {X : Cx} {P : Pm} {i : Nat} {x : Str} {e : Expr} {m : EM} {j1 j2 j3 j4 : Nat} {p0 p1 p2 p3 p4 p5 pos : Pos} (hN : X.N[i]? = some x) (hv : Vis X.env.scope x) (hd : (x == ("__debug__" : Str)) = false) (hcd : (x == ("__classdict__" : Str)) = false) (he : SE X P e m) :
    PS X (.Return (some (.Dict [some (.Constant (.str "cells") j1 p1), some (.Constant (.str "lefts") j2 p2), some (.Constant (.str "at") j3 p3)] [.Name x p0, e, .Constant (.int 0) j4 p4] p5)) pos) (tMkSt P i m) := by
  refine L2.PS.imp (ps_ret (pe_disp (pps_cons pe_str (pe_var hN hv hd hcd) (pps_cons pe_str he (pps_cons pe_str pe_int pps_nil))) rfl rfl (by simp) (Nat.le_of_ble_eq_true rfl))) fun D σ H ⟨B, F, G, cs, ls, R, eG, em, fin⟩ => ?_
  intro p n
  obtain ⟨⟨g0, s0⟩, _⟩ := alloc (o := .dK []) R.rel.st R.rel.sub n
  have R0 := R.mono g0 s0
  obtain ⟨c, vs, ec, hc, fc, hva, kF, R1⟩ := R0.frz eG
  have evs := ints_dp hva
  subst evs
  have pc : p ≠ c := fun z => by rw [← z, upd_same] at hc; cases hc
  have cB : B.H c = none := R.own i _ c eG ec
  refine ⟨_, ec, tabA, upd F c (.lst (cs.map V.int)), _, none, R1.rel, ?_⟩
  rw [em]
  intro As2 F2 H2 v2 g2 s2 ov fr
  obtain ⟨l, ws, e2, lA, fl, hl, hda⟩ := ov
  obtain ⟨l', e2', nl⟩ := fr
  subst e2
  cases e2'
  have ews := ints_dp hda
  subst ews
  have A2 : As2 = tabA := s2.ok.2
  subst A2
  have nT : ∀ b ∈ tabA, ∃ ps, H2 b = some (.tbl ps) := tab_there s2.ok.1
  have nt0 : ∀ b ∈ tabA, H b ≠ none := fun b hb => R.rel.st.ok.there b hb
  have nt1 : ∀ b, H b = none → b ∉ tabA := fun b n hb => nt0 b hb n
  have pl : p ≠ l := fun z => by rw [← z, upd_same] at nl; cases nl
  have cl : c ≠ l := fun z => by rw [← z] at nl; rw [nl] at hc; cases hc
  have hp2 : H2 p = some (.dK []) := g2.hh p _ (nt1 p n) upd_same
  have cT : c ∉ tabA := fun z => by
    obtain ⟨ps, e⟩ := tab_there (R0.rel.st.ok.1) c z
    rw [hc] at e; cases e
  have hc2 : H2 c = some (.lst (cs.map V.int)) := g2.hh c _ cT hc
  refine ⟨hp2, [((.inr "cells" : Key), V.ref c), (.inr "lefts", .ref l), (.inr "at", .int 0)], rfl, Nat.le_of_ble_eq_true rfl, ?_⟩
  have hpB : B.H p = none := by
    cases z : B.H p with
    | none => rfl
    | some o => exact absurd n (R.gr.dd p (by rw [z]; simp))
  have hlB : B.H l = none := by
    cases z : B.H l with
    | none => rfl
    | some o => exact absurd nl (g0.dd l (R.gr.dd l (by rw [z]; simp)))
  have fp : F p = none := R.rel.sub.free n
  have fl0 : F l = none := R.rel.sub.free (g0.nw nl)
  have kFH : Same F (upd H2 p (.dK (mergeK [] [((.inr "cells" : Key), V.ref c), (.inr "lefts", .ref l), (.inr "at", .int 0)]))) := fun b o z => by
    rw [upd_ne (ne_of_none z fp)]
    exact g2.fh b o (g2.ff b o (kF b o z))
  have gB := R.gr
  have BA : B.As = tabA := by
    rcases gB.ss with z | ⟨z, _⟩
    · exact z.symm
    · exact z
  rw [BA] at gB
  have tabs2 : LamX.Tabs Tbs.T (upd H2 p (.dK (mergeK [] [((.inr "cells" : Key), V.ref c), (.inr "lefts", .ref l), (.inr "at", .int 0)]))) := tab_upd s2.ok.1 (nt1 p n) (dK_code hp2)
  refine fin (tabA ++ [p, c, l]) F _ (.ref p) ⟨gB.ff, kFH, fun b o nb z => ?_, gB.nn, fun b z => ?_, .inr ⟨rfl, [p, c, l], rfl, fun q hq => ?_⟩⟩ ⟨⟨tabs2, p, c, l, rfl, pc, pl, cl, ?_, ?_, ?_⟩, fun q hq => ?_⟩ ⟨p, rfl, by simp [sd]⟩
  · have hb := gB.hh b o nb z
    rw [upd_ne (ne_of_none hb n)]
    exact g2.hh b o nb (g0.hh b o nb hb)
  · by_cases hb : b = p
    · rw [hb, upd_same]; simp
    · rw [upd_ne hb]; exact g2.dd b (g0.dd b (gB.dd b z))
  · simp at hq
    rcases hq with rfl | rfl | rfl
    · exact hpB
    · exact cB
    · exact hlB
  · rw [upd_same, key3 (p := p)]
  · rw [upd_ne (Ne.symm pc)]; exact hc2
  · rw [upd_ne (Ne.symm pl)]; exact hl
  · rcases List.mem_append.mp hq with hq | hq
    · exact R.rel.st.sf q hq
    · simp at hq
      rcases hq with rfl | rfl | rfl
      · exact fp
      · exact fc
      · exact fl0

/-! ### _law_begin -/
def great (c : Int) : Int := if (10 : Int) ^ 18 ≤ c then c else 0
def begSt (ns : List Int) : DS := ⟨if ns = [] then [0] else ns, (if ns = [] then [0] else ns).map great, 0⟩
def fBegin : FM := fun rs t => match rs, t with
  | [.d (.list ds)], none => (match dInts ds with
    | some ns => if ns.length ≤ 1000 then .ok .s (some (begSt ns)) else .stuck
    | none => .stuck)
  | _, _ => .stuck
def mBeg1 : EM := mIf (mCmpB fNe (mVar 0) (mLst mNil)) (mCallB fList (mCons (mVar 0) mNil)) (mLst (mCons (mC (.int 0)) mNil))
def mBeg2 (i : Nat) : EM := mLc (mSeq (mVar 1)) (.nm i) none (mIf (mCmpB (fRead fun a b => (gCmp (fun i j => decide (j ≤ i)) a b).map .bool) (mVar i) (mBin fPow (mC (.int 10)) (mC (.int 18)))) (mVar i) (mC (.int 0))) [i]
theorem lay_ints : ∀ ns : List Int, PyData.canLayAll0 (ns.map .int) = true ∧ PyData.depthAll (ns.map .int) = 0
  | [] => ⟨rfl, rfl⟩
  | n :: ns => by
    obtain ⟨a, b⟩ := lay_ints ns
    exact ⟨by simp [PyData.canLayAll0, PyData.canLay0, a], by simp [PyData.depthAll, PyData.depth, b]⟩
theorem shaped_ints (ns : List Int) : SeqAt.shaped (.list (ns.map .int)) = true := by
  obtain ⟨a, b⟩ := lay_ints ns
  simp [SeqAt.shaped, PyData.canLay0, PyData.depth, a, b]
theorem ne_empty (ns : List Int) : gEq (.list (ns.map .int)) (.list []) = some (decide (ns = [])) := by
  have h : gEq (.list (ns.map .int)) (.list []) = (if SeqAt.shaped (.list (ns.map .int)) && SeqAt.shaped (.list []) then some (PyData.eqv (.list (ns.map .int)) (.list [])) else none) := rfl
  rw [h, shaped_ints, show SeqAt.shaped (.list []) = true from by decide +kernel]
  cases ns with
  | nil => rfl
  | cons n ns => rfl
theorem beg1 (ns : List Int) (G : Gm) (t : Option DS) (e : G[0]? = some (.d (.list (ns.map .int)))) : mBeg1 G t = .ok (.l ((if ns = [] then [0] else ns).map .int)) t := by
  have v : mVar 0 G t = .ok (.d (.list (ns.map .int))) t := by unfold mVar; rw [e]
  have c : mCmpB fNe (mVar 0) (mLst mNil) G t = .ok (!decide (ns = [])) t := by
    unfold mCmpB mBin mLst mNil
    rw [v]
    simp only [Rs.fz, Rs.bind, Rv.fz, List.length_nil, Nat.zero_le, if_true, dats, Option.map, Rs.of, fNe, fRead, Rv.toD, Option.bind, ne_empty, Rv.bl]
  unfold mBeg1 mIf
  rw [c]
  by_cases h : ns = []
  · subst h; rfl
  · simp only [h, decide_false, Bool.not_false, Rs.bind, if_true, if_false, mCallB, mCons, mNil, v, Rs.fz, Rv.fz, fList, Rv.items, Option.map, Option.or, Rs.of]
/-- a comprehension whose elements change nothing -/
theorem lc_map {pt : Pt} {elt : EM} {G0 : Gm} {t : Option DS} (g : D → D) : ∀ (xs acc : List D), acc.length + xs.length ≤ 16777216 → (∀ x ∈ xs, ∃ G1, asg pt x G0 = some G1 ∧ (elt G1 t).fz = .ok (.d (g x)) t) →
    lcLoop pt none elt G0 xs acc t = .ok (.l (acc ++ xs.map g)) t
  | [], acc, _, _ => by simp [lcLoop]
  | x :: xs, acc, h, e => by
    obtain ⟨G1, e1, e2⟩ := e x List.mem_cons_self
    have h1 : acc.length < 16777216 := by simp at h; omega
    have go := lc_map g xs (acc ++ [g x]) (by simp at h ⊢; omega) fun y hy => e y (List.mem_cons_of_mem _ hy)
    unfold lcLoop
    rw [e1]
    show ((elt G1 t).fz.nox.bind fun y t => _) = _
    rw [e2]
    show (if acc.length < 16777216 then lcLoop pt none elt G0 xs (acc ++ [g x]) t else .stuck) = _
    rw [if_pos h1, go]
    simp
abbrev fGe : Rv → Rv → Option Rv := fRead fun a b => (gCmp (fun i j => decide (j ≤ i)) a b).map .bool
theorem elt2 (n : Int) (G : Gm) (t : Option DS) (e : G[2]? = some (.d (.int n))) : ((mIf (mCmpB fGe (mVar 2) (mBin fPow (mC (.int 10)) (mC (.int 18)))) (mVar 2) (mC (.int 0))) G t).fz = .ok (.d (.int (great n))) t := by
  have v : mVar 2 G t = .ok (.d (.int n)) t := by unfold mVar; rw [e]
  have p : mBin fPow (mC (.int 10)) (mC (.int 18)) G t = .ok (.d (.int (10 ^ 18))) t := rfl
  have c : mCmpB fGe (mVar 2) (mBin fPow (mC (.int 10)) (mC (.int 18))) G t = .ok (decide ((10 : Int) ^ 18 ≤ n)) t := by
    unfold mCmpB
    rw [show mBin fGe (mVar 2) (mBin fPow (mC (.int 10)) (mC (.int 18))) G t = .ok (.d (.bool (decide ((10 : Int) ^ 18 ≤ n)))) t from by
      unfold mBin
      rw [v]
      rfl]
    rfl
  unfold mIf
  rw [c]
  unfold great
  by_cases h : (10 : Int) ^ 18 ≤ n
  · rw [decide_eq_true h, if_pos h]
    show (mVar 2 G t).fz = _
    rw [v]; rfl
  · rw [decide_eq_false h, if_neg h]
    rfl
theorem loop2 (ns : List Int) (G : Gm) (t : Option DS) (h : ns.length ≤ 16777216) (l : G.length = 3) :
    lcLoop (.nm 2) none (mIf (mCmpB fGe (mVar 2) (mBin fPow (mC (.int 10)) (mC (.int 18)))) (mVar 2) (mC (.int 0))) G (ns.map .int) [] t = .ok (.l ((ns.map great).map .int)) t := by
  rw [lc_map (fun d => match d with | .int n => .int (great n) | _ => .none) (ns.map .int) [] (by simpa using h) fun x hx => ?_]
  · simp
  · obtain ⟨n, _, rfl⟩ := List.mem_map.mp hx
    refine ⟨G.set 2 (.d (.int n)), by simp [asg, setAll, l], elt2 n _ t ?_⟩
    rw [List.getElem?_set_self (by omega)]
theorem fnG_begin {P : Program} {w : World} {K : PySem.W.Frag} {mg : Str → Option Value} {base : Heap} {k : Nat} {f : Addr} {fd : FuncData} {x qual : Str} {params : Arguments} {body : List Stmt} {scope : Scope} {N : List Str} {z : Str}
    (F : FunD K x qual params body scope [] [] f fd) (S : FnScope N [z] scope) (hN : N.length = 3)
    (hb : ∀ {cdv : Value} {A : Around} {outer : List Env} {s : Shared} {H : Hp} {E : XK}, Room k (A.deeper (envOfC qual scope s.heap.objs.size f cdv)) → A.guards = some [] → CodeAt K f cdv →
      PSs (cxG P w K mg base N qual scope f cdv A outer s H E) body (tSeq (tsM (xP K mg E) (sSet 1 mBeg1)) (tMkSt (xP K mg E) 1 (mBeg2 2)))) : FnG P w K mg base (k + 1) f fd [z] (spM K mg 1 fBegin) := by
  refine fnG_of F S (spM_len (ps := [z])) fun {cdv A outer s H vs Q E} hr hg ca h => ⟨_, hb hr hg ca, ?_⟩
  obtain ⟨hl, As, F0, t, rs, k0, s0, hv, q⟩ := h
  unfold fBegin at q
  split at q
  · rename_i ds
    cases ed : dInts ds with
    | none => rw [ed] at q; exact q.elim
    | some ns =>
      rw [ed] at q
      have eds := dInts_some ed
      subst eds
      have q : PostE (xP K mg E) As F0 H [] Q (if ns.length ≤ 1000 then .ok .s (some (begSt ns)) else .stuck) := q
      by_cases hz : ns.length ≤ 1000
      · rw [if_pos hz] at q
        have A0 : As = tabA := s0.ok.2
        subst A0
        have R := rel_start (mg := mg) (N := N) (W := fun c d _ H => E c d H) (G := [.d (.list (ns.map .int))]) (by rw [hl, hN]; decide) k0 s0 hv rfl
        have eG : ([.d (.list (ns.map .int))] ++ List.replicate (N.length - 1) Sl.un) = [.d (.list (ns.map .int)), .un, .un] := by rw [hN]; rfl
        have eG' : ([.d (.list (ns.map .int))] ++ List.replicate (N.length - [Sl.d (.list (ns.map .int))].length) Sl.un) = [.d (.list (ns.map .int)), .un, .un] := eG
        rw [eG'] at R
        refine ⟨⟨tabA, F0, H⟩, tabA, F0, _, none, R, ?_⟩
        unfold sSet
        rw [beg1 ns _ _ rfl]
        intro As1 F1 σ1 H1 R1 _
        have A1 : As1 = tabA := R1.rel.st.ok.2
        subst A1
        refine ⟨⟨tabA, F0, H⟩, F1, _, if ns = [] then [0] else ns, (if ns = [] then [0] else ns).map great, R1, rfl, ?_, fun As' F' H' v g st hd => ?_⟩
        · have small : (if ns = [] then [0] else ns).length ≤ 16777216 := by
            by_cases h : ns = []
            · rw [if_pos h]; decide
            · rw [if_neg h]; omega
          have go := loop2 (if ns = [] then [0] else ns) [.d (.list (ns.map .int)), .d (.list ((if ns = [] then [0] else ns).map .int)), .un] none small rfl
          unfold mBeg2 mLc
          exact go
        · obtain ⟨d, e1, e2⟩ := hd
          exact q As' F' H' v g st ⟨d, e1, e2⟩ trivial
      · rw [if_neg hz] at q; exact q.elim
  · exact q.elim
end DL
end

section
set_option Elab.async false
set_option linter.all false
set_option maxRecDepth 100000
set_option maxHeartbeats 4000000
namespace DL
open PySem PySem.Spec PyProof.Rows L2
variable [Tbs]

/-! ### sum of a tuple -/
theorem sum_tup_raw {prog : Program} {w : World} {A : Around} {E : Value → Shared → Prop} {s : Shared} {l : Addr} {its : List Value} {ns : List Int} {Q : Value → Shared → Prop} (hh : A.handled = none) (hl : s.heap.IsTuple l its.toArray) (hi : IntsAre its ns)
    (h : ∀ h' tk t', (∀ b o, s.heap.get? b = some o → h'.get? b = some o) → Q (.int ns.sum t') { s with heap := h', toks := tk }) : wpAny (model prog w) A (call (.builtin "sum") [.ref l]) Q E s := by
  obtain ⟨xs, e⟩ := hi.allInts.items
  have hn : numsOf (intItems xs).toList = ns := by rw [← e]; exact hi.numsOf
  rw [nums_intItems] at hn
  rw [e] at hl
  refine PySem.W.ktm_sumG hh hl fun h' tk t' hk => ?_
  rw [preSum_eq, List.take_of_length_le (by simp), hn]
  exact h h' tk t' hk
theorem cr_sumA {X : Cx} (hc : X.calm = true) : CallR X (.builtin "sum") (rSumA X.K) := by
  intro pins s σ H vs us Q I r h
  obtain ⟨a, ns, rfl, hs, q⟩ := h
  rw [Vals.ref1 r]
  rcases hs with hs | hs
  · obtain ⟨its, rv, hl, _⟩ := I.list hs
    exact sum_raw (I.ok.hd hc) hl.isList rv.ints fun h' tk t' hk => ⟨.int _, H, I.kept hk, ⟨_, rfl⟩, q⟩
  · obtain ⟨its, rv, hl, _⟩ := I.tuple hs
    exact sum_tup_raw (I.ok.hd hc) hl rv.ints fun h' tk t' hk => ⟨.int _, H, I.kept hk, ⟨_, rfl⟩, q⟩

/-! ### what a body's context has -/
structure Ct (X : Cx) (P : Pm) (k : Nat) : Prop where
  hK : P.K = X.K
  hm : P.mg = X.mg
  r : Room k X.A
  g : X.A.guards = some []
  tk : Takes X P.W
  cm : X.calm = true
  ps : PassesOwn (model X.prog X.w) X.A X.env X.xe
  nd : X.N.Nodup
theorem takesNo {X : Cx} : Takes X (fun _ _ _ _ => False) := fun _ _ x => by
  obtain ⟨_, _, _, _, _, _, _, _, _, _, _, _, _, _, _, _, no⟩ := x
  exact no.elim
theorem Ct.blk {X : Cx} {P : Pm} {k : Nat} (c : Ct X P k) (s : Shared) (H : Hp) (scope : Scope) (cenv : Env) (fp : List Addr) : Ct (X.blk s H scope cenv fp) P.calm k :=
  ⟨c.hK, c.hm, c.r, c.g, takesNo, c.cm, PassesOwn.never, c.nd⟩
theorem Ct.tr {X : Cx} {P : Pm} {k : Nat} (c : Ct X P k) {W : WX} {pn : List (Addr × Obj)} {xe : Value → Shared → Prop} (tk : Takes (X.tr pn xe) W) (ps : PassesOwn (model X.prog X.w) X.A X.env xe) : Ct (X.tr pn xe) (P.wi W) k :=
  ⟨c.hK, c.hm, c.r, c.g, tk, c.cm, ps, c.nd⟩
theorem ct_body {P : Program} {w : World} {K : PySem.W.Frag} {mg : Str → Option Value} {base : Heap} {k : Nat} {N ps : List Str} {qual : Str} {scope : Scope} {f : Addr} {cdv : Value} {A : Around} {outer : List Env} {s : Shared} {H : Hp} {E : XK} (S : FnScope N ps scope)
    (hr : Room k (A.deeper (envOfC qual scope s.heap.objs.size f cdv))) (hg : A.guards = some []) : Ct (cxG P w K mg base N qual scope f cdv A outer s H E) (xP K mg E) k :=
  ⟨rfl, rfl, hr, hg, L2.takes_of rfl rfl rfl rfl, rfl, passes_of rfl, S.nd⟩
theorem Ct.u1 {X : Cx} {P : Pm} {k : Nat} (c : Ct X P k) : X.A.units + 1 < cLine := by have := c.r.un; omega
theorem Ct.u64 {X : Cx} {P : Pm} {k : Nat} (c : Ct X P k) : X.A.units + 64 < cLine := by have := c.r.un; omega
theorem Ct.u65 {X : Cx} {P : Pm} {k : Nat} (c : Ct X P k) : X.A.units + 65 < cLine := by have := c.r.un; omega
theorem Ct.u70 {X : Cx} {P : Pm} {k : Nat} (c : Ct X P k) : X.A.units + 70 < cLine := by have := c.r.un; omega

/-! ### the rules, short -/
def one : AM → AM := id
section
variable {X : Cx} {P : Pm} {k : Nat} {a b d : Expr} {ma mb md : EM} {ta tb : BM} {pos p p2 : Pos} (c : Ct X P k)
include c
theorem x_v (i : Nat) {x : Str} (hv : Vis X.env.scope x) (hN : X.N[i]? = some x := by rfl) (hd : (x == ("__debug__" : Str)) = false := by decide) (hcd : (x == ("__classdict__" : Str)) = false := by decide) : SE X P (.Name x pos) (mVar i) := se_var hN hv hd hcd
theorem x_gi {x : Str} {i : Int} (hm : ∃ t, X.mg x = some (.int i t)) (hg : Gl X x := by rfl) (hd : (x == ("__debug__" : Str)) = false := by decide) : SE X P (.Name x pos) (mC (.int i)) := by
  obtain ⟨t, h⟩ := hm
  exact se_glob hg h (v := .int i) ⟨t, rfl⟩ (fun F => .int i) hd
theorem x_gs {x y : Str} (hm : ∃ t, X.mg x = some (.str y t)) (hg : Gl X x := by rfl) (hd : (x == ("__debug__" : Str)) = false := by decide) : SE X P (.Name x pos) (mC (.str y)) := by
  obtain ⟨t, h⟩ := hm
  exact se_glob hg h (v := .str y) ⟨t, rfl⟩ (fun F => .str y) hd
theorem x_add (ha : SE X P a ma) (hb : SE X P b mb) : SE X P (.BinOp a .Add b pos) (mBin fAdd ma mb) := se_bin op_addAll (by rw [c.hK]; exact opd_addAll) ha hb
theorem x_sub (ha : SE X P a ma) (hb : SE X P b mb) : SE X P (.BinOp a .Sub b pos) (mBin fSub ma mb) := se_bin op_sub opd_sub ha hb
theorem x_mul (ha : SE X P a ma) (hb : SE X P b mb) : SE X P (.BinOp a .Mult b pos) (mBin fMul ma mb) := se_bin op_mulW opd_mul ha hb
theorem x_div (ha : SE X P a ma) (hb : SE X P b mb) : SE X P (.BinOp a .FloorDiv b pos) (mBin fDiv ma mb) := se_bin op_fdivN opd_div ha hb
theorem x_mod (ha : SE X P a ma) (hb : SE X P b mb) : SE X P (.BinOp a .Mod b pos) (mBin fMod ma mb) := se_bin op_modN opd_mod ha hb
theorem x_pow (ha : SE X P a ma) (hb : SE X P b mb) : SE X P (.BinOp a .Pow b pos) (mBin fPow ma mb) := se_bin op_pow opd_pow ha hb
end
abbrev fCm (p : Int → Int → Bool) : Rv → Rv → Option Rv := fRead fun a b => (gCmp p a b).map .bool
abbrev iLt : Int → Int → Bool := fun i j => decide (i < j)
abbrev iLe : Int → Int → Bool := fun i j => decide (i ≤ j)
abbrev iGt : Int → Int → Bool := fun i j => decide (j < i)
abbrev iGe : Int → Int → Bool := fun i j => decide (j ≤ i)
section
variable {X : Cx} {P : Pm} {k : Nat} {a b d : Expr} {ma mb md : EM} {ta tb : BM} {pos p p2 : Pos} (c : Ct X P k)
include c
theorem x_eq (ha : SE X P a ma) (hb : SE X P b mb) : SE X P (.Compare a [.Eq] [b] pos) (mBin fEq ma mb) := se_cmp (op_eqAll c.u64) (by rw [c.hK]; exact opd_eq) ha hb (nomark b)
theorem x_ne (ha : SE X P a ma) (hb : SE X P b mb) : SE X P (.Compare a [.NotEq] [b] pos) (mBin fNe ma mb) := se_cmp (op_neAll c.u64) (by rw [c.hK]; exact opd_ne) ha hb (nomark b)
theorem x_lt (ha : SE X P a ma) (hb : SE X P b mb) : SE X P (.Compare a [.Lt] [b] pos) (mBin (fCm iLt) ma mb) := se_cmp op_lt (opd_cmpI _) ha hb (nomark b)
theorem x_le (ha : SE X P a ma) (hb : SE X P b mb) : SE X P (.Compare a [.LtE] [b] pos) (mBin (fCm iLe) ma mb) := se_cmp op_le (opd_cmpI _) ha hb (nomark b)
theorem x_gt (ha : SE X P a ma) (hb : SE X P b mb) : SE X P (.Compare a [.Gt] [b] pos) (mBin (fCm iGt) ma mb) := se_cmp op_gt (opd_cmpI _) ha hb (nomark b)
theorem x_ge (ha : SE X P a ma) (hb : SE X P b mb) : SE X P (.Compare a [.GtE] [b] pos) (mBin (fCm iGe) ma mb) := se_cmp op_ge (opd_cmpI _) ha hb (nomark b)
theorem x_in (ha : SE X P a ma) (hb : SE X P b mb) (hm : behindInMarks .In b = false := by with_unfolding_all rfl) : SE X P (.Compare a [.In] [b] pos) (mBin fIn ma mb) := se_cmp (op_inAll c.u65) (by rw [c.hK]; exact opd_in) ha hb hm
theorem x_nin (ha : SE X P a ma) (hb : SE X P b mb) (hm : behindInMarks .NotIn b = false := by with_unfolding_all rfl) : SE X P (.Compare a [.NotIn] [b] pos) (mBin fNotIn ma mb) := se_cmp (op_notInAll c.u65) (by rw [c.hK]; exact opd_notIn) ha hb hm
theorem b_eq (ha : SE X P a ma) (hb : SE X P b mb) : SB X P (.Compare a [.Eq] [b] pos) (mCmpB fEq ma mb) := sb_cmp (op_eqAll c.u64) (by rw [c.hK]; exact opd_eq) ha hb (nomark b)
theorem b_ne (ha : SE X P a ma) (hb : SE X P b mb) : SB X P (.Compare a [.NotEq] [b] pos) (mCmpB fNe ma mb) := sb_cmp (op_neAll c.u64) (by rw [c.hK]; exact opd_ne) ha hb (nomark b)
theorem b_lt (ha : SE X P a ma) (hb : SE X P b mb) : SB X P (.Compare a [.Lt] [b] pos) (mCmpB (fCm iLt) ma mb) := sb_cmp op_lt (opd_cmpI _) ha hb (nomark b)
theorem b_le (ha : SE X P a ma) (hb : SE X P b mb) : SB X P (.Compare a [.LtE] [b] pos) (mCmpB (fCm iLe) ma mb) := sb_cmp op_le (opd_cmpI _) ha hb (nomark b)
theorem b_gt (ha : SE X P a ma) (hb : SE X P b mb) : SB X P (.Compare a [.Gt] [b] pos) (mCmpB (fCm iGt) ma mb) := sb_cmp op_gt (opd_cmpI _) ha hb (nomark b)
theorem b_ge (ha : SE X P a ma) (hb : SE X P b mb) : SB X P (.Compare a [.GtE] [b] pos) (mCmpB (fCm iGe) ma mb) := sb_cmp op_ge (opd_cmpI _) ha hb (nomark b)
theorem b_in (ha : SE X P a ma) (hb : SE X P b mb) (hm : behindInMarks .In b = false := by with_unfolding_all rfl) : SB X P (.Compare a [.In] [b] pos) (mCmpB fIn ma mb) := sb_cmp (op_inAll c.u65) (by rw [c.hK]; exact opd_in) ha hb hm
theorem b_nin (ha : SE X P a ma) (hb : SE X P b mb) (hm : behindInMarks .NotIn b = false := by with_unfolding_all rfl) : SB X P (.Compare a [.NotIn] [b] pos) (mCmpB fNotIn ma mb) := sb_cmp (op_notInAll c.u65) (by rw [c.hK]; exact opd_notIn) ha hb hm
/-- a ≤ b ≤ d -/
theorem x_lele (ha : SE X P a ma) (hb : SE X P b mb) (hd : SE X P d md) (hm : lastMarks [.LtE, .LtE] [b, d] = false := by with_unfolding_all rfl) : SE X P (.Compare a [.LtE, .LtE] [b, d] pos) (mChain (fCm iLe) (fCm iLe) ma mb md) :=
  se_chain op_le op_le (opd_cmpI _) (opd_cmpI _) ha hb hd (pe_chain op_le op_le ha.fz hb.fz hd.fz hm)
theorem b_lele (ha : SE X P a ma) (hb : SE X P b mb) (hd : SE X P d md) (hm : lastMarks [.LtE, .LtE] [b, d] = false := by with_unfolding_all rfl) : SB X P (.Compare a [.LtE, .LtE] [b, d] pos) (fun G t => (mChain (fCm iLe) (fCm iLe) ma mb md G t).bind fun x t => .of x.bl t) :=
  sb_chain (opd_cmpI _) (opd_cmpI _) (pt_chain op_le op_le ha.fz hb.fz hd.fz hm)
theorem b_tr (ha : SE X P a ma) (he : ∀ whole, isTrue a X.env whole = (do let v ← whole; standAt a.pos; holding [v] (truthy v)) := by intro _; rfl) : SB X P a (mTru ma) := sb_truth c.hK ha he
theorem x_not (ha : SE X P a ma) : SE X P (.UnaryOp .Not a pos) (mNot ma) := se_not c.hK ha
theorem x_and {rest : List Expr} (h : SE X P a ma) (h2 : SE X P (.BoolOp .And (b :: rest) pos) mb) : SE X P (.BoolOp .And (a :: b :: rest) pos) (mAnd ma mb) := se_and c.hK h h2
theorem x_or {rest : List Expr} (h : SE X P a ma) (h2 : SE X P (.BoolOp .Or (b :: rest) pos) mb) : SE X P (.BoolOp .Or (a :: b :: rest) pos) (mOr ma mb) := se_or c.hK h h2
theorem x_ix (ha : SE X P a ma) (hb : SE X P b mb) (hs : PlainIx b := by intro _ _; rfl) : SE X P (.Subscript a b pos) (mBin fIx ma mb) := se_ix c.hK ha hb hs
theorem x_sl {lo hi : Option Expr} {ml mh : Option EM} (ha : SE X P a ma) (hl : SO X P lo ml) (hh : SO X P hi mh) : SE X P (.Subscript a (.Slice lo hi none p2) pos) (mSl ma ml mh) := se_sl c.hK ha hl hh
theorem a_cons {es : List Expr} {m : AM} (ha : SE X P a ma) (hr : SA X P es m) (hs : starEach (a :: es) X.env = (false, eval a X.env) :: starEach es X.env := by rfl) : SA X P (a :: es) (mCons ma m) := sa_cons ha hr hs
end
section
variable {X : Cx} {P : Pm} {k : Nat} {a b d : Expr} {ma mb md : EM} {m : AM} {es : List Expr} {ta tb : BM} {pos p p2 p3 : Pos} (c : Ct X P k)
include c
theorem x_len (hm : X.mg "len" = none) (ha : SA X P (a :: es) m) (hg : Gl X "len" := by rfl) (he : starEach (a :: es) X.env = (false, eval a X.env) :: starEach es X.env := by rfl) (hpl : (backTo pos (starEach es X.env)).any (·.1) = false := by rfl) :
    SE X P (.Call (.Name "len" p) (a :: es) [] pos) (mCallB (f1 gLen) m) := se_callB (r := rLenA X.K) call_len (by rw [c.hK]; exact calld_len) hg hm boot_len ha (by decide) (by decide) he hpl
theorem x_sum (hm : X.mg "sum" = none) (ha : SA X P (a :: es) m) (hg : Gl X "sum" := by rfl) (he : starEach (a :: es) X.env = (false, eval a X.env) :: starEach es X.env := by rfl) (hpl : (backTo pos (starEach es X.env)).any (·.1) = false := by rfl) :
    SE X P (.Call (.Name "sum" p) (a :: es) [] pos) (mCallB (f1 gSum) m) := se_callB (r := rSumA X.K) (cr_sumA c.cm) (by rw [c.hK]; exact calld_sum) hg hm rfl ha (by decide) (by decide) he hpl
theorem x_abs (hm : X.mg "abs" = none) (ha : SA X P (a :: es) m) (hg : Gl X "abs" := by rfl) (he : starEach (a :: es) X.env = (false, eval a X.env) :: starEach es X.env := by rfl) (hpl : (backTo pos (starEach es X.env)).any (·.1) = false := by rfl) :
    SE X P (.Call (.Name "abs" p) (a :: es) [] pos) (mCallB (f1 gAbs) m) := se_callB (r := rAbs1) call_abs calld_abs hg hm rfl ha (by decide) (by decide) he hpl
theorem x_repr (hm : X.mg "repr" = none) (ha : SA X P (a :: es) m) (hg : Gl X "repr" := by rfl) (he : starEach (a :: es) X.env = (false, eval a X.env) :: starEach es X.env := by rfl) (hpl : (backTo pos (starEach es X.env)).any (·.1) = false := by rfl) :
    SE X P (.Call (.Name "repr" p) (a :: es) [] pos) (mCallB (f1 gRepr) m) := se_callB (r := rRepr X.K) (call_reprD c.g c.u70) (by rw [c.hK]; exact calld_repr) hg hm rfl ha (by decide) (by decide) he hpl
theorem x_max (hm : X.mg "max" = none) (ha : SA X P (a :: es) m) (hg : Gl X "max" := by rfl) (he : starEach (a :: es) X.env = (false, eval a X.env) :: starEach es X.env := by rfl) (hpl : (backTo pos (starEach es X.env)).any (·.1) = false := by rfl) :
    SE X P (.Call (.Name "max" p) (a :: es) [] pos) (mCallB (f2 gMax) m) := se_callB (r := rMax2) (call_max2 c.cm) calld_max2 hg hm rfl ha (by decide) (by decide) he hpl
theorem x_min (hm : X.mg "min" = none) (ha : SA X P (a :: es) m) (hg : Gl X "min" := by rfl) (he : starEach (a :: es) X.env = (false, eval a X.env) :: starEach es X.env := by rfl) (hpl : (backTo pos (starEach es X.env)).any (·.1) = false := by rfl) :
    SE X P (.Call (.Name "min" p) (a :: es) [] pos) (mCallB (f2 gMin) m) := se_callB (r := rMin2) (call_min2 c.cm) calld_min2 hg hm rfl ha (by decide) (by decide) he hpl
theorem x_int (hm : X.mg "int" = none) (ha : SA X P (a :: es) m) (hg : Gl X "int" := by rfl) (he : starEach (a :: es) X.env = (false, eval a X.env) :: starEach es X.env := by rfl) (hpl : (backTo pos (starEach es X.env)).any (·.1) = false := by rfl) :
    SE X P (.Call (.Name "int" p) (a :: es) [] pos) (mCallB (f1 gInt) m) := se_callTy (r := rInt1) call_int1 calld_int hg hm rfl ha (by decide) (by decide) he hpl
theorem x_tuple (hm : X.mg "tuple" = none) (ha : SA X P (a :: es) m) (hg : Gl X "tuple" := by rfl) (he : starEach (a :: es) X.env = (false, eval a X.env) :: starEach es X.env := by rfl) (hpl : (backTo pos (starEach es X.env)).any (·.1) = false := by rfl) :
    SE X P (.Call (.Name "tuple" p) (a :: es) [] pos) (mCallB fTuple m) := se_callTy (r := rTupleOf X.K) call_tuple_of (by rw [c.hK]; exact calld_tuple) hg hm rfl ha (by decide) (by decide) he hpl
theorem x_list (hm : X.mg "list" = none) (ha : SA X P (a :: es) m) (hg : Gl X "list" := by rfl) (he : starEach (a :: es) X.env = (false, eval a X.env) :: starEach es X.env := by rfl) (hpl : (backTo pos (starEach es X.env)).any (·.1) = false := by rfl) :
    SE X P (.Call (.Name "list" p) (a :: es) [] pos) (mCallB fList m) := se_callTy (r := rListOf X.K) call_list_of (by rw [c.hK]; exact calld_list) hg hm rfl ha (by decide) (by decide) he hpl
theorem x_call {j n : Nat} {x : Str} {f : FM} {dvs : List D} (cl : CalM X.prog X.w X.K X.mg X.base j n x f dvs) (hk : j ≤ k) (ha : SA X P (a :: es) m) (hg : Gl X x := by rfl) (he : starEach (a :: es) X.env = (false, eval a X.env) :: starEach es X.env := by rfl)
    (hpl : (backTo pos (starEach es X.env)).any (·.1) = false := by rfl) (hdb : (x == ("__debug__" : Str)) = false := by decide) : SE X P (.Call (.Name x p) (a :: es) [] pos) (mCall n f dvs m) := se_call cl c.hK c.hm c.r hk c.g c.tk hg ha he hpl hdb
theorem x_call0 {j n : Nat} {x : Str} {f : FM} {dvs : List D} (cl : CalM X.prog X.w X.K X.mg X.base j n x f dvs) (hk : j ≤ k) (hg : Gl X x := by rfl) (hdb : (x == ("__debug__" : Str)) = false := by decide) : SE X P (.Call (.Name x p) [] [] pos) (mCall n f dvs mNil) :=
  se_call0 cl c.hK c.hm c.r hk c.g c.tk hg hdb
/-- isinstance(a, T) -/
theorem x_isi {x : Str} {T : String} (hm : X.mg "isinstance" = none) (hmT : X.mg x = none) (hvT : bootBuiltins x = some (.type T)) (ha : SE X P a ma) (hg : Gl X "isinstance" := by rfl) (hgT : Gl X x := by rfl) (hn : x ≠ "__name__" := by decide) (hd : (x == ("__debug__" : Str)) = false := by decide)
    (he : starEach [a, .Name x p2] X.env = (false, eval a X.env) :: starEach [.Name x p2] X.env := by rfl) (hpl : (backTo pos (starEach [.Name x p2] X.env)).any (·.1) = false := by rfl) :
    SE X P (.Call (.Name "isinstance" p) [a, .Name x p2] [] pos) (mIsi T ma) :=
  se_isi c.hK ha hg hm hgT hmT hvT hn hd (fun h => pe_callB call_isi hg hm rfl h (by decide) (by decide) he hpl) (fun h => pa_cons ha.fz (pa_cons h pa_nil) he)
theorem i_seq {tg e : Expr} {m : EM} (h : SE X P e m) : SI X P tg e (mSeq m) := si_seq c.hK h
theorem i_r1 {tg : Expr} (hm : X.mg "range" = none) (ha : SE X P a ma) (hg : Gl X "range" := by rfl) (hs : starEach [a] X.env = [(false, eval a X.env)] := by rfl) : SI X P tg (.Call (.Name "range" p) [a] [] pos) (mRange1 ma) := si_range1 hg hm ha hs
theorem i_r2 {tg : Expr} (hm : X.mg "range" = none) (ha : SE X P a ma) (hb : SE X P b mb) (hg : Gl X "range" := by rfl) (hs : starEach [a, b] X.env = [(false, eval a X.env), (false, eval b X.env)] := by rfl) (hs2 : starEach [b] X.env = [(false, eval b X.env)] := by rfl) :
    SI X P tg (.Call (.Name "range" p) [a, b] [] pos) (mRange2 ma mb) := si_range2 hg hm ha hb hs hs2
theorem i_zip {elts : List Expr} {kk : Nat} {tpos : Pos} (hm : X.mg "zip" = none) (ha : SE X P a ma) (hb : SE X P b mb) (hg : Gl X "zip" := by rfl) (hs : starEach [a, b] X.env = [(false, eval a X.env), (false, eval b X.env)] := by rfl) (hs2 : starEach [b] X.env = [(false, eval b X.env)] := by rfl)
    (hpl : (backTo pos (starEach [b] X.env)).any (·.1) = false := by rfl) : SI X P (.Tuple elts kk tpos) (.Call (.Name "zip" p) [a, b] [] pos) (mZip ma mb) := si_zip c.hK hg hm ha hb hs hs2 hpl
theorem g_nm (i : Nat) {x : Str} (hx : Loc X.env.scope x) (hf : X.fn x = true ∨ X.env.scope.names.lookup x = some .local) (hi : X.N[i]? = some x := by rfl) : SG X P (.Name x pos) (.nm i) := sg_name c.nd hi hx hf
theorem g_tup {is : List Nat} {kk : Nat} (h : Nms X es is) : SG X P (.Tuple es kk pos) (.tup is) := sg_tup c.hK c.cm c.nd h
/-- a comprehension -/
theorem x_lc {elt tg iter : Expr} {ifs : List Expr} {scope : Scope} {im : IM} {pt : Pt} {cs : Option BM} {me : EM} (own : List (Str × Nat)) (hi : SI X P tg iter im) (ok : BlkOk X.N X.env.scope scope own)
    (hb : ∀ (s : Shared) (H : Hp) (C : Addr) (cl : List (Str × Addr)) (fp : List Addr), Ct (X.blk s H scope (compEnvC scope cl C X.env) fp) P.calm k →
      SG (X.blk s H scope (compEnvC scope cl C X.env) fp) P.calm tg pt ∧ PTs (X.blk s H scope (compEnvC scope cl C X.env) fp) ifs (ttsM P.calm cs) ∧ SE (X.blk s H scope (compEnvC scope cl C X.env) fp) P.calm elt me)
    (hs : ∀ x, foldedSetIterable iter X.env x = pure x := by intro _; rfl) : SE X P (.ListComp elt [⟨tg, iter, ifs, 0⟩] scope pos) (mLc im pt cs me (own.map (·.2))) :=
  se_lc c.cm c.nd hi ok (fun s H C cl fp => (hb s H C cl fp (c.blk s H scope _ fp)).1) (fun s H C cl fp => (hb s H C cl fp (c.blk s H scope _ fp)).2.1) (fun s H C cl fp => (hb s H C cl fp (c.blk s H scope _ fp)).2.2) hs
theorem s_setLc (i : Nat) {y : Str} {py spos : Pos} {elt tg iter : Expr} {ifs : List Expr} {scope : Scope} {im : IM} {pt : Pt} {cs : Option BM} {me : EM} (own : List (Str × Nat)) (hyl : X.env.scope.names.lookup y = some .local) (hi : SI X P tg iter im) (ok : BlkOk X.N X.env.scope scope own)
    (hb : ∀ (s : Shared) (H : Hp) (C : Addr) (cl : List (Str × Addr)) (fp : List Addr), Ct (X.blk s H scope (compEnvC scope cl C X.env) fp) P.calm k →
      SG (X.blk s H scope (compEnvC scope cl C X.env) fp) P.calm tg pt ∧ PTs (X.blk s H scope (compEnvC scope cl C X.env) fp) ifs (ttsM P.calm cs) ∧ SE (X.blk s H scope (compEnvC scope cl C X.env) fp) P.calm elt me)
    (hy : X.N[i]? = some y := by rfl) (hs : ∀ x, foldedSetIterable iter X.env x = pure x := by intro _; rfl) (hsw : swapsWith (.ListComp elt [⟨tg, iter, ifs, 0⟩] scope pos) (some (.Name y py)) spos.line X.env = pure true := by rfl) :
    SS X P (.Assign [.Name y py] (.ListComp elt [⟨tg, iter, ifs, 0⟩] scope pos) spos) (sSet i (mLc im pt cs me (own.map (·.2)))) :=
  ss_setLc c.cm c.nd hy hyl hsw hi ok (fun s H C cl fp => (hb s H C cl fp (c.blk s H scope _ fp)).1) (fun s H C cl fp => (hb s H C cl fp (c.blk s H scope _ fp)).2.1) (fun s H C cl fp => (hb s H C cl fp (c.blk s H scope _ fp)).2.2) hs
/-! statements -/
theorem s_set (i : Nat) {x : Str} {p' : Pos} (hx : Loc X.env.scope x) (he : SE X P a ma) (hi : X.N[i]? = some x := by rfl) (hf : X.fn x = true ∨ X.env.scope.names.lookup x = some .local := by first | exact .inl rfl | exact .inr rfl)
    (hs : swapsWith a (some (.Name x p')) pos.line X.env = pure false := by rfl) : SS X P (.Assign [.Name x p'] a pos) (sSet i ma) := ss_set c.nd hi hx he hs hf
theorem s_tgt {tg : Expr} {pt : Pt} (hg : SG X P tg pt) (he : SE X P a ma) (hs : swapsWithSole [tg] a pos.line X.env = pure false := by rfl) (hw : swappedStores [tg] a X.env = pure none := by rfl) (h1 : (assignEach [tg] X.env).map (·.2) = [assign tg X.env] := by rfl) :
    SS X P (.Assign [tg] a pos) (sTgt pt ma) := ss_tgt he hg hs hw h1
theorem s_par (i j : Nat) {x y : Str} {px py pt : Pos} {kt k2 pt2} (hx : X.env.scope.names.lookup x = some .local) (hy : X.env.scope.names.lookup y = some .local) (ha : SE X P a ma) (hb : SE X P b mb) (hi : X.N[i]? = some x := by rfl) (hj : X.N[j]? = some y := by rfl) (hij : i ≠ j := by decide)
    (hs1 : starEach [a, b] X.env = [(false, eval a X.env), (false, eval b X.env)] := by rfl) (hs2 : starEach [b] X.env = [(false, eval b X.env)] := by rfl)
    (hw : swappedStores [.Tuple [.Name x px, .Name y py] kt pt] (.Tuple [a, b] k2 pt2) X.env = pure (some [x, y]) := by rfl) (hs : swapsWithSole [.Tuple [.Name x px, .Name y py] kt pt] (.Tuple [a, b] k2 pt2) pos.line X.env = pure false := by rfl) :
    SS X P (.Assign [.Tuple [.Name x px, .Name y py] kt pt] (.Tuple [a, b] k2 pt2) pos) (sPar i j ma mb) := ss_par c.cm c.nd hi hj hij hx hy ha hb hs1 hs2 hw hs
theorem s_for {tg iter : Expr} {body : List Stmt} {im : IM} {pt : Pt} {mm : SM} (hi : SI X P tg iter im) (hg : SG X P tg pt) (hb : SSs X P body mm) (hs : ∀ x, foldedSetIterable iter X.env x = pure x := by intro _; rfl) : SS X P (.For tg iter body [] pos) (sFor im pt mm) := ss_for c.ps c.cm hi hg hb hs
theorem s_while {body : List Stmt} {mc : BM} {mm : SM} (n : Nat) (hc : SB X P a mc) (hb : SSs X P body mm) : SS X P (.While a body [] pos) (whileL mc mm n) := ss_while n c.ps hc hb
theorem s_expr (he : SE X P a ma) (hs : swapsWith a none pos.line X.env = pure false := by rfl) : SS X P (.Expr a pos) (sExpr ma) := ss_expr he hs
theorem s_app (i : Nat) {x : Str} {npos apos cpos : Pos} (hv : Vis X.env.scope x) (ha : SE X P a ma) (hN : X.N[i]? = some x := by rfl) (hd : (x == ("__debug__" : Str)) = false := by decide) (hcd : (x == ("__classdict__" : Str)) = false := by decide)
    (h : PE X (.Name x npos) (tVar i) → PA X [a] (tCons (teM P fun G t => (ma G t).fz) tNil) → PE X (.Call (.Attribute (.Name x npos) "append" apos) [a] [] cpos) (tBM X.K "list" rAppend (tVar i) (tCons (teM P fun G t => (ma G t).fz) tNil)) := by
      exact fun h1 h2 => pe_bm PySem.F.plainAttrs_list PySem.F.slot_list_append PySem.F.type_list_append mt_append h1 h2)
    (hs : starEach [a] X.env = [(false, eval a X.env)] := by rfl) (hsw : swapsWith (.Call (.Attribute (.Name x npos) "append" apos) [a] [] cpos) none pos.line X.env = pure false := by rfl) :
    SS X P (.Expr (.Call (.Attribute (.Name x npos) "append" apos) [a] [] cpos) pos) (sApp i ma) := ss_app hN hv hd hcd ha h hs hsw
theorem s_put (i : Nat) {x : Str} {npos p' : Pos} (hv : Vis X.env.scope x) (hi : SE X P b mb) (ha : SE X P a ma) (hN : X.N[i]? = some x := by rfl) (hd : (x == ("__debug__" : Str)) = false := by decide) (hcd : (x == ("__classdict__" : Str)) = false := by decide)
    (h : PE X (.Name x npos) (tVar i) → PE X b (teM P fun G t => (mb G t).fz) → PE X a (teM P fun G t => (ma G t).fz) → PS X (.Assign [.Subscript (.Name x npos) b p'] a pos) (tAsg (teM P fun G t => (ma G t).fz) (gSub (tVar i) (teM P fun G t => (mb G t).fz) rSetL)) := by
      exact fun h1 h2 h3 => ps_asg h3 (pg_sub h1 h2 set_list)) :
    SS X P (.Assign [.Subscript (.Name x npos) b p'] a pos) (sPut i mb ma) := ss_put hN hv hd hcd hi ha h
theorem s_raise {j : Nat} {x : Str} {fl : List Str} {C : Addr} (R : ExcR X.prog X.w X.K X.mg X.base j x fl C) (hk : j + 1 ≤ k) (ha : SA X P (a :: es) m) (hg : Gl X x := by rfl) (he : starEach (a :: es) X.env = (false, eval a X.env) :: starEach es X.env := by rfl) (hpl : (backTo pos (starEach es X.env)).any (·.1) = false := by rfl)
    (hdb : (x == ("__debug__" : Str)) = false := by decide) : SS X P (.Raise (some (.Call (.Name x p) (a :: es) [] pos)) none p2) (sRaise x fl m) := ss_raise R c.hK c.hm c.cm c.r hk c.tk hg ha he hpl hdb
theorem s_try {tab : Tab} {body : List Stmt} {h₀ : ExceptHandler} {hds : List ExceptHandler} {l : List Hd} {mm : SM} (ht : TabOk X.K X.mg tab) (hb : ∀ (W : WX) (pn : List (Addr × Obj)) (xe : Value → Shared → Prop), Ct (X.tr pn xe) (P.wi W) k → SSs (X.tr pn xe) (P.wi W) body mm)
    (hh : HdOk X P (h₀ :: hds) l) (hs : X.stack = X.env :: X.outer := by rfl) (hf : X.env.frame = some X.env.locals := by rfl) : SS X P (.Try body (h₀ :: hds) [] [] pos) (sTry tab mm l) := ss_try c.hK c.hm ht hs hf c.nd c.tk (fun W pn xe tk ps => hb W pn xe (c.tr tk ps)) hh
end
/-! ### the looks at a comprehension's names -/
def blkB (N : List Str) (sc scope : Scope) (own : List (Str × Nat)) : Bool := decide (scope.kind = .function) && ((scope.names.all fun y => decide (scope.names.lookup y.1 = some y.2)) && ((own.all fun p => decide (N[p.2]? = some p.1)) &&
  ((scope.names.all fun y => !decide (y.2 = .free) || (decide (sc.names.lookup y.1 = some .cell) || decide (sc.names.lookup y.1 = some .free))) && (scope.names.all fun y => !(decide (y.2 = .local) || decide (y.2 = .cell)) || (decide (y.1 ∈ own.map (·.1)) || !decide (y.1 ∈ N))))))
theorem blk_of {N : List Str} {sc scope : Scope} {own : List (Str × Nat)} (h : blkB N sc scope own = true) : BlkOk N sc scope own := by
  unfold blkB at h
  simp only [Bool.and_eq_true, List.all_eq_true, decide_eq_true_eq, Bool.or_eq_true, Bool.not_eq_true', decide_eq_false_iff_not] at h
  obtain ⟨h1, h2, h3, h4, h5⟩ := h
  refine ⟨h1, h2, h3, fun y hy e => ?_, fun y hy e => ?_⟩
  · rcases h4 y hy with z | z
    · exact absurd e z
    · exact z
  · rcases h5 y hy with z | z
    · rw [Bool.or_eq_false_iff, decide_eq_false_iff_not, decide_eq_false_iff_not] at z
      exact absurd e (fun w => w.elim z.1 z.2)
    · exact z
end DL
end

section
set_option Elab.async false
set_option linter.all false
set_option maxRecDepth 100000
set_option maxHeartbeats 4000000
namespace DL
open PySem PySem.Spec PyProof.Rows L2
variable [Tbs]

abbrev mBl (m : EM) : BM := fun G t => (m G t).bind fun x t => .of x.bl t
abbrev sBreak : SM := fun G t => .bk G t
abbrev sCont : SM := fun G t => .ct G t
abbrev sRetN : SM := fun G t => .rt .none t
theorem lookup_ix {c : Str} {fl : List Str} : ∀ {es : List (Str × List Str)}, es.lookup c = some fl → ∃ i : Nat, es[i]? = some (c, fl)
  | (d, gl) :: es, h => by
    rw [List.lookup] at h
    cases e : c == d with
    | true =>
      rw [e] at h
      cases h
      rw [beq_iff_eq] at e
      exact ⟨0, by rw [e]; rfl⟩
    | false =>
      rw [e] at h
      obtain ⟨i, hi⟩ := lookup_ix h
      exact ⟨i + 1, hi⟩
theorem lookup_mem1 {c : Str} {fl : List Str} {es : List (Str × List Str)} (h : es.lookup c = some fl) : c ∈ es.map (·.1) := by
  obtain ⟨i, hi⟩ := lookup_ix h
  exact List.mem_map.mpr ⟨_, List.mem_of_getElem? hi, rfl⟩
/-! ### the text's facts, as the head tells them -/
structure TxG (fa : List He.Fa) (fn : List He.DefD) (es : List (Str × List Str)) (tab : Tab) (cs xs : List Str) (tf : List (He.Defn × Str)) (K : PySem.W.Frag) (mg : Str → Option Value) (base : Heap) : Prop where
  at_ : ∃ h : Heap, K.In h ∧ h.Ns mainGlobals mg
  c : He.SaysD fa fn K
  e : exB es tab cs xs K = true
  tt : Tbs.T = tf.map fun p => ((He.cT K p.1).2, p.2)
  tn : (tf.map fun p => (He.cT K p.1).2).Nodup
  tb : ∀ p ∈ tf, LamX.TabB base mg (He.cT K p.1).1 (He.cT K p.1).2
section
variable {fa : List He.Fa} {fn : List He.DefD} {es : List (Str × List Str)} {tab : Tab} {cs xs : List Str} {tf : List (He.Defn × Str)} {K : PySem.W.Frag} {mg : Str → Option Value} {bse : Heap} (T : TxG fa fn es tab cs xs tf K mg bse)
include T
/-- the table of a def that makes lambdas -/
theorem TxG.lam (i : Nat) {p : He.Defn} {q : Str} {cdv : Value} (ca : CodeAt K (He.fAd K p) cdv) (h : tf[i]? = some (p, q) := by rfl) : ∃ c P, cdv = .ref c ∧ LamX.TabB bse mg c P ∧ (P, q) ∈ Tbs.T ∧ ∀ z ∈ Tbs.T, z.1 = P → z.2 = q := by
  have m := List.mem_of_getElem? h
  have tb := T.tb _ m
  refine ⟨(He.cT K p).1, (He.cT K p).2, ?_, tb, ?_, fun z hz e => ?_⟩
  · obtain ⟨oc, od, fd, osl, lk, e, q', hc⟩ := ca
    obtain ⟨c, ec⟩ := He.codeIn_ref hc
    rw [ec]
    show Value.ref c = .ref (He.codeOf K p)
    rw [He.codeOf_eq lk (e.trans ec)]
  · rw [T.tt]
    exact List.mem_map.mpr ⟨_, m, rfl⟩
  · rw [T.tt] at hz
    obtain ⟨w, hw, rfl⟩ := List.mem_map.mp hz
    have nd := T.tn
    have key : ∀ {l : List (He.Defn × Str)}, (l.map fun p => (He.cT K p.1).2).Nodup → ∀ a ∈ l, ∀ b ∈ l, (He.cT K a.1).2 = (He.cT K b.1).2 → a = b := by
      intro l
      induction l with
      | nil => intro _ a ha; cases ha
      | cons x l ih =>
        intro nd a ha b hb e
        rw [List.map_cons, List.nodup_cons] at nd
        rcases List.mem_cons.mp ha with ea | ha2 <;> rcases List.mem_cons.mp hb with eb | hb2
        · rw [ea, eb]
        · subst ea
          exact absurd (show (He.cT K a.1).2 ∈ l.map (fun p => (He.cT K p.1).2) from List.mem_map.mpr ⟨b, hb2, e.symm⟩) nd.1
        · subst eb
          exact absurd (show (He.cT K b.1).2 ∈ l.map (fun p => (He.cT K p.1).2) from List.mem_map.mpr ⟨a, ha2, e⟩) nd.1
        · exact ih nd.2 a ha2 b hb2 e
    have := key nd w hw _ m e
    rw [this]
theorem TxG.glo (i : Nat) {x : Str} (h : fa[i]? = some (.glo x) := by rfl) : mg x = some (.ref (He.ga K x)) := by
  obtain ⟨_, X, G⟩ := T.at_
  exact He.glo_ok X G (T.c.fact i h)
theorem TxG.free (i : Nat) {x : Str} (h : fa[i]? = some (.free x) := by rfl) : mg x = none := by
  obtain ⟨_, X, G⟩ := T.at_
  exact He.free_ok X G (T.c.fact i h)
theorem TxG.int (i : Nat) {x : Str} {z : Int} (h : fa[i]? = some (.int x z) := by rfl) : ∃ t, mg x = some (.int z t) := by
  obtain ⟨_, X, G⟩ := T.at_
  exact He.int_ok X G (T.c.fact i h)
theorem TxG.str (i : Nat) {x z : Str} (h : fa[i]? = some (.str x z) := by rfl) : ∃ t, mg x = some (.str z t) := by
  obtain ⟨_, X, G⟩ := T.at_
  exact He.str_ok X G (T.c.fact i h)
theorem TxG.base (g : mg "UnitError" = some (.ref (He.ga K "UnitError"))) : BaseE K mg (He.ga K "UnitError") := by
  have h := T.e
  unfold exB at h
  exact bseB_ok (Bool.and_eq_true_iff.mp h).1 g
theorem TxG.err (i : Nat) {c : Str} {fl : List Str} (h : es[i]? = some (c, fl) := by rfl) : errB K (c, fl) = true := by
  have q := T.e
  unfold exB at q
  have q2 := (Bool.and_eq_true_iff.mp (Bool.and_eq_true_iff.mp q).2).1
  exact List.all_eq_true.mp q2 _ (List.mem_of_getElem? h)
theorem TxG.tabOk (hc : ∀ c x b, tab c x = some b → c ∈ cs ∧ x ∈ xs) (hg : ∀ c, c ∈ cs ∨ c ∈ xs → mg c = some (.ref (He.ga K c))) : TabOk K mg tab := by
  intro c x b C X' e1 e2 e3
  obtain ⟨m1, m2⟩ := hc c x b e1
  have q := T.e
  unfold exB at q
  have q2 := (Bool.and_eq_true_iff.mp (Bool.and_eq_true_iff.mp q).2).2
  unfold exmB at q2
  have q3 := List.all_eq_true.mp (List.all_eq_true.mp q2 c m1) x m2
  rw [e1] at q3
  have g1 := (hg c (.inl m1)).symm.trans e2
  have g2 := (hg x (.inr m2)).symm.trans e3
  cases g1
  cases g2
  exact of_decide_eq_true q3
end
/-- an own error's facts, apart -/
theorem err_parts {K : PySem.W.Frag} {c : Str} {fl : List Str} (h : errB K (c, fl) = true) : OexC K (He.ga K c) ∧ XfC K (He.ga K c) ∧ (∀ f ∈ fl, PySem.W.findIn K (.ref (He.ga K c)) f = some none) ∧
    PySem.W.findIn K (.ref (He.ga K c)) "__init__" = some (some (.ref (He.fAd K (c, some "__init__")))) ∧ PySem.W.typeIn K (.ref (He.fAd K (c, some "__init__"))) = some (.type "function") := by
  unfold errB at h
  simp only [Bool.and_eq_true, decide_eq_true_eq, List.all_eq_true] at h
  obtain ⟨h1, h2, h3, h4, h5⟩ := h
  exact ⟨oexB_ok h1, xfB_ok h2, h3, h4, h5⟩
/-- an own error of one field -/
theorem excR1 {P : Program} {w : World} {K : PySem.W.Frag} {mg : Str → Option Value} {base : Heap} {c qual f m : Str} {args : Arguments} {body : List Stmt} {scope : Scope} {fd : FuncData} {N : List Str} {p q : Str} (gC : mg c = some (.ref (He.ga K c))) (h : errB K (c, [f]) = true)
    (F : FunD K "__init__" qual args body scope [] [] (He.fAd K (c, some "__init__")) fd) (S : FnScope N [p, q] scope) (hN : N.length = 2)
    (hb : ∀ {cdv : Value} {A : Around} {outer : List Env} {s : Shared} {H : Hp} {E : XK}, PSs (cxOf C8.CX0 P w K mg base N qual scope (He.fAd K (c, some "__init__")) cdv A outer s H E) body (tI1 K f m))
    (bd : ∀ (kV doc pm : Value) (an : Option Addr) (cdv ct : Value) (us : List Value), us.length = [p, q].length → bindArgs (PySem.W.fnOf "__init__" qual args body scope .none kV doc pm an cdv ct) ⟨us, []⟩ = pure ([p, q].zip us)) :
    ExcR P w K mg base 1 c [f] (He.ga K c) := by
  obtain ⟨h1, h2, h3, h4, h5⟩ := err_parts h
  exact ⟨gC, h1, h2, h3, _, _, [p, q], spX1 K (He.ga K c) f, h4, h5, F.ok S (fun vs H Q E z => spX1_len z) (fun cdv A outer s H vs Q E _ z => ⟨_, hb, tI1_ok hN z⟩), F.bindsN bd, .inl ⟨f, rfl, rfl⟩⟩
theorem excR2 {P : Program} {w : World} {K : PySem.W.Frag} {mg : Str → Option Value} {base : Heap} {c qual f g m : Str} {args : Arguments} {body : List Stmt} {scope : Scope} {fd : FuncData} {N : List Str} {p q r : Str} (gC : mg c = some (.ref (He.ga K c))) (h : errB K (c, [f, g]) = true)
    (F : FunD K "__init__" qual args body scope [] [] (He.fAd K (c, some "__init__")) fd) (S : FnScope N [p, q, r] scope) (hN : N.length = 3)
    (hb : ∀ {cdv : Value} {A : Around} {outer : List Env} {s : Shared} {H : Hp} {E : XK}, PSs (cxOf C8.CX0 P w K mg base N qual scope (He.fAd K (c, some "__init__")) cdv A outer s H E) body (tI2 K f g m))
    (bd : ∀ (kV doc pm : Value) (an : Option Addr) (cdv ct : Value) (us : List Value), us.length = [p, q, r].length → bindArgs (PySem.W.fnOf "__init__" qual args body scope .none kV doc pm an cdv ct) ⟨us, []⟩ = pure ([p, q, r].zip us)) :
    ExcR P w K mg base 1 c [f, g] (He.ga K c) := by
  obtain ⟨h1, h2, h3, h4, h5⟩ := err_parts h
  exact ⟨gC, h1, h2, h3, _, _, [p, q, r], spX2 K (He.ga K c) f g, h4, h5, F.ok S (fun vs H Q E z => spX2_len z) (fun cdv A outer s H vs Q E _ z => ⟨_, hb, tI2_ok hN z⟩), F.bindsN bd, .inr ⟨f, g, rfl, rfl⟩⟩
theorem ExcR.kk {P : Program} {w : World} {K : PySem.W.Frag} {mg : Str → Option Value} {base : Heap} {c : Str} {fl : List Str} {C : Addr} (R : ExcR P w K mg base 1 c fl C) {k : Nat} (h : 1 ≤ k) : ExcR P w K mg base k c fl C := by
  obtain ⟨a, b, d, e, fI, fd, ps, sp, h1, h2, h3, h4, h5⟩ := R
  exact ⟨a, b, d, e, fI, fd, ps, sp, h1, h2, h3.mono h, h4, h5⟩
/-- a def by its body, to be called by its name -/
theorem calM {P : Program} {w : World} {K : PySem.W.Frag} {mg : Str → Option Value} {base : Heap} {k : Nat} {x qual : Str} {args : Arguments} {body : List Stmt} {scope : Scope} {N ps : List Str} {m : SM} (hd : ∃ fd, FunD K x qual args body scope [] [] (He.ga K x) fd) (hm : mg x = some (.ref (He.ga K x))) (S : FnScope N ps scope)
    (hps : ps.length ≤ N.length) (bd : ∀ (kV doc pm : Value) (an : Option Addr) (cdv ct : Value) (us : List Value), us.length = ps.length → bindArgs (PySem.W.fnOf x qual args body scope .none kV doc pm an cdv ct) ⟨us, []⟩ = pure (ps.zip us))
    (hb : ∀ {cdv : Value} {A : Around} {outer : List Env} {s : Shared} {H : Hp} {E : XK}, Ct (cxG P w K mg base N qual scope (He.ga K x) cdv A outer s H E) (xP K mg E) k → CodeAt K (He.ga K x) cdv → SSs (cxG P w K mg base N qual scope (He.ga K x) cdv A outer s H E) (xP K mg E) body m) :
    CalM P w K mg base (k + 1) ps.length x (runM m N.length) [] := by
  obtain ⟨fd, F⟩ := hd
  exact ⟨_, fd, ps, [], [], fnM F S hps fun hr hg ca => hb (ct_body S hr hg) ca, hm, F.kp, F.bindsN bd, .nil, by simp, rfl, fun F => .nil⟩
/-- _law_begin -/
theorem calBegin {P : Program} {w : World} {K : PySem.W.Frag} {mg : Str → Option Value} {base : Heap} {k : Nat} {x qual : Str} {args : Arguments} {body : List Stmt} {scope : Scope} {N : List Str} {z : Str} (hd : ∃ fd, FunD K x qual args body scope [] [] (He.ga K x) fd) (hm : mg x = some (.ref (He.ga K x))) (S : FnScope N [z] scope)
    (hN : N.length = 3) (bd : ∀ (kV doc pm : Value) (an : Option Addr) (cdv ct : Value) (us : List Value), us.length = [z].length → bindArgs (PySem.W.fnOf x qual args body scope .none kV doc pm an cdv ct) ⟨us, []⟩ = pure ([z].zip us))
    (hb : ∀ {cdv : Value} {A : Around} {outer : List Env} {s : Shared} {H : Hp} {E : XK}, Ct (cxG P w K mg base N qual scope (He.ga K x) cdv A outer s H E) (xP K mg E) k → CodeAt K (He.ga K x) cdv → PSs (cxG P w K mg base N qual scope (He.ga K x) cdv A outer s H E) body (tSeq (tsM (xP K mg E) (sSet 1 mBeg1)) (tMkSt (xP K mg E) 1 (mBeg2 2)))) :
    CalM P w K mg base (k + 1) 1 x fBegin [] := by
  obtain ⟨fd, F⟩ := hd
  exact ⟨_, fd, [z], [], [], fnG_begin F S hN fun hr hg ca => hb (ct_body S hr hg) ca, hm, F.kp, F.bindsN bd, .nil, rfl, rfl, fun F => .nil⟩
end DL
end

section
set_option Elab.async false
set_option linter.all false
set_option maxRecDepth 100000
set_option maxHeartbeats 4000000
namespace DL
open PySem PySem.Spec PyProof.Rows L2
variable [Tbs]

/-! ### keyword-only parameters -/
/-- the keyword-only defaults fill up -/
theorem calD {P : Program} {w : World} {K : PySem.W.Frag} {mg : Str → Option Value} {base : Heap} {k n : Nat} {x qual : Str} {args : Arguments} {body : List Stmt} {scope : Scope} {N ps : List Str} {m : SM} {kws : List (Str × V)} {dvs : List D} (hd : ∃ fd, FunD K x qual args body scope [] kws (He.ga K x) fd) (hm : mg x = some (.ref (He.ga K x)))
    (S : FnScope N ps scope) (hps : ps.length ≤ N.length) (hk : kws ≠ []) (hn : n + kws.length = ps.length) (hdv : ∀ F, DpAll K F (kws.map (·.2)) dvs)
    (bd : ∀ (D : Addr) (doc pm : Value) (an : Option Addr) (cdv ct : Value) (us ks : List Value), us.length = n → ks.length = kws.length → KwChain D ((kws.map (·.1)).zip ks) (bindArgs (PySem.W.fnOf x qual args body scope .none (.ref D) doc pm an cdv ct) ⟨us, []⟩) (ps.zip (us ++ ks)))
    (hb : ∀ {cdv : Value} {A : Around} {outer : List Env} {s : Shared} {H : Hp} {E : XK}, Ct (cxG P w K mg base N qual scope (He.ga K x) cdv A outer s H E) (xP K mg E) k → CodeAt K (He.ga K x) cdv → SSs (cxG P w K mg base N qual scope (He.ga K x) cdv A outer s H E) (xP K mg E) body m) :
    CalM P w K mg base (k + 1) ps.length x (runM m N.length) dvs := by
  obtain ⟨fd, F⟩ := hd
  obtain ⟨ds, v, b⟩ := F.binds0 (ps := ps) n hk hn bd
  exact ⟨_, fd, ps, ds, _, fnM F S hps fun hr hg ca => hb (ct_body S hr hg) ca, hm, F.kp, b, v, rfl, (hdv fun _ => none).length, hdv⟩
/-- a def called with all its keyword-only parameters told, in their order -/
structure CalK (P : Program) (w : World) (K : PySem.W.Frag) (mg : Str → Option Value) (base : Heap) (k n : Nat) (ks : List Str) (x : Str) (f : FM) : Prop where
  ex : ∃ (a : Addr) (fd : FuncData) (ps : List Str), FnG P w K mg base k a fd ps (spM K mg ps.length f) ∧ mg x = some (.ref a) ∧ PySem.W.keepIn K (.ref a) = true ∧ ps.length = n + ks.length ∧
    ∀ (s : Shared) (us ws : List Value), us.length = n → ws.length = ks.length → BindsTo s fd ⟨us, ks.zip ws⟩ (ps.zip (us ++ ws))
theorem calKw {P : Program} {w : World} {K : PySem.W.Frag} {mg : Str → Option Value} {base : Heap} {k n : Nat} {x qual : Str} {args : Arguments} {body : List Stmt} {scope : Scope} {N ps ks : List Str} {m : SM} {kws : List (Str × V)} (hd : ∃ fd, FunD K x qual args body scope [] kws (He.ga K x) fd) (hm : mg x = some (.ref (He.ga K x)))
    (S : FnScope N ps scope) (hps : ps.length ≤ N.length) (hn : ps.length = n + ks.length)
    (bd : ∀ (kV doc pm : Value) (an : Option Addr) (cdv ct : Value) (us ws : List Value), us.length = n → ws.length = ks.length → bindArgs (PySem.W.fnOf x qual args body scope .none kV doc pm an cdv ct) ⟨us, ks.zip ws⟩ = pure (ps.zip (us ++ ws)))
    (hb : ∀ {cdv : Value} {A : Around} {outer : List Env} {s : Shared} {H : Hp} {E : XK}, Ct (cxG P w K mg base N qual scope (He.ga K x) cdv A outer s H E) (xP K mg E) k → CodeAt K (He.ga K x) cdv → SSs (cxG P w K mg base N qual scope (He.ga K x) cdv A outer s H E) (xP K mg E) body m) :
    CalK P w K mg base (k + 1) n ks x (runM m N.length) := by
  obtain ⟨fd, F⟩ := hd
  obtain ⟨oc, od, dV, kV, doc, pm, an, cdv, ct, osl, rfl, _, _, hD, _⟩ := id F.ex
  have eD : dV = .none := by
    rcases hD with ⟨_, z⟩ | ⟨z, _⟩
    · exact z
    · exact absurd rfl z
  subst eD
  exact ⟨_, _, ps, fnM F S hps fun hr hg ca => hb (ct_body S hr hg) ca, hm, F.kp, hn, fun s us ws h1 h2 => .of_eq (bd kV doc pm an cdv ct us ws h1 h2)⟩
def mCallK (n j : Nat) (f : FM) (a z : AM) : EM := fun G t => (a G t).bind fun rs t => (z G t).bind fun ws t => if rs.length = n ∧ ws.length = j then f (rs ++ ws) t else .stuck
def SK (X : Cx) (P : Pm) (kws : List Keyword) (m : AM) : Prop := PK X kws (taM P m)
section
variable {X : Cx} {P : Pm} {k : Nat} {a : Expr} {ma : EM} {m z : AM} {es : List Expr} {kws : List Keyword} {pos p kpos : Pos} {nm : Option Str}
theorem sk_nil : SK X P [] mNil := by
  constructor
  rintro pos pins s σ H Q I ⟨As, F, G, t, R, q⟩
  exact pk_nil.run pos pins s σ H Q I (q As F H [] (.refl R.sub) R.st .nil)
theorem sk_cons (ha : SE X P a ma) (hr : SK X P kws z) : SK X P (⟨nm, a, kpos⟩ :: kws) (mCons ma z) := by
  constructor
  rintro pos pins s σ H Q I ⟨As, F, G, t, R, q⟩
  exact (pk_cons ha.fz hr).run pos pins s σ H Q I ⟨As, F, G, t, R, bindEA R q fun As1 F1 H1 v1 r1 t1 _ g1 R1 x1 p1 => ⟨As1, F1, G, t1, R1, bindAA R1 p1 fun As2 F2 H2 vs rs t2 _ g2 R2 x2 p2 => p2 As2 F2 H2 _ (.refl R2.sub) R2.st (.cons (x1.mono g2) x2)⟩⟩
theorem pair_mono {P : Pm} {As As1 : List Addr} {F F1 H H1 : Hp} (g : Grow As F H As1 F1 H1) : ∀ {vs : List V} {rs : List Rv}, Paired (VOk P.K As F H) vs rs → Paired (VOk P.K As1 F1 H1) vs rs
  | _, _, .nil => .nil
  | _, _, .cons h t => .cons (h.mono g) (pair_mono g t)
theorem x_callK (c : Ct X P k) {j n : Nat} {ks : List Str} {x : Str} {f : FM} (cl : CalK X.prog X.w X.K X.mg X.base j n ks x f) (hk : j ≤ k) (ha : SA X P (a :: es) m) (hkw : SK X P kws z) (hg : Gl X x := by rfl)
    (hall : (backToKw pos (keywordEach kws X.env)).all (·.1.isSome) = true := by rfl) (hks : (backToKw pos (keywordEach kws X.env)).filterMap (·.1) = ks := by rfl) (hdb : (x == ("__debug__" : Str)) = false := by decide)
    (he : starEach (a :: es) X.env = (false, eval a X.env) :: starEach es X.env := by rfl) (hpl : ((backTo pos (starEach (a :: es) X.env)).any (·.1) || (backToKw pos (keywordEach kws X.env)).any (·.1.isNone)) = false := by rfl) :
    SE X P (.Call (.Name x p) (a :: es) kws pos) (mCallK n ks.length f m z) := by
  obtain ⟨b, fd, ps, F1, m1, k1, l1, b1⟩ := cl.ex
  constructor
  rintro pins s σ H Q I ⟨As, F, G, t, R, q⟩
  refine wpAny_Call_Name_kw (ld_glob I hg m1 ?_ hdb)
  have Qa : ∃ Q1 : List V → Hp → Prop, taM P m σ H Q1 ∧ ∀ vs H1, Q1 vs H1 → ∃ As1 F1 t1 rs, Rel P.K P.xi As1 F1 G t1 σ H1 ∧ Paired (VOk P.K As1 F1 H1) vs rs ∧ PostE P As1 F1 H1 σ Q ((z G t1).bind fun ws t => if rs.length = n ∧ ws.length = ks.length then f (rs ++ ws) t else .stuck) :=
    ⟨fun vs H1 => ∃ As1 F1 t1 rs, Rel P.K P.xi As1 F1 G t1 σ H1 ∧ Paired (VOk P.K As1 F1 H1) vs rs ∧ PostE P As1 F1 H1 σ Q ((z G t1).bind fun ws t => if rs.length = n ∧ ws.length = ks.length then f (rs ++ ws) t else .stuck),
      ⟨As, F, G, t, R, bindAE R q fun As1 F1 H1 vs rs t1 _ g1 R1 x1 p1 => ⟨As1, F1, t1, rs, R1, x1, p1⟩⟩, fun _ _ h => h⟩
  obtain ⟨Q1, h1, h2⟩ := Qa
  refine PySem.W.callWith_KW (h₀ := X.base) I.ok.mod.kin k1 hall (thn (ha.run pos pins s σ H Q1 I h1) fun us s1 ⟨vs, H1, I1, r1, w1⟩ => ?_) hpl he
  obtain ⟨As1, F1', t1, rs, R1, x1, p1⟩ := h2 vs H1 w1
  have Qb : ∃ Q2 : List V → Hp → Prop, taM P z σ H1 Q2 ∧ ∀ zs H2, Q2 zs H2 → ∃ As2 F2 t2 ws, Rel P.K P.xi As2 F2 G t2 σ H2 ∧ Paired (VOk P.K As2 F2 H2) (vs ++ zs) (rs ++ ws) ∧ ws.length = zs.length ∧ PostE P As2 F2 H2 σ Q (if rs.length = n ∧ ws.length = ks.length then f (rs ++ ws) t2 else .stuck) :=
    ⟨fun zs H2 => ∃ As2 F2 t2 ws, Rel P.K P.xi As2 F2 G t2 σ H2 ∧ Paired (VOk P.K As2 F2 H2) (vs ++ zs) (rs ++ ws) ∧ ws.length = zs.length ∧ PostE P As2 F2 H2 σ Q (if rs.length = n ∧ ws.length = ks.length then f (rs ++ ws) t2 else .stuck),
      ⟨As1, F1', G, t1, R1, bindAE R1 p1 fun As2 F2 H2 zs ws t2 _ g2 R2 x2 p2 => ⟨As2, F2, t2, ws, R2, pair_app (pair_mono g2 x1) x2, x2.length.symm, p2⟩⟩, fun _ _ h => h⟩
  obtain ⟨Q2, h3, h4⟩ := Qb
  refine thn (hkw.run pos pins s1 σ H1 Q2 I1 h3) fun wv s2 ⟨zs, H2, I2, r2, w2⟩ => ⟨I2.kIn, ?_⟩
  obtain ⟨As2, F2, t2, ws, R2, x2, lz, p2⟩ := h4 zs H2 w2
  by_cases hl : rs.length = n ∧ ws.length = ks.length
  · rw [if_pos hl] at p2
    have lu : us.length = n := by rw [← r1.length, x1.length]; exact hl.1
    have lw : wv.length = ks.length := by rw [← r2.length, ← lz]; exact hl.2
    rw [hks]
    have lp : (vs ++ zs).length = ps.length := by rw [List.length_append, x1.length, ← lz, hl.1, hl.2, l1]
    have p2' : PostE P As2 F2 H2 σ Q (f (rs ++ ws ++ ([] : List PyData).map Rv.d) t2) := by
      rw [List.map_nil, List.append_nil]
      exact p2
    have sp := call_te (ps := ps) (wv := []) (dvs := []) (G := G) c.hK c.hm R2 (by rw [List.append_nil]; exact lp) x2 (.nil : DpAll P.K F2 [] []) p2'
    rw [List.append_nil] at sp
    refine wpAny_call (codeAny_mono (F1.run (c.r.mono hk) c.g I2.env0 (b1 s2 us wv lu lw) (r1.append r2) sp) fun res s' v => ?_)
    cases res with
    | error er => exact passAt c.tk σ pins H2 s2 er s' I2 v
    | ok fl =>
      cases fl with
      | ret u => exact I2.after v
      | next => exact v.elim
      | brk => exact v.elim
      | cont => exact v.elim
  · rw [if_neg hl] at p2; exact p2.elim
end
end DL
end

section
set_option Elab.async false
set_option linter.all false
set_option maxRecDepth 100000
set_option maxHeartbeats 4000000
namespace DL
open PySem PySem.Spec PyProof.Rows L2
variable [Tbs]

/-! ### list({row: True for row in rows}): rows without their repeats -/
abbrev tK (P : Program) (w : World) := tupleKind (mixKind P w)
abbrev Ents := List (List Key × Addr × Value)
/-- a dict whose keys are tuples, its entries told -/
def dtx (P : Program) (w : World) (D : Addr) (xs : Ents) : HO := .ext fun h => (D == sysModules) = false ∧ ∃ o es ep, h.get? D = some o ∧ o.ExactDict ∧ o.data = .dict es ep ∧ es.toList = xs.map (entryOfKey (tK P w)) ∧ (xs.map (·.1)).Nodup
theorem dtx_ok {P : Program} {w : World} {H : Hp} {h : Heap} {D : Addr} {xs : Ents} (lo : (D == sysModules) = false) (e : h.DictOfH (tK P w) D xs) : ObjOk P w H h D (dtx P w D xs) := by
  obtain ⟨o, es, ep, h1, h2, h3, h4, _, h6⟩ := e
  refine ⟨⟨lo, o, es, ep, h1, h2, h3, h4, h6⟩, ⟨o, h1⟩, fun g1 g2 z k => ?_⟩
  obtain ⟨l2, o', es', ep', k1, k2⟩ := z
  exact ⟨l2, o', es', ep', k _ k1, k2⟩
theorem dtx_ne {P : Program} {w : World} {D c : Addr} {xs : Ents} {q : Str} : dtx P w D xs ≠ LamX.CodeO c q := fun z => by
  have key : ∀ φ ψ : Heap → Prop, HO.ext φ = HO.ext ψ → ψ = φ := fun φ ψ e => by cases e; rfl
  let ob : Obj := { cls := .none, data := .fields #[.none, .str q 0] }
  let h0 : Heap := { objs := Array.replicate (c + 1) ob }
  have at_ : ∀ b o, h0.get? b = some o → o = ob := fun b o e => by
    have m : h0.objs[b]? = some o ∨ True := .inr trivial
    unfold Heap.get? at e
    cases hb : h0.objs[b]? with
    | none => rw [hb] at e; cases e
    | some o' =>
      have eo : o' = ob := by
        rw [Array.getElem?_replicate] at hb
        split at hb
        · exact (Option.some.inj hb).symm
        · cases hb
      rw [hb, eo] at e
      exact (Option.some.inj e).symm
  have e := key _ _ z
  have yes : ∃ (oc : Obj) (vs : Array Value) (t : Tok), h0.get? c = some oc ∧ oc.data = .fields vs ∧ vs[1]? = some (.str q t) := by
    refine ⟨ob, #[.none, .str q 0], 0, ?_, rfl, rfl⟩
    have hb : h0.objs[c]? = some ob := by
      rw [Array.getElem?_replicate, if_pos (Nat.lt_succ_self c)]
    unfold Heap.get?
    rw [hb]
  have no := cast (congrFun e h0) yes
  obtain ⟨_, o, es, ep, e1, _, e3, _⟩ := no
  rw [at_ D o e1] at e3
  cases e3
/-- the keys are tuples that stand -/
def KeysAt (K : PySem.W.Frag) (H : Hp) (xs : Ents) : Prop := ∀ x ∈ xs, SqT K H x.2.1 (x.1.map kV)
theorem KeysAt.mono {K : PySem.W.Frag} {H H' : Hp} {xs : Ents} (k : Same H H') (h : KeysAt K H xs) : KeysAt K H' xs := fun x hx => Same.seqT k (h x hx)
section
variable {X : Cx} {pins : List (Addr × Obj)} {σ : Sg} {H : Hp} {s : Shared}
theorem key_is (I : L2.Inv X pins σ H s) {a : Addr} {ks : List Key} (h : SqT X.K H a (ks.map kV)) : (tK X.prog X.w).is s.heap ks a := by
  obtain ⟨its, rv, ⟨o, ho, hc, n, hd⟩, _⟩ := I.tuple h
  exact ⟨o, its.toArray, n, ho, hc, hd, by simpa using items_are rv⟩
theorem dtx_at (I : L2.Inv X pins σ H s) {D : Addr} {xs : Ents} (e : H D = some (dtx X.prog X.w D xs)) (k : KeysAt X.K H xs) : (D == sysModules) = false ∧ s.heap.DictOfH (tK X.prog X.w) D xs := by
  have z : ObjOk X.prog X.w H s.heap D (dtx X.prog X.w D xs) := I.hok D _ e
  obtain ⟨⟨lo, o, es, ep, h1, h2, h3, h4, h6⟩, _⟩ := z
  exact ⟨lo, o, es, ep, h1, h2, h3, h4, fun x hx => key_is I (k x hx), h6⟩
theorem dtx_set {E : Value → Shared → Prop} {D a : Addr} {xs : Ents} {ks : List Key} {u r : Value} {Q : Unit → Shared → Prop} (hu : X.A.units + 1 < cLine) (I : L2.Inv X pins σ H s) (e : H D = some (dtx X.prog X.w D xs)) (k : KeysAt X.K H xs) (hz : xs.length < sizeLine) (ha : SqT X.K H a (ks.map kV)) (ry : RelV (.ref a) u)
    (h : ∀ s', L2.Inv X pins σ (upd H D (dtx X.prog X.w D (storedH xs ks a r))) s' → Q () s') : wpAny (model X.prog X.w) X.A (dictSet D u r) Q E s := by
  cases (show u = Value.ref a from ry)
  refine wpAny_dictSet_heap (knd := tK X.prog X.w) (show X.A.units < cLine from by omega) (key_is I ha) (dtx_at I e k).2 (fun h' m' sb => h _ ?_) (Nat.le_of_lt hz)
  have there : ∃ o, h'.get? D = some o := by
    obtain ⟨o, _, _, z, _⟩ := m'
    exact ⟨o, z⟩
  exact d_write I (by rw [e]; exact True.intro) sb there (dtx_ok (dtx_at I e k).1 m')
theorem dtx_new (I : L2.Inv X pins σ H s) : L2.Inv X pins σ (upd H s.heap.objs.size (dtx X.prog X.w s.heap.objs.size [])) { s with heap := s.heap.push { cls := .type "dict", data := .dict #[] } } :=
  I.laid (t' := s.toks) (a := s.heap.objs.size) (fun b o e => Heap.get?_push_of_some _ e) (Nat.le_refl _) (dtx_ok (beq_eq_false_iff_ne.mpr (Ne.symm (Nat.ne_of_lt I.big))) (Heap.DictOfH.new s.heap))
end
/-- the reading of the comprehension -/
def tDx (P : Program) (w : World) (K : PySem.W.Frag) (wi : TI) (g : TG) (tk tv : TE) (vs : List Nat) : TE := fun σ H Q => wi σ H fun J H1 => ∀ D, H1 D = none → ∃ W : Nat → Nat → Hp → Prop, (∃ m, W 0 m (upd H1 D (dtx P w D []))) ∧ ∀ i m H, W i m H →
  (J.stop i H ∧ Q (.ref D) H) ∨ (J.go i H ∧ ∃ Nx : Hp → Prop, (∀ H', Nx H' → ∃ m', m' < m ∧ W (i + 1) m' H') ∧ ∀ x H', J.yld i H x H' → g x (L2.wipe σ vs) H' fun σ2 H2 => L2.wipe σ2 vs = L2.wipe σ vs ∧
    tk σ2 H2 fun y H4 => tv σ2 H4 fun z H5 => ∃ xs a ks, y = .ref a ∧ H5 D = some (dtx P w D xs) ∧ KeysAt K H5 xs ∧ xs.length < sizeLine ∧ SqT K H5 a (ks.map kV) ∧ ∀ r, RelV z r → Nx (upd H5 D (dtx P w D (storedH xs ks a r))))
section
variable {X : Cx}
theorem pe_dx {kx vx tg iter : Expr} {scope : Scope} {own : List (Str × Nat)} {pos : Pos} {wi : TI} {g : TG} {tk tv : TE} (hu : X.A.units + 1 < cLine) (hc : X.calm = true) (hN : X.N.Nodup) (hi : PI X tg iter wi) (ok : BlkOk X.N X.env.scope scope own)
    (hg : ∀ (s : Shared) (H : Hp) (C : Addr) (cl : List (Str × Addr)) (fp : List Addr), PG (X.blk s H scope (compEnvC scope cl C X.env) fp) tg g)
    (hk : ∀ (s : Shared) (H : Hp) (C : Addr) (cl : List (Str × Addr)) (fp : List Addr), PE (X.blk s H scope (compEnvC scope cl C X.env) fp) kx tk)
    (hv : ∀ (s : Shared) (H : Hp) (C : Addr) (cl : List (Str × Addr)) (fp : List Addr), PE (X.blk s H scope (compEnvC scope cl C X.env) fp) vx tv) (hs : ∀ x, foldedSetIterable iter X.env x = pure x) :
    PE X (.DictComp kx vx [⟨tg, iter, [], 0⟩] scope pos) (tDx X.prog X.w X.K wi g tk tv (own.map (·.2))) := by
  constructor
  intro pins s σ H Q I h
  rw [arm_eval_DictComp]
  have cellsThere : ∀ y ∈ scope.names, y.2 = .free → ∃ c, X.env.cells.lookup y.1 = some c := fun y m e => (ok.free y m e).elim (fun z => I.ok.has _ (.inl z)) fun z => I.ok.has _ (.inr z)
  refine wpAny_comprehension_free (use := none) rfl hs (closure_ok cellsThere) ok.kind (fun y m e => by rw [ok.uniq y m, e]) (thn (hi.run pins s σ H _ I h) fun xv s1 hx => thn hx fun itv s2 walk => ?_)
  obtain ⟨it, fp, tn, J, H2, rfl, I2, T, at0, fpo, q⟩ := walk
  refine wpAny_newObj_type (newEnv_comp ?_)
  generalize eD : s2.heap.objs.size = D
  have freeD : H2 D = none := I2.hok.fresh (Nat.le_of_eq eD)
  obtain ⟨W, ⟨m0, w0⟩, turn⟩ := q D freeD
  generalize e3 : ({ s2 with heap := s2.heap.push { cls := .type "dict", data := .dict #[] } } : Shared) = s3
  have I3 : L2.Inv X pins σ (upd H2 D (dtx X.prog X.w D [])) s3 := by
    rw [← e3, ← eD]
    exact dtx_new I2
  have hp3 : s3.heap = s2.heap.push { cls := .type "dict", data := .dict #[] } := by rw [← e3]
  have old : ∀ b ∈ fp, b < s2.heap.objs.size := fun b hb => by
    obtain ⟨o, e, _⟩ := T.obj _ _ at0 b hb
    exact Heap.lt_size e
  have f3 : ∀ b ∈ fp, FpOk X pins (upd H2 D (dtx X.prog X.w D [])) b ∧ b < s3.heap.objs.size := fun b hb => by
    have lt := old b hb
    have ne : b ≠ D := by rw [← eD]; exact Nat.ne_of_lt lt
    refine ⟨⟨by rw [upd_ne ne]; exact (fpo b hb).1, (fpo b hb).2⟩, ?_⟩
    rw [hp3, Heap.size_push]
    exact Nat.lt_succ_of_lt lt
  have at3 : tn 0 s3.heap := T.keep _ _ _ at0 fun b _ o e => by rw [hp3]; exact Heap.get?_push_of_some _ e
  have I4 := block_start I3 ok hN f3
  have pg := hg s3 (upd H2 D (dtx X.prog X.w D [])) s3.heap.objs.size (cellsFrom (s3.heap.objs.size + 1) scope.names (cloFrom X.env.cells scope.names [])) fp
  have pk := hk s3 (upd H2 D (dtx X.prog X.w D [])) s3.heap.objs.size (cellsFrom (s3.heap.objs.size + 1) scope.names (cloFrom X.env.cells scope.names [])) fp
  have pv := hv s3 (upd H2 D (dtx X.prog X.w D [])) s3.heap.objs.size (cellsFrom (s3.heap.objs.size + 1) scope.names (cloFrom X.env.cells scope.names [])) fp
  show codeAny _ _ (.compStart (.DictComp kx vx [⟨tg, iter, [], 0⟩] scope pos) 0 (.ref it) (.ref D) (compEnvC scope (cellsFrom (s3.heap.objs.size + 1) scope.names (cloFrom X.env.cells scope.names [])) s3.heap.objs.size X.env)) (compPost (model X.prog X.w) X.A X.xe none (EP X pins σ Q) (.ref D) s3.heap.objs.size) { s3 with heap := pushCells (s3.heap.push { cls := .type "dict", data := .dict #[] }) scope.names }
  have clear0 : ∀ b ∈ fp, (upd H2 D (dtx X.prog X.w D [])) b = none := fun b hb => (f3 b hb).1.1
  generalize eE : compEnvC scope (cellsFrom (s3.heap.objs.size + 1) scope.names (cloFrom X.env.cells scope.names [])) s3.heap.objs.size X.env = blkE at I4 pg pk pv ⊢
  have locE : blkE.locals = s3.heap.objs.size := by subst eE; rfl
  generalize eH3 : upd H2 D (dtx X.prog X.w D []) = H3 at I3 I4 pg pk pv w0 clear0 f3
  generalize e4 : ({ s3 with heap := pushCells (s3.heap.push { cls := .type "dict", data := .dict #[] }) scope.names } : Shared) = s4 at I4 ⊢
  have at4 : tn 0 s4.heap := T.keep _ _ _ at3 fun b _ o e => by rw [← e4]; exact pushCells_keeps _ _ _ _ (Heap.get?_push_of_some _ e)
  have fpIn : ∀ {τ : Sg} {J' : Hp} {t : Shared}, L2.Inv (X.blk s3 H3 scope blkE fp) [] τ J' t → (∀ b ∈ fp, J' b = none) → ∀ b ∈ fp, FpOk (X.blk s3 H3 scope blkE fp) [] J' b := fun {τ J' t} Y n b hb =>
    ⟨n b hb, (Y.ok.exf b hb).1, Y.ok.exfs b hb, .inl hb, fun y c e => (Y.ok.exf b hb).2 y c e, fun p hp => absurd (show p ∈ ([] : List (Addr × Obj)) ++ [] from hp) (by simp)⟩
  have loop : codeAny (model X.prog X.w) X.A (.compLoop (.DictComp kx vx [⟨tg, iter, [], 0⟩] scope pos) 0 (.ref it) (.ref D) blkE) (compPost (model X.prog X.w) X.A X.xe none (EP X pins σ Q) (.ref D) s3.heap.objs.size) s4 := by
    refine compLoop_anyD (fun n t => ∃ i J', L2.Inv (X.blk s3 H3 scope blkE fp) [] (L2.wipe σ (own.map (·.2))) J' t ∧ tn i t.heap ∧ (∀ b ∈ fp, J' b = none) ∧ W i n J') ?_ m0 ⟨0, H3, I4, at4, clear0, w0⟩
    rintro n t5 ⟨i, J5, Y5, at5, n5, w5⟩
    rcases turn i n J5 w5 with ⟨stop, done⟩ | ⟨go, Nx, down, step⟩
    · refine thnF (T.done (X.blk s3 H3 scope blkE fp) rfl rfl rfl hc i [] t5 _ J5 (fun _ _ => False) Y5 (fpIn Y5 n5) at5 stop) fun r t6 ⟨er, Y6⟩ => ?_
      subst er
      have I7 : L2.Inv X pins σ J5 t6 := I3.call' (ch := fp) Y6.os Y6.base Y6.hok Y6.bare fun b hb => ⟨(f3 b hb).1.2.2.2.1, (f3 b hb).1.2.1, (f3 b hb).1.2.2.2.2.1, (f3 b hb).1.2.2.2.2.2⟩
      have freeL : J5 s3.heap.objs.size = none := by
        have z : J5 blkE.locals = none := Y6.free
        rw [locE] at z
        exact z
      obtain ⟨mm, hn, _⟩ := Y6.loc
      have hn : t6.heap.Ns blkE.locals mm := hn
      rw [locE] at hn
      obtain ⟨f0, f1, f2, f3', f4, f5⟩ := I3.fpOk (Nat.le_refl _) freeL
      exact ⟨mm, hn, fun h2 sb => ⟨.ref D, J5, I7.turned (t' := t6.toks) (fun b o hb e => (sb.2 b hb).trans e) freeL f1 f3' f4 f5, rfl, done⟩⟩
    · refine thnF (T.item (X.blk s3 H3 scope blkE fp) rfl rfl rfl hc i [] t5 _ J5 (fun _ _ => False) Y5 (fpIn Y5 n5) at5 go) fun r t6 ⟨u, er, w6⟩ => ?_
      subst er
      refine thnF w6 fun _ t7 ⟨x, J7, Y7, r7, y7, at7, n7⟩ => ?_
      have Y7' := Y7.pinned (fpIn Y7 n7) (T.obj _ _ at7)
      refine thnF (pg.run _ t7 _ J7 x u _ Y7' r7 (step x J7 y7)) fun _ t8 ⟨σ8, J8, Y8, ew, q8⟩ => ?_
      refine wpAny_tests_nil ?_
      show wpAny _ _ _ _ _ t8
      refine thnF (pk.run _ t8 σ8 J8 _ Y8 q8) fun zk t10 ⟨yk, J10, Y10, r10, q10⟩ => ?_
      refine thnF (pv.run _ t10 σ8 J10 _ Y10 q10) fun zv t11 ⟨yv, J11, Y11, r11, xs, a, ks, ek, hD11, kat, hz, sq, nx⟩ => ?_
      subst ek
      refine dtx_set (X := X.blk s3 H3 scope blkE fp) hu Y11 hD11 kat hz sq r10 fun t12 Y12 => ?_
      obtain ⟨m', lt, w'⟩ := down _ (nx zv r11)
      have pinned : ∀ b ∈ fp, ∀ o, t7.heap.get? b = some o → t12.heap.get? b = some o ∧ (upd J11 D (dtx X.prog X.w D (storedH xs ks a zv))) b = none := fun b hb o e =>
        ⟨(Y12.pin (b, o) (List.mem_append_right _ (List.mem_append_right _ (mem_pinsAt hb e)))).1, (Y12.pin (b, o) (List.mem_append_right _ (List.mem_append_right _ (mem_pinsAt hb e)))).2.1⟩
      have len : (L2.wipe σ (own.map (·.2))).length = σ8.length := by rw [← ew, wipe_length]
      refine ⟨m', lt, i + 1, _, (Y12.unpinned (pins := [])).weak len (fun j v e => ?_), T.keep _ _ _ at7 fun b hb o e => (pinned b hb o e).1, fun b hb => ?_, w'⟩
      · rw [← ew] at e
        exact (wipe_some e).1
      · obtain ⟨o, e, _⟩ := T.obj _ _ at7 b hb
        exact (pinned b hb o e).2
  exact codeAny_compStart_dict loop (T.self X.A 0 _ _ _ at4 loop)
end
/-- list(d) of such a dict -/
def rListX (P : Program) (w : World) (K : PySem.W.Frag) : List V → Hp → VK → Prop := fun vs H Q => ∃ D xs, vs = [.ref D] ∧ H D = some (dtx P w D xs) ∧ KeysAt K H xs ∧ xs.length ≤ 16777216 ∧ ∀ l, H l = none → Q (.ref l) (upd H l (.lst (xs.map fun x => V.ref x.2.1)))
theorem call_listX {X : Cx} (hc : X.calm = true) : CallR X (.type "list") (rListX X.prog X.w X.K) := by
  intro pins s σ H vs us Q I r h
  obtain ⟨D, xs, rfl, e, k, z, q⟩ := h
  obtain ⟨u, rfl, ru⟩ := vals1 r
  cases (show u = Value.ref D from ru)
  obtain ⟨lo, o, es, ep, h1, h2, h3, h4, h5, h6⟩ := dtx_at I e k
  have raw : s.heap.DictRaw D es ep := ⟨o, h1, h2, h3⟩
  have hes : es.size = xs.length := size_of_entries h4
  refine PySem.W.kdl_call (PySem.KdlSrc.rawDict (es := es) (ep := ep) lo) (I.ok.hd hc) raw (by rw [hes, sizeLine_eq]; exact z) fun h' tk acc c' keep at_ its => ?_
  refine ⟨.ref s.heap.objs.size, _, I.laid (t' := tk) keep (Nat.le_refl _) (show ObjOk X.prog X.w _ h' _ (.lst (xs.map fun x => V.ref x.2.1)) from ⟨by rw [List.length_map, sizeLine_eq]; exact z, acc.toList, c', ?_, by rw [Array.toArray_toList]; exact at_⟩), rfl, q _ (I.hok.fresh (Nat.le_refl _))⟩
  have el : acc.toList.length = acc.size := by simp
  refine vals_of_at (by rw [List.length_map, el, its.1, hes]) fun j x w' a1 a2 => ?_
  obtain ⟨hj, ew⟩ := its.2 j w' (by rw [← Array.getElem?_toList]; exact a2)
  rw [List.getElem?_map] at a1
  obtain ⟨y, ey, rfl⟩ := Option.map_eq_some_iff.mp a1
  have e2 := entry_at h4 j
  rw [ey, Array.getElem?_eq_getElem hj] at e2
  have e3 : es[j] = entryOfKey (tK X.prog X.w) y := Option.some.inj e2
  rw [ew, e3]
  rfl
/-- rows of ints -/
def dInts2 : List D → Option (List (List Int))
  | [] => some []
  | .tuple ds :: r => (dInts ds).bind fun ns => (dInts2 r).map (ns :: ·)
  | _ :: _ => none
def tupI (ns : List Int) : D := .tuple (ns.map .int)
theorem dInts2_some : ∀ {ds : List D} {nss : List (List Int)}, dInts2 ds = some nss → ds = nss.map tupI
  | [], nss, e => by cases e; rfl
  | .tuple xs :: r, nss, e => by
    unfold dInts2 at e
    obtain ⟨ns, e1, e2⟩ := Option.bind_eq_some_iff.mp e
    obtain ⟨ms, e3, rfl⟩ := Option.map_eq_some_iff.mp e2
    rw [dInts_some e1, dInts2_some e3]
    rfl
  | .none :: r, nss, e => by cases e
  | .bool _ :: r, nss, e => by cases e
  | .int _ :: r, nss, e => by cases e
  | .str _ :: r, nss, e => by cases e
  | .list _ :: r, nss, e => by cases e
  | .dict _ :: r, nss, e => by cases e
theorem dInts2_map : ∀ nss : List (List Int), dInts2 (nss.map tupI) = some nss
  | [] => rfl
  | ns :: nss => by
    show (dInts (ns.map .int)).bind (fun ns => (dInts2 (nss.map tupI)).map (ns :: ·)) = _
    rw [dInts_map, dInts2_map nss]
    rfl
/-- each row where it first stands -/
def ddI : List (List Int) → List (List Int) → List (List Int)
  | acc, [] => acc
  | acc, ns :: r => ddI (if ns ∈ acc then acc else acc ++ [ns]) r
theorem ddI_snoc : ∀ (l acc : List (List Int)) (ns : List Int), ddI acc (l ++ [ns]) = if ns ∈ ddI acc l then ddI acc l else ddI acc l ++ [ns]
  | [], acc, ns => rfl
  | m :: l, acc, ns => ddI_snoc l _ ns
theorem ddI_le : ∀ (l acc : List (List Int)), (ddI acc l).length ≤ acc.length + l.length
  | [], acc => by simp [ddI]
  | m :: l, acc => by
    have h := ddI_le l (if m ∈ acc then acc else acc ++ [m])
    unfold ddI
    split at h <;> split <;> simp_all <;> omega
def kk (ns : List Int) : List Key := ns.map Sum.inl
theorem kk_kV (ns : List Int) : (kk ns).map kV = ns.map V.int := by
  unfold kk
  rw [List.map_map]
  rfl
theorem kk_inj : ∀ {a b : List Int}, kk a = kk b → a = b
  | [], [], _ => rfl
  | x :: a, y :: b, h => by
    unfold kk at h
    rw [List.map_cons, List.map_cons] at h
    obtain ⟨e1, e2⟩ := List.cons.inj h
    rw [Sum.inl.inj e1, kk_inj e2]
  | [], _ :: _, h => by cases h
  | _ :: _, [], h => by cases h
theorem atKey_iff {xs : Ents} {k : List Key} : (atKey xs k).isSome = true ↔ k ∈ xs.map (·.1) := by
  unfold atKey
  rw [Option.isSome_map, List.find?_isSome]
  constructor
  · rintro ⟨x, hx, e⟩
    exact List.mem_map.mpr ⟨x, hx, of_decide_eq_true e⟩
  · intro m
    obtain ⟨x, hx, e⟩ := List.mem_map.mp m
    exact ⟨x, hx, decide_eq_true e⟩
theorem stored_keys {xs : Ents} {nss : List (List Int)} {ns : List Int} {a : Addr} {r : Value} (h : xs.map (·.1) = nss.map kk) : (storedH xs (kk ns) a r).map (·.1) = (if ns ∈ nss then nss else nss ++ [ns]).map kk := by
  have iff : (atKey xs (kk ns)).isSome = true ↔ ns ∈ nss := by
    rw [atKey_iff, h]
    constructor
    · intro m
      obtain ⟨b, hb, e⟩ := List.mem_map.mp m
      exact kk_inj e ▸ hb
    · exact fun z => List.mem_map.mpr ⟨ns, z, rfl⟩
  unfold storedH
  by_cases z : ns ∈ nss
  · rw [if_pos (iff.mpr z), if_pos z, ← h, List.map_map]
    congr 1
    funext x
    show (putAt (kk ns) r x).1 = x.1
    unfold putAt
    split <;> rfl
  · rw [if_neg (fun q => z (iff.mp q)), if_neg z, List.map_append, List.map_append, h]
    rfl
def mDd (im : IM) (i : Nat) : EM := fun G t => if i < G.length then (im G t).bind fun items t => match dInts2 items with
    | some nss => if nss.length < 16777216 then .ok (.l ((ddI [] nss).map tupI)) t else .stuck
    | none => .stuck
  else .stuck
theorem stored_mem {xs : Ents} {k : List Key} {a : Addr} {r : Value} {x : List Key × Addr × Value} (h : x ∈ storedH xs k a r) : (∃ y ∈ xs, y.1 = x.1 ∧ y.2.1 = x.2.1) ∨ (x.1 = k ∧ x.2.1 = a) := by
  unfold storedH at h
  split at h
  · obtain ⟨y, hy, rfl⟩ := List.mem_map.mp h
    refine .inl ⟨y, hy, ?_, ?_⟩ <;> (unfold putAt; split <;> rfl)
  · rcases List.mem_append.mp h with h | h
    · exact .inl ⟨x, h, rfl, rfl⟩
    · rw [List.mem_singleton] at h
      subst h
      exact .inr ⟨rfl, rfl⟩
theorem Grow.self {As : List Addr} {F0 H0 F H : Hp} {D : Addr} {o : HO} {t : Option DS} (g : Grow As F0 H0 As F H) (s : StF As t F H) (n0 : H0 D = none) (fD : F D = none) (nA : D ∉ As) (nc : ∀ c q, H D ≠ some (LamX.CodeO c q)) : Grow As F0 H0 As F (upd H D o) ∧ StF As t F (upd H D o) := by
  refine ⟨⟨g.ff, fun b u e => ?_, fun b u nb e => ?_, g.nn, fun b z => ?_, g.ss⟩, s.ok.upd nA nc, s.sf⟩
  · rw [upd_ne (ne_of_none e fD)]; exact g.fh b u e
  · rw [upd_ne (ne_of_none e n0)]; exact g.hh b u nb e
  · by_cases hb : b = D
    · rw [hb, upd_same]; simp
    · rw [upd_ne hb]; exact g.dd b z
theorem keys_data {K : PySem.W.Frag} {F : Hp} : ∀ {xs : Ents} {nss : List (List Int)}, xs.map (·.1) = nss.map kk → KeysAt K F xs → DpAll K F (xs.map fun x => V.ref x.2.1) (nss.map tupI)
  | [], [], _, _ => .nil
  | x :: xs, ns :: nss, h, k => by
    rw [List.map_cons, List.map_cons] at h
    obtain ⟨e1, e2⟩ := List.cons.inj h
    refine .cons (L2.Dp.tup ?_ (dp_ints ns)) (keys_data e2 fun y hy => k y (List.mem_cons_of_mem _ hy))
    have z := k x List.mem_cons_self
    rw [e1, kk_kV] at z
    exact z
  | [], _ :: _, h, _ => by cases h
  | _ :: _, [], h, _ => by cases h
theorem dd_te {P : Pm} {Pr : Program} {w : World} {im : IM} {i : Nat} {σ : Sg} {H : Hp} {Q : VK} (h : teM P (mDd im i) σ H Q) :
    tCB (rListX Pr w P.K) (tCons (tDx Pr w P.K (tiM P im) (tgM P.calm [i] (.nm i)) (teM P.calm (mVar i)) (tC (.bl true)) [i]) tNil) σ H Q := by
  obtain ⟨As, F, G, t, R, p⟩ := h
  unfold mDd at p
  by_cases hi : i < G.length
  · rw [if_pos hi] at p
    refine ⟨As, F, G, t, R, ?_⟩
    cases ei : im G t with
    | ex c fs t => rw [ei] at p; exact p
    | stuck => rw [ei] at p; exact p
    | ok items t1 =>
      rw [ei] at p
      intro As1 F1 H1 J g1 s1 wk D hD
      have p := PostE.re g1 p
      change PostE P As1 F1 H1 σ Q (match dInts2 items with
        | some nss => if nss.length < 16777216 then .ok (.l ((ddI [] nss).map tupI)) t1 else .stuck
        | none => .stuck) at p
      cases en : dInts2 items with
      | none => rw [en] at p; exact p.elim
      | some nss =>
        rw [en] at p
        by_cases hz : nss.length < 16777216
        · simp only [if_pos hz] at p
          have eitems := dInts2_some en
          have R1 := (R.mono g1 s1).wipe [i]
          have len0 : (wipeG G [i]).length = G.length := by simp [wipeG]
          have FD : F1 D = none := g1.fh.free hD
          obtain ⟨⟨g2, s2⟩, _⟩ := alloc (o := dtx Pr w D []) s1 g1.fh hD
          have nA1 : D ∉ As1 := fun z => s1.ok.there D z hD
          let Z : Nat → Hp → Prop := fun j H2 => j ≤ items.length ∧ ∃ F2 xs, Grow As1 F1 H1 As1 F2 H2 ∧ StF As1 t1 F2 H2 ∧ F2 D = none ∧ H2 D = some (dtx Pr w D xs) ∧ xs.map (·.1) = (ddI [] (nss.take j)).map kk ∧ KeysAt P.K F2 xs
          refine ⟨fun j m H2 => m = items.length - j ∧ Z j H2, ⟨_, rfl, Nat.zero_le _, F1, [], g2, s2, FD, upd_same, rfl, fun x hx => by cases hx⟩, ?_⟩
          rintro j m H2 ⟨rfl, hle, F2, xs, g, st, fD, hDx, ek, kat⟩
          obtain ⟨w1, w2⟩ := wk F2 H2 As1 t1 g.ff g.fh st j
          have lxs : xs.length ≤ j := by
            have e := congrArg List.length ek
            rw [List.length_map, List.length_map] at e
            rw [e]
            have q := ddI_le (nss.take j) []
            rw [List.length_nil, Nat.zero_add, List.length_take] at q
            omega
          have lit : items.length = nss.length := by rw [eitems, List.length_map]
          by_cases hlt : j < items.length
          · have hd : items[j]? = some items[j] := List.getElem?_eq_getElem hlt
            obtain ⟨go, yl⟩ := w1 _ hd
            refine .inr ⟨go, Z (j + 1), fun H' z => ⟨_, by omega, rfl, z⟩, fun x H3 y => ?_⟩
            obtain ⟨F3, g3, s3, d3⟩ := yl x H3 y
            have hnj : j < nss.length := by rw [← lit]; exact hlt
            have eij : items[j] = tupI nss[j] := by simp only [eitems, List.getElem_map]
            have g13 := g.trans g3
            have R3 : Rel P.K P.xi As1 F3 (wipeG G [i]) t1 (L2.wipe σ [i]) H3 := R1.mono g13 s3
            have ea : asg (.nm i) items[j] (wipeG G [i]) = some ((wipeG G [i]).set i (.d items[j])) := by
              show setAll [i] [items[j]] (wipeG G [i]) = _
              unfold setAll
              rw [if_pos (by rw [len0]; exact hi)]
              rfl
            refine ⟨As1, F3, _, t1, _, _, R3, d3, ea, fun σ' R' af => ⟨After.wipe af (fun a ha => ha), As1, F3, _, t1, R', ?_⟩⟩
            have ev : mVar i ((wipeG G [i]).set i (.d items[j])) t1 = .ok (.d items[j]) t1 := by
              unfold mVar
              rw [List.getElem?_set_self (by rw [len0]; exact hi)]
            show PostE P.calm As1 F3 H3 σ' _ (mVar i ((wipeG G [i]).set i (.d items[j])) t1)
            rw [ev]
            intro As5 F5 H5 v g5 s5 x5 _
            have A5 : As5 = As1 := by
              rcases g5.ss with z | ⟨z, l, e, _⟩
              · exact z
              · have o1 := s1.ok.2
                have o5 := s5.ok.2
                cases ht : t1 with
                | none =>
                  rw [ht] at o5
                  have o5 : As5 = tabA := o5
                  rw [o5, z]
                | some q =>
                  rw [ht] at o1
                  obtain ⟨d', c', l', e', _⟩ := o1
                  rw [z] at e'
                  have := congrArg List.length e'
                  simp at this
            subst A5
            have x5 : Dp P.K F5 v items[j] := x5
            rw [eij] at x5
            cases x5 with
            | @tup a vs ds sq al =>
              have evs := ints_dp al
              subst evs
              have g15 := g13.trans g5
              have fD5 : F5 D = none := (g3.trans g5).nn D fD (by rw [hDx]; simp)
              have hD5 : H5 D = some (dtx Pr w D xs) := (g3.trans g5).hh D _ nA1 hDx
              have kat5 : KeysAt P.K F5 xs := kat.mono (g3.trans g5).ff
              refine ⟨xs, a, kk nss[j], rfl, hD5, kat5.mono g5.fh, by rw [sizeLine_eq]; omega, by rw [kk_kV]; exact Same.seqT g5.fh sq, fun r hr => ?_⟩
              obtain ⟨g6, s6⟩ := Grow.self (o := dtx Pr w D (storedH xs (kk nss[j]) a r)) g15 s5 hD fD5 nA1 (fun c q z => by rw [hD5] at z; exact dtx_ne (Option.some.inj z))
              refine ⟨hlt, F5, _, g6, s6, fD5, upd_same, ?_, fun x hx => ?_⟩
              · rw [stored_keys ek, List.take_add_one, List.getElem?_eq_getElem hnj]
                show _ = (ddI [] (nss.take j ++ [nss[j]])).map kk
                rw [ddI_snoc]
              · rcases stored_mem hx with ⟨y, hy, e1, e2⟩ | ⟨e1, e2⟩
                · rw [← e1, ← e2]; exact kat5 y hy
                · rw [e1, e2, kk_kV]; exact sq
          · have hj : j = items.length := by omega
            refine .inl ⟨w2 hj, D, xs, rfl, hDx, kat.mono g.fh, by omega, fun l nl => ?_⟩
            obtain ⟨⟨g7, s7⟩, _⟩ := alloc (o := .lst (xs.map fun x => V.ref x.2.1)) st g.fh nl
            have et : nss.take j = nss := List.take_of_length_le (by omega)
            rw [et] at ek
            exact p As1 F2 _ (.ref l) (g.trans g7) s7 ⟨l, _, rfl, fun z => st.ok.there l z nl, g.fh.free nl, upd_same, keys_data ek kat⟩ ⟨l, rfl, g.nw nl⟩
        · simp only [if_neg hz] at p; exact p.elim
  · rw [if_neg hi] at p; exact p.elim
theorem x_dd {X : Cx} {P : Pm} {k i : Nat} {y : Str} {iter : Expr} {scope : Scope} {im : IM} {p py pc pt pos pos' : Pos} {j : Nat} (c : Ct X P k) (hm : X.mg "list" = none) (hi : SI X P (.Name y pt) iter im) (ok : BlkOk X.N X.env.scope scope [(y, i)])
    (hg : ∀ (s : Shared) (H : Hp) (C : Addr) (cl : List (Str × Addr)) (fp : List Addr), Ct (X.blk s H scope (compEnvC scope cl C X.env) fp) P.calm k →
      SG (X.blk s H scope (compEnvC scope cl C X.env) fp) P.calm (.Name y pt) (.nm i) ∧ SE (X.blk s H scope (compEnvC scope cl C X.env) fp) P.calm (.Name y py) (mVar i)) (hgl : Gl X "list" := by rfl) (hs : ∀ x, foldedSetIterable iter X.env x = pure x := by intro _; rfl)
    (he : starEach [.DictComp (.Name y py) (.Constant (.bool true) j pc) [⟨.Name y pt, iter, [], 0⟩] scope pos'] X.env = (false, eval (.DictComp (.Name y py) (.Constant (.bool true) j pc) [⟨.Name y pt, iter, [], 0⟩] scope pos') X.env) :: starEach [] X.env := by rfl)
    (hpl : (backTo pos (starEach [] X.env)).any (·.1) = false := by rfl) :
    SE X P (.Call (.Name "list" p) [.DictComp (.Name y py) (.Constant (.bool true) j pc) [⟨.Name y pt, iter, [], 0⟩] scope pos'] [] pos) (mDd im i) := by
  have pd := pe_dx (X := X) (pos := pos') c.u1 c.cm c.nd hi ok (fun s H C cl fp => (hg s H C cl fp (c.blk s H scope _ fp)).1) (fun s H C cl fp => (hg s H C cl fp (c.blk s H scope _ fp)).2) (fun s H C cl fp => pe_bl (pos := pc) (j := j) (b := true)) hs
  refine L2.PE.imp (pe_callTy (call_listX c.cm) hgl hm boot_list (pa_cons pd pa_nil he) (by decide) (by decide) he hpl) fun σ H Q h => ?_
  have q := dd_te (Pr := X.prog) (w := X.w) h
  rw [c.hK] at q
  exact q
end DL
end

section
set_option Elab.async false
set_option linter.all false
set_option maxRecDepth 100000
set_option maxHeartbeats 4000000
namespace DL
open PySem PySem.Spec PyProof.Rows L2
variable [Tbs]

/-! ### lambdas -/
section
variable {X : Cx} {pins : List (Addr × Obj)} {σ : Sg} {H : Hp} {s : Shared}
/-- a lambda is made; the heap changes at the table alone -/
theorem lam_make {c P : Addr} {params : Arguments} {body : Expr} {scope : Scope} {pos : Pos} {E Q : Value → Shared → Prop} (I : L2.Inv X pins σ H s) (TB : LamX.TabB X.base X.mg c P) (hcode : X.env.code = .ref c)
    (hm : (P, X.env.qual ++ "<lambda>") ∈ Tbs.T) (hu : ∀ p ∈ Tbs.T, p.1 = P → p.2 = X.env.qual ++ "<lambda>") (hT : LamX.Tabs Tbs.T H) (hdef : defaultsOf params X.env = ([], [])) (hfree : ∀ y ∈ scope.names, y.2 = .free → ∃ c, X.env.cells.lookup y.1 = some c)
    (h : ∀ (f c' : Addr) (pm ctv : Value) (H1 : Hp) (s' : Shared), L2.Inv X pins σ H1 s' → (∀ b, b ≠ P → H b ≠ none → H1 b = H b) → H1 P ≠ none → LamX.Tabs Tbs.T H1 →
      s'.heap.get? f = some (PySem.W.kla_obj "<lambda>" (X.env.qual ++ "<lambda>") params body scope (cloFrom X.env.cells scope.names []) pm c' ctv) → s'.heap.CodeRec (.ref c') (X.env.qual ++ "<lambda>") → Q (.ref f) s') :
    wpAny (model X.prog X.w) X.A (eval (.Lambda params body scope pos) X.env) Q E s := by
  obtain ⟨ps, eP, trip, known⟩ := hT _ hm
  have bmain : s.heap.BuiltinsAt X.mg P := TB.bm.keeps I.bk
  have objP : s.heap.get? P = some { cls := .none, data := .fields ps } := I.hok P _ eP
  refine PySem.W.kla_eval hdef ?_
  cases look : codeAmong pos ps.toList with
  | some cv =>
    obtain ⟨c', rfl, co⟩ := known pos cv look
    obtain ⟨⟨oc, vs, t, o1, o2, o3⟩, _, _⟩ := I.hok c' _ co
    refine PySem.W.kla_makeFunctionHit (mg := X.mg) (c := c) (P := P) (ps := ps) (closure_ok hfree) I.ok.glob (I.mod.glob.keeps I.bk) hcode (TB.code.keeps I.bk) objP trip look bmain fun ctv h' tk up sz => ?_
    refine h h'.objs.size c' ((X.mg "__name__").getD .none) ctv H _ (I.kept (t' := tk) fun b o e => Heap.get?_push_of_some _ (up b o e)) (fun _ _ _ => rfl) (by rw [eP]; simp) hT (Heap.get?_push_size _ rfl) ?_
    exact ⟨c', oc, vs, t, rfl, Heap.get?_push_of_some _ (up _ _ o1), o2, o3⟩
  | none =>
    refine PySem.W.kla_makeFunction (mg := X.mg) (c := c) (P := P) (ps := ps) (closure_ok hfree) I.ok.glob (I.mod.glob.keeps I.bk) hcode (TB.code.keeps I.bk) objP trip look TB.gP bmain fun c' ctv h' tk ext ge lt rec at_ => ?_
    obtain ⟨c2, oc, vs, t, e2, o1, o2, o3⟩ := rec
    cases e2
    have freeC : H c' = none := I.hok.fresh ge
    have J := LamX.inv_table (t' := tk) (more := #[rawInt pos.line, rawInt pos.col, .ref c']) (h' := h'.push (PySem.W.kla_obj "<lambda>" (X.env.qual ++ "<lambda>") params body scope (cloFrom X.env.cells scope.names []) ((X.mg "__name__").getD .none) c' ctv)) I eP
      (fun b o hb e => Heap.get?_push_of_some _ (ext b o hb e)) (Heap.get?_push_of_some _ at_) ge ⟨oc, vs, t, Heap.get?_push_of_some _ o1, o2, o3⟩
    have same : ∀ b, b ≠ P → H b ≠ none → upd (upd H P (.tbl (ps ++ #[rawInt pos.line, rawInt pos.col, .ref c']))) c' (LamX.CodeO c' (X.env.qual ++ "<lambda>")) b = H b := fun b hb nn => by
      rw [upd_ne (fun z => nn (by rw [z]; exact freeC)), upd_ne hb]
    have codes : ∀ (b : Addr) (q : Str), H b = some (LamX.CodeO b q) → upd (upd H P (.tbl (ps ++ #[rawInt pos.line, rawInt pos.col, .ref c']))) c' (LamX.CodeO c' (X.env.qual ++ "<lambda>")) b = some (LamX.CodeO b q) := fun b q e => by
      rw [same b (fun z => by rw [z, eP] at e; exact LamX.codeO_ne ps (Option.some.inj e).symm) (by rw [e]; simp)]
      exact e
    have listed : (ps ++ #[rawInt pos.line, rawInt pos.col, .ref c']).toList = ps.toList ++ [rawInt pos.line, rawInt pos.col, .ref c'] := by simp
    have atP : upd (upd H P (.tbl (ps ++ #[rawInt pos.line, rawInt pos.col, .ref c']))) c' (LamX.CodeO c' (X.env.qual ++ "<lambda>")) P = some (.tbl (ps ++ #[rawInt pos.line, rawInt pos.col, .ref c'])) := by
      rw [upd_ne (ne_of_none eP freeC), upd_same]
    refine h h'.objs.size c' ((X.mg "__name__").getD .none) ctv _ _ J same (by rw [atP]; simp) (fun p hp => ?_) (Heap.get?_push_size _ rfl) ⟨c', oc, vs, t, rfl, Heap.get?_push_of_some _ o1, o2, o3⟩
    by_cases hb : p.1 = P
    · rw [hu p hp hb, hb]
      refine ⟨_, atP, by rw [listed]; exact PySem.TriplesOk_snoc _ _ _ _ trip, fun p' cv hcv => ?_⟩
      rw [listed] at hcv
      rcases LamX.among_app _ trip hcv with z | z
      · obtain ⟨c0, z1, z2⟩ := known p' cv z
        exact ⟨c0, z1, codes _ _ z2⟩
      · exact ⟨c', z, upd_same⟩
    · obtain ⟨ps', z1, z2, z3⟩ := hT p hp
      refine ⟨ps', (same p.1 hb (by rw [z1]; simp)).trans z1, z2, fun p' cv hcv => ?_⟩
      obtain ⟨c0, w1, w2⟩ := z3 p' cv hcv
      exact ⟨c0, w1, codes _ _ w2⟩
/-- .. as growth -/
theorem lam_grow {As : List Addr} {F H1 : Hp} {t : Option DS} {P : Addr} {q : Str} (st : StF As t F H) (k : Same F H) (hm : (P, q) ∈ Tbs.T) (same : ∀ b, b ≠ P → H b ≠ none → H1 b = H b) (nP : H1 P ≠ none) (hT : LamX.Tabs Tbs.T H1) : Grow As F H As F H1 ∧ StF As t F H1 := by
  have pT : P ∈ tabA := List.mem_map.mpr ⟨_, hm, rfl⟩
  have pA : P ∈ As := by
    obtain ⟨_, o⟩ := st.ok
    cases t with
    | none => rw [show As = tabA from o]; exact pT
    | some q => obtain ⟨d, c, l, e, _⟩ := o; rw [e]; exact List.mem_append_left _ pT
  have tb : ∃ ps, H P = some (.tbl ps) := tab_there st.ok.1 P pT
  have up : ∀ b o, b ≠ P → H b = some o → H1 b = some o := fun b o nb e => (same b nb (by rw [e]; simp)).trans e
  have fP : F P = none := st.sf P pA
  refine ⟨⟨Same.refl _, fun b o e => up b o (ne_of_none e fP) (k b o e), fun b o nb e => up b o (fun z => nb (by rw [z]; exact pA)) e, fun b e _ => e, fun b z => ?_, .inl rfl⟩, ⟨hT, ?_⟩, st.sf⟩
  · by_cases hb : b = P
    · rw [hb]; exact nP
    · rw [same b hb z]; exact z
  · obtain ⟨_, o⟩ := st.ok
    cases t with
    | none => exact o
    | some q =>
      obtain ⟨d, c, l, e, n1, n2, n3, h1, h2, h3⟩ := o
      obtain ⟨ps, eP⟩ := tb
      have ne : ∀ {b : Addr} {o : HO}, H b = some o → (∀ ps, o ≠ .tbl ps) → b ≠ P := fun {b o} e n z => by
        rw [z, eP] at e
        exact n ps (Option.some.inj e).symm
      exact ⟨d, c, l, e, n1, n2, n3, up d _ (ne h1 fun _ z => by cases z) h1, up c _ (ne h2 fun _ z => by cases z) h2, up l _ (ne h3 fun _ z => by cases z) h3⟩
end
/-! ### sorted(rows, key=lambda row: (sum(row), row)) -/
/-- the key's function runs -/
theorem key_run {prog : Program} {w : World} {A : Around} {s : Shared} {f c' p : Addr} {qual x : Str} {params : Arguments} {scope : Scope} {pm ctv : Value} {mg mb : Str → Option Value} {its : List Value} {ns : List Int} {k0 : Nat} {q1 q2 q3 q4 q5 : Pos}
    (hd : A.handled = none) (room : A.depth < recursionLimit) (hf : s.heap.get? f = some (PySem.W.kla_obj "<lambda>" qual params (.Tuple [.Call (.Name "sum" q1) [.Name x q2] [] q3, .Name x q4] k0 q5) scope [] pm c' ctv)) (rec : s.heap.CodeRec (.ref c') qual)
    (hG : s.heap.Ns mainGlobals mg) (hms : mg "sum" = none) (hB : s.heap.Ns builtinsNs mb) (hbs : mb "sum" = some (.builtin "sum")) (nl : s.heap.NoLimit)
    (sk : scope.kind = .function) (sc : scope.isCoroutine = false) (sg : scope.isGenerator = false) (nc : ∀ y ∈ scope.names, y.2 ≠ .cell) (lx : scope.names.lookup x = some .local) (gs : scope.names.lookup ("sum" : Str) = some NameKind.globalImplicit)
    (hxd : (x == ("__debug__" : Str)) = false)
    (bd : ∀ v, bindArgs (PySem.W.kla_fn "<lambda>" qual params (.Tuple [.Call (.Name "sum" q1) [.Name x q2] [] q3, .Name x q4] k0 q5) scope [] pm (.ref c') ctv) ⟨[v], []⟩ = pure [(x, v)])
    (ht : s.heap.IsTuple p its.toArray) (hi : IntsAre its ns) :
    wpAny (model prog w) A (call (.ref f) [.ref p]) (PySem.W.KeyPure (.tuple [.int ns.sum, .tuple (ns.map .int)]) s) (fun _ _ => False) s := by
  refine wpAny_call (PySem.W.kla_callFunE room hf rfl sc sg rfl rec ?_)
  rw [bd]
  refine wpAny_pure (wpAny_newFunctionEnv nc (fun y hy => by rw [List.mem_singleton] at hy; subst hy; exact lx) (fun h₁ hns hsb => ⟨nl.fresh _ hsb, ?_⟩) sk)
  show codeAny _ _ (.expr _ (PySem.W.envX qual scope s.heap.objs.size f (.ref c') [])) _ _
  have kp : ∀ b o, s.heap.get? b = some o → h₁.get? b = some o := fun b o e => hsb.extBut b o (Nat.ne_of_lt (Heap.lt_size e)) (Heap.get?_push_of_some _ e)
  refine PySem.W.kla_codeExpr (wpAny_Tuple_spliced ?_)
  have name : ∀ {h2 : Heap} {tk : Nat} {pos : Pos} {Q E : Value → Shared → Prop}, h2.Ns s.heap.objs.size (fun y => [(x, Value.ref p)].reverse.lookup y) → Q (.ref p) { s with heap := h2, toks := tk } →
      wpAny (model prog w) (A.deeper (PySem.W.envX qual scope s.heap.objs.size f (.ref c') [])) (eval (.Name x pos) (PySem.W.envX qual scope s.heap.objs.size f (.ref c') [])) Q E { s with heap := h2, toks := tk } := fun {h2 tk pos Q E} hn q =>
    wpAny_Name (wpAny_loadName_local (name := x) (v := .ref p) sk lx hn (by simp [List.lookup]) q) hxd
  have tupAt : h₁.IsTuple p its.toArray := by
    obtain ⟨o, ho, r⟩ := ht
    exact ⟨o, kp _ _ ho, r⟩
  show wpAny _ _ (spliced ((false, eval (.Call (.Name "sum" q1) [.Name x q2] [] q3) (PySem.W.envX qual scope s.heap.objs.size f (.ref c') [])) :: backTo q5 (starEach [.Name x q4] (PySem.W.envX qual scope s.heap.objs.size f (.ref c') [])))) _ _ _
  refine Calls.spliced_cons ?_
  refine wpAny_Call_Name_kw (Calls.Name_function_global (env := PySem.W.envX qual scope s.heap.objs.size f (.ref c') []) sk gs (Calls.loadGlobal_builtin (env := PySem.W.envX qual scope s.heap.objs.size f (.ref c') []) (hG.keeps kp) hms (hB.keeps kp) hbs ?_) (by decide))
  refine PyProof.Rows.callWith_builtin1 (Calls.spliced_cons (name hns (Calls.spliced_nil ?_))) rfl rfl
  refine sum_tup_raw hd tupAt hi fun h2 tk t' k2 => ?_
  have hn2 : h2.Ns s.heap.objs.size (fun y => [(x, Value.ref p)].reverse.lookup y) := by
    obtain ⟨o, es, n, e, r⟩ := hns
    exact ⟨o, es, n, k2 _ _ e, r⟩
  show wpAny _ _ (spliced ((false, eval (.Name x q4) (PySem.W.envX qual scope s.heap.objs.size f (.ref c') [])) :: backTo q5 (starEach [] (PySem.W.envX qual scope s.heap.objs.size f (.ref c') [])))) _ _ _
  refine Calls.spliced_cons (name hn2 (Calls.spliced_nil ⟨by rw [sizeLine_eq]; exact Nat.le_of_ble_eq_true rfl, ?_⟩))
  have k3 : ∀ b o, s.heap.get? b = some o → (h2.push { cls := .type "tuple", data := .seq [Value.int ns.sum t', .ref p].toArray }).get? b = some o := fun b o e => Heap.get?_push_of_some _ (k2 _ _ (kp _ _ e))
  refine ⟨_, _, rfl, k3, ?_⟩
  have inner : ∀ (l : List Value) (ms : List Int) (hh : Heap), IntsAre l ms → ReadsAll hh l (ms.map PyData.int) [] := fun l ms hh z => by
    induction z with
    | nil => exact .nil
    | cons n t h ih => exact .cons (as := []) (.int n t) ih
  obtain ⟨o, ho, hc, n, hdt⟩ := ht
  refine .tuple (as := []) (Heap.get?_push_size _ rfl) rfl rfl (.cons (as := []) (bs := []) (.int _ _) (.cons (as := []) (bs := []) (.tuple (k3 _ _ ho) hc hdt ?_) .nil))
  simpa using inner its ns _ hi
end DL
end

section
set_option Elab.async false
set_option linter.all false
set_option maxRecDepth 100000
set_option maxHeartbeats 4000000
namespace DL
open PySem PySem.Spec PyProof.Rows L2
variable [Tbs]

/-! ### rows sorted by their sums, then by themselves -/
def keySR (ns : List Int) : D := .tuple [.int ns.sum, .tuple (ns.map .int)]
def srtSR (nss : List (List Int)) : List (List Int) := nss.mergeSort (PySem.W.dataLe false keySR)
def mSortSR (m : EM) : EM := fun G t => (m G t).fz.bind fun r t => match r.items.bind dInts2 with
  | some nss => if nss.length ≤ 16777216 then .ok (.l ((srtSR nss).map tupI)) t else .stuck
  | none => .stuck
theorem alike_ints : ∀ a b : List Int, PySem.W.alikeAll (a.map PyData.int) (b.map PyData.int) = true
  | [], _ => by simp [PySem.W.alikeAll]
  | _ :: _, [] => by simp [PySem.W.alikeAll]
  | x :: a, y :: b => by simp [PySem.W.alikeAll, PySem.W.alike, alike_ints a b]
theorem alikeSR (a b : List Int) : PySem.W.alike (keySR a) (keySR b) = true := by
  simp [keySR, PySem.W.alike, PySem.W.alikeAll, alike_ints a b]
theorem depthSR (a : List Int) : (keySR a).depth ≤ 3 := by
  obtain ⟨_, h⟩ := lay_ints a
  simp [keySR, PyData.depth, PyData.depthAll, h]
/-- rows as the sort sees them -/
def RowAt (K : PySem.W.Frag) (F : Hp) (v : Value) (ns : List Int) : Prop := ∃ p, v = .ref p ∧ SqT K F p (ns.map V.int)
theorem rows_each {K : PySem.W.Frag} {F : Hp} : ∀ {vs : List V} {us : List Value} {nss : List (List Int)}, DpAll K F vs (nss.map tupI) → Vals vs us → PySem.W.EachIs (RowAt K F) us nss
  | [], us, nss, h, r => by
    cases r
    cases nss with
    | nil => exact .nil
    | cons a b => cases h
  | v :: vs, us, nss, h, r => by
    cases nss with
    | nil => cases h
    | cons a b =>
      cases h with
      | cons h1 h2 =>
        cases r with
        | cons r1 r2 =>
          refine .cons ?_ (rows_each h2 r2)
          cases h1 with
          | tup sq al =>
            have e := ints_dp al
            subst e
            exact ⟨_, r1, sq⟩
theorem each_rows {K : PySem.W.Frag} {F : Hp} : ∀ {us : List Value} {nss : List (List Int)}, PySem.W.EachIs (RowAt K F) us nss → ∃ vs, Vals vs us ∧ DpAll K F vs (nss.map tupI) ∧ vs.length = nss.length
  | [], _, .nil => ⟨[], .nil, .nil, rfl⟩
  | u :: us, ns :: nss, .cons h t => by
    obtain ⟨p, rfl, sq⟩ := h
    obtain ⟨vs, r, d, l⟩ := each_rows t
    exact ⟨.ref p :: vs, .cons rfl r, .cons (L2.Dp.tup sq (dp_ints ns)) d, by simp [l]⟩
theorem x_sortSR {X : Cx} {P : Pm} {k k0 : Nat} {a : Expr} {ma : EM} {c Pt : Addr} {x : Str} {params : Arguments} {scope : Scope} {p pos kpos lpos q1 q2 q3 q4 q5 : Pos} (ct : Ct X P k) (hms : X.mg "sorted" = none) (hsum : X.mg "sum" = none)
    (TB : LamX.TabB X.base X.mg c Pt) (hcode : X.env.code = .ref c) (hm : (Pt, X.env.qual ++ "<lambda>") ∈ Tbs.T) (hu : ∀ p ∈ Tbs.T, p.1 = Pt → p.2 = X.env.qual ++ "<lambda>") (ha : SE X P a ma)
    (hdef : defaultsOf params X.env = ([], []) := by rfl) (clo : ∀ cells : List (Str × Addr), cloFrom cells scope.names [] = [] := by intro _; rfl) (nofree : ∀ y ∈ scope.names, y.2 ≠ NameKind.free := by decide +kernel)
    (sk : scope.kind = .function := by rfl) (sc : scope.isCoroutine = false := by rfl) (sg : scope.isGenerator = false := by rfl) (nc : ∀ y ∈ scope.names, y.2 ≠ NameKind.cell := by decide +kernel) (lx : scope.names.lookup x = some .local := by rfl) (gs : scope.names.lookup ("sum" : Str) = some NameKind.globalImplicit := by rfl)
    (hxd : (x == ("__debug__" : Str)) = false := by decide)
    (bd : ∀ (qual : Str) (pm cv ctv v : Value), bindArgs (PySem.W.kla_fn "<lambda>" qual params (.Tuple [.Call (.Name "sum" q1) [.Name x q2] [] q3, .Name x q4] k0 q5) scope [] pm cv ctv) ⟨[v], []⟩ = pure [(x, v)] := by intro _ _ _ _ _; rfl)
    (hg : Gl X "sorted" := by rfl) (he0 : starEach [a] X.env = (false, eval a X.env) :: starEach [] X.env := by rfl)
    (he : backTo pos (starEach [a] X.env) = (false, eval a X.env) :: backTo pos (starEach [] X.env) := by rfl) (hpl : (backTo pos (starEach [a] X.env)).any (·.1) = false := by rfl)
    (hall : (backToKw pos (keywordEach [⟨some "key", .Lambda params (.Tuple [.Call (.Name "sum" q1) [.Name x q2] [] q3, .Name x q4] k0 q5) scope lpos, kpos⟩] X.env)).all (·.1.isSome) = true := by rfl)
    (hnone : (backToKw pos (keywordEach [⟨some "key", .Lambda params (.Tuple [.Call (.Name "sum" q1) [.Name x q2] [] q3, .Name x q4] k0 q5) scope lpos, kpos⟩] X.env)).any (·.1.isNone) = false := by rfl)
    (hks : (backToKw pos (keywordEach [⟨some "key", .Lambda params (.Tuple [.Call (.Name "sum" q1) [.Name x q2] [] q3, .Name x q4] k0 q5) scope lpos, kpos⟩] X.env)).filterMap (·.1) = [("key" : Str)] := by rfl)
    (hev : (backToKw pos (keywordEach [⟨some "key", .Lambda params (.Tuple [.Call (.Name "sum" q1) [.Name x q2] [] q3, .Name x q4] k0 q5) scope lpos, kpos⟩] X.env)).map (·.2) = [do let v ← eval (.Lambda params (.Tuple [.Call (.Name "sum" q1) [.Name x q2] [] q3, .Name x q4] k0 q5) scope lpos) X.env; standAt pos; pure v] := by rfl) :
    SE X P (.Call (.Name "sorted" p) [a] [⟨some "key", .Lambda params (.Tuple [.Call (.Name "sum" q1) [.Name x q2] [] q3, .Name x q4] k0 q5) scope lpos, kpos⟩] pos) (mSortSR ma) := by
  constructor
  rintro pins s σ H Q I ⟨As, F, G, t, R, q⟩
  refine wpAny_Call_Name_kw (ld_blt I hg hms (u := .builtin "sorted") rfl ?_ (by decide) (by decide))
  have W : ∃ Q1 : VK, teM P (fun G t => (ma G t).fz) σ H Q1 ∧ ∀ v H1, Q1 v H1 → ∃ As1 F1 t1 r1, Rel P.K P.xi As1 F1 G t1 σ H1 ∧ VOk P.K As1 F1 H1 v r1 ∧ PostE P As1 F1 H1 σ Q (match r1.items.bind dInts2 with
      | some nss => if nss.length ≤ 16777216 then .ok (.l ((srtSR nss).map tupI)) t1 else .stuck
      | none => .stuck) :=
    ⟨fun v H1 => ∃ As1 F1 t1 r1, Rel P.K P.xi As1 F1 G t1 σ H1 ∧ VOk P.K As1 F1 H1 v r1 ∧ PostE P As1 F1 H1 σ Q (match r1.items.bind dInts2 with
      | some nss => if nss.length ≤ 16777216 then .ok (.l ((srtSR nss).map tupI)) t1 else .stuck
      | none => .stuck), ⟨As, F, G, t, R, bindEE R q fun As1 F1 H1 v1 r1 t1 _ g1 R1 x1 p1 => ⟨As1, F1, t1, r1, R1, x1, p1⟩⟩, fun _ _ h => h⟩
  obtain ⟨Q1, w1, w2⟩ := W
  have pa := pa_cons (X := X) ha.fz pa_nil he0
  refine PyProof.Rows.callWith_kw (thn (pa.run pos pins s σ H (fun vs H1 => ∃ v, vs = [v] ∧ Q1 v H1) I ?_) fun us s1 ⟨vs, H1, I1, r1, v, ev, q1⟩ => ?_) he hpl hall hnone
  · obtain ⟨As', F', G', t', R', p'⟩ := w1
    refine ⟨As', F', G', t', R', ?_⟩
    have p' : PostE P As' F' H σ Q1 (ma G' t').fz := p'
    cases e : (ma G' t').fz with
    | ok r t2 =>
      rw [e] at p'
      show PostE P As' F' H σ _ (ma G' t').fz
      rw [e]
      exact fun As2 F2 H2 v2 g2 s2 x2 f2 => ⟨v2, rfl, p' As2 F2 H2 v2 g2 s2 x2 f2⟩
    | ex c fs t2 =>
      show PostE P As' F' H σ _ (ma G' t').fz
      rw [e] at p' ⊢; exact p'
    | stuck => rw [e] at p'; exact p'.elim
  · subst ev
    obtain ⟨As1, F1, t1, r, R1, x1, p1⟩ := w2 v H1 q1
    rw [hks, hev]
    cases er : r.items with
    | none => rw [er] at p1; exact p1.elim
    | some ds =>
      rw [er] at p1
      cases en : dInts2 ds with
      | none => simp only [Option.bind_some, en] at p1; exact p1.elim
      | some nss =>
        simp only [Option.bind_some, en] at p1
        by_cases hz : nss.length ≤ 16777216
        · rw [if_pos hz] at p1
          have eds := dInts2_some en
          subst eds
          refine wpAny_evalAll_cons (wpAny_bind (lam_make I1 TB hcode hm hu R1.st.ok.1 hdef (fun y hy e => absurd e (nofree y hy)) fun f c' pm ctv H2 s2 I2 same nP hT hf rec => ?_))
          refine wpAny_bind (wpAny_standAt (wpAny_pure (wpAny_evalAll_nil ?_)))
          obtain ⟨g, st⟩ := lam_grow R1.st R1.sub hm same nP hT
          obtain ⟨pl, ws, rfl, hs, hda⟩ := (x1.mono g).items g.fh er
          cases r1 with
          | @cons _ u0 _ ur h0 h1 =>
            cases h1
            cases (show u0 = Value.ref pl from h0)
            rw [ct.hK] at hs hda
            obtain ⟨its, rv, hl, _⟩ := I2.list hs
            have len : its.length = nss.length := by rw [← rv.length, hda.length, List.length_map]
            obtain ⟨mb, b1, b2⟩ := I2.mod.blt
            have dp : X.A.in1.in1.depth = X.A.depth := rfl
            show wpAny _ _ (call (.builtin "sorted") [.ref pl] [(("key" : Str), .ref f)]) _ _ _
            refine PySem.W.sorted_key_data (b := false) (R := RowAt X.K F1) (bs := nss) keySR hl.isList (rows_each hda rv) (PySem.W.AllAlike.of fun a b => alikeSR a b) (PySem.W.Sortable.tuples fun ns => ⟨_, _, rfl⟩) (by rw [sizeLine_eq]; exact hz) (fun ns _ => ?_) (ksk_s1 _ _) (fun _ => ksk_l1 _ _) (fun x => ksk_t1 f x) (fun v ns hr _ h tk up => ?_) (fun out cc h' tk up fresh at_ lo each => ?_)
            · have := depthSR ns
              have := ct.r.un
              omega
            · obtain ⟨p2, rfl, sq⟩ := hr
              obtain ⟨js, rw', ⟨o, ho, hc, n, hd⟩, _⟩ := I2.tuple (Same.seqT g.fh sq)
              have I3 : L2.Inv X pins σ H2 { s2 with heap := h, toks := tk } := I2.kept up
              rw [clo] at hf
              refine key_run (s := { s2 with heap := h, toks := tk }) (its := js) (ns := ns) (mg := X.mg) (mb := mb) ct.r.hd (by rw [dp]; exact ct.r.depth) (up _ _ hf) ?_ (I3.mod.glob.keeps I3.bk) hsum (b1.keeps I3.bk) ((b2 _ (by decide)).trans rfl) I3.nolimit sk sc sg nc lx gs hxd (fun v => bd _ _ _ _ v) ⟨o, up _ _ ho, hc, n, hd⟩ rw'.ints
              obtain ⟨c2, oc, us2, t2, e1, e2, e3, e4⟩ := rec
              exact ⟨c2, oc, us2, t2, e1, up _ _ e2, e3, e4⟩
            · obtain ⟨outs, ro, od, lo2⟩ := each_rows each
              have sz : outs.length ≤ sizeLine := by
                rw [lo2, List.length_mergeSort, sizeLine_eq]
                exact hz
              have nl : H2 (s2.heap.objs.size + 1) = none := I2.hok.fresh (Nat.le_succ _)
              obtain ⟨⟨g3, s3⟩, _⟩ := alloc (o := .lst outs) st g.fh nl
              refine ⟨.ref (s2.heap.objs.size + 1), upd H2 (s2.heap.objs.size + 1) (.lst outs), I2.laid (t' := tk) up (Nat.le_succ _) (show ObjOk X.prog X.w _ h' _ (.lst outs) from ⟨sz, out, cc, ro, at_⟩), rfl, ?_⟩
              rw [← ct.hK] at od
              exact p1 As1 F1 _ _ (g.trans g3) s3 ⟨_, outs, rfl, fun z => st.ok.there _ z nl, g.fh.free nl, upd_same, od⟩ ⟨_, rfl, g.nw nl⟩
        · rw [if_neg hz] at p1; exact p1.elim
/-! ### within an except suite -/
section
variable {X : Cx} {P : Pm} {a : Expr} {ma : EM} {pos : Pos}
theorem z_v (i : Nat) {x : Str} (hv : Vis X.env.scope x) (hN : X.N[i]? = some x := by rfl) (hd : (x == ("__debug__" : Str)) = false := by decide) (hcd : (x == ("__classdict__" : Str)) = false := by decide) : SE X P (.Name x pos) (mVar i) := se_var hN hv hd hcd
theorem z_cons {es : List Expr} {m : AM} (ha : SE X P a ma) (hr : SA X P es m) (hs : starEach (a :: es) X.env = (false, eval a X.env) :: starEach es X.env := by rfl) : SA X P (a :: es) (mCons ma m) := sa_cons ha hr hs
theorem z_set (i : Nat) {x : Str} {p' : Pos} (nd : X.N.Nodup) (hx : Loc X.env.scope x) (he : SE X P a ma) (hi : X.N[i]? = some x := by rfl) (hf : X.fn x = true ∨ X.env.scope.names.lookup x = some .local := by first | exact .inl rfl | exact .inr rfl)
    (hs : swapsWith a (some (.Name x p')) pos.line X.env = pure false := by rfl) : SS X P (.Assign [.Name x p'] a pos) (sSet i ma) := ss_set nd hi hx he hs hf
end
end DL
end

section
set_option Elab.async false
set_option linter.all false
set_option maxRecDepth 100000
set_option maxHeartbeats 4000000
namespace DL
open PySem PySem.Spec PyProof.Rows L2

/-! ### the head's Hook: the statics' namespace is read too -/
def adC (g : Addr → Option Obj) (n : Nat) : List Addr := cStatics :: He.asD g n
/-- the addresses of the tables that defs with lambdas have, distinct -/
def apartB (tf : List He.Defn) (K : PySem.W.Frag) : Bool := decide ((tf.map fun p => (He.cT K p).2).Nodup)
abbrev AlC : Type := He.AlD × Bool
def obC (n : Nat) (fa : List He.Fa) (fn : List He.DefD) (tf : List He.Defn) (ex : PySem.W.Frag → Bool) (g : Addr → Option Obj) : AlC :=
  (He.obsD fa fn (He.frT g (adC g n)), ex (He.frT g (adC g n)) && (apartB tf (He.frT g (adC g n)) && He.tabsB g tf (He.frT g (adC g n))))
/-- what the head tells -/
structure SaysC (fa : List He.Fa) (fn : List He.DefD) (tf : List He.Defn) (ex : PySem.W.Frag → Bool) (h : Heap) (K : PySem.W.Frag) : Prop where
  d : He.SaysD fa fn K
  more : ex K = true
  apart : (tf.map fun p => (He.cT K p).2).Nodup
  tabs : ∀ p ∈ tf, PySem.W.codeHdIn K (He.cT K p).1 (He.cT K p).2 = true ∧ K.lookup (He.cT K p).2 = none ∧ h.get? (He.cT K p).2 = some { cls := .none, data := .fields #[] }
theorem saysC_of {n : Nat} {fa : List He.Fa} {fn : List He.DefD} {tf : List He.Defn} {ex : PySem.W.Frag → Bool} {h : Heap} (e : obC n fa fn tf ex h.get? = (He.valD fn, true)) : SaysC fa fn tf ex h (He.frT h.get? (adC h.get? n)) := by
  have e1 := congrArg Prod.fst e
  have e2 : (ex (He.frT h.get? (adC h.get? n)) && (apartB tf (He.frT h.get? (adC h.get? n)) && He.tabsB h.get? tf (He.frT h.get? (adC h.get? n)))) = true := congrArg Prod.snd e
  rw [Bool.and_eq_true, Bool.and_eq_true] at e2
  refine ⟨e1, e2.1, of_decide_eq_true e2.2.1, fun p hp => ?_⟩
  have z := List.all_eq_true.mp e2.2.2 p hp
  rw [Bool.and_eq_true] at z
  refine ⟨z.1, ?_⟩
  have z2 := z.2
  split at z2
  · rename_i o g
    exact ⟨He.frT_none g z2, by rw [g, He.emptyTab_eq z2]⟩
  · cases z2
def hookC (n : Nat) (fa : List He.Fa) (fn : List He.DefD) (tf : List He.Defn) (ex : PySem.W.Frag → Bool) : PySem.W.Hook where
  α := AlC
  obs := fun s => obC n fa fn tf ex s.heap.get?
  val := fun _ => (He.valD fn, true)
  says := fun _ h => ∃ K : PySem.W.Frag, K.In h ∧ SaysC fa fn tf ex h K
  of := fun _ _ e => ⟨_, He.frT_in, saysC_of e⟩
  keeps := fun _ _ _ ⟨K, hK, c⟩ k => ⟨K, PySem.W.Frag.In.keeps hK k, c.d, c.more, c.apart, fun p hp => ⟨(c.tabs p hp).1, (c.tabs p hp).2.1, k _ _ (c.tabs p hp).2.2⟩⟩
def obT (n : Nat) (fa : List He.Fa) (fn : List He.DefD) (tf : List He.Defn) (ex : PySem.W.Frag → Bool) (s : PySem.W.SharedT) : AlC := obC n fa fn tf ex (HandSHeadRun.getT s)
theorem obT_eq {n : Nat} {fa : List He.Fa} {fn : List He.DefD} {tf : List He.Defn} {ex : PySem.W.Frag → Bool} (s : PySem.W.SharedT) : obT n fa fn tf ex s = (hookC n fa fn tf ex).obs s.abs := by
  have e : HandSHeadRun.getT s = s.abs.heap.get? := funext (HandSHeadRun.getT_eq s)
  unfold obT
  rw [e]
  rfl
/-- the goal that a head leaves, of a law's walk -/
theorem walkC {l : PySem.W.OpenLaw} {n m k : Nat} {q : Program} {loose : List Str} {XP : (Str → Option Value) → Heap → Prop} {d : DefRec} {z : Str} {fa : List He.Fa} {fn : List He.DefD} {es : List (Str × List Str)} {tab : Tab} {cs xs : List Str} {tf : List (He.Defn × Str)} {f : FM}
    {qual : Str} {args : Arguments} {body : List Stmt} {scope : Scope} {i : Nat}
    (hn : l.most = some n) (hn2 : n ≤ sizeLine) (hdf : d.params.defaults = []) (hr : Room k callerA) (hx : d.name = ("law" : Str)) (hi : fn[i]? = some ⟨("law", none), "law", qual, args, body, scope, [], []⟩) (hg : He.Fa.glo "law" ∈ fa)
    (bd : ∀ (kV doc pm : Value) (an : Option Addr) (cdv ct : Value) (us : List Value), us.length = [z].length → bindArgs (PySem.W.fnOf "law" qual args body scope .none kV doc pm an cdv ct) ⟨us, []⟩ = pure ([z].zip us))
    (law : ∀ (_ : Tbs) (ns : List Int), ns.length ≤ n → ∃ t', f [.d (.list (ns.map .int))] none = .ok (.d (.bool true)) t')
    (F : ∀ (_ : Tbs) (w : World) (K : PySem.W.Frag) (mg : Str → Option Value) (base : Heap) (fd : FuncData), TxG fa fn es tab cs xs tf K mg base → FunD K "law" qual args body scope [] [] (He.ga K "law") fd → FnG l.prog w K mg base k (He.ga K "law") fd [z] (spM K mg 1 f)) :
    PySem.W.WalkO q loose XP (hookC m fa fn (tf.map (·.1)) (exB es tab cs xs)).says l.row.toRowW d [] (fun f vs => PySem.call f vs) := by
  refine walkG (x := z) hn hn2 hdf hr fun w mg fA h Y G hmg => ?_
  obtain ⟨K, KX, c⟩ := Y
  rw [hx] at hmg
  have e := hmg.symm.trans (He.glo_ok KX G (c.d.facts hg))
  obtain rfl : fA = He.ga K "law" := by cases e; rfl
  obtain ⟨fd, FD⟩ := c.d.def_ i hi
  let I : Tbs := ⟨tf.map fun p => ((He.cT K p.1).2, p.2)⟩
  have b := FunD.bindsA (ps := [z]) FD bd
  refine ⟨I, K, fd, f, (tf.map (·.1)).map (He.cT K), KX, ?_, ⟨fun p hp => ?_, fun p hp => ?_, fun p hp => ?_⟩, fun s u => b s [u] rfl, fun ns h => law I ns h, fun base hb hm ht => F I w K mg base fd ⟨⟨base, hb, hm⟩, c.d, c.more, rfl, ?_, fun p hp => ?_⟩ FD⟩
  · show (tf.map fun p => ((He.cT K p.1).2, p.2)).map (·.1) = ((tf.map (·.1)).map (He.cT K)).map (·.2)
    simp only [List.map_map, Function.comp_def]
  · obtain ⟨r, hr, rfl⟩ := List.mem_map.mp hp
    exact (c.tabs r hr).2.2
  · obtain ⟨r, hr, rfl⟩ := List.mem_map.mp hp
    exact (c.tabs r hr).2.1
  · obtain ⟨r, hr, rfl⟩ := List.mem_map.mp hp
    exact PySem.W.codeHd_of_K KX (c.tabs r hr).1
  · have := c.apart
    rw [List.map_map] at this
    exact this
  · exact ht _ (List.mem_map.mpr ⟨p.1, List.mem_map.mpr ⟨p, hp, rfl⟩, rfl⟩)
end DL
end

section
set_option Elab.async false
set_option linter.all false
set_option maxRecDepth 100000
set_option maxHeartbeats 4000000
namespace G
open PySem PySem.Spec PyProof.Rows L2 DL C8
variable [Tbs]
def top (i : Nat) : Stmt := PySem.Challenge.pw_unithouse_k52_products_and_orders.main.body.getD i (.Pass ⟨0, 0, 0, 0⟩)
def dd (x : Str) (i : Nat) : He.DefD := ⟨(x, none), x, x, L2.defArgs (top i), L2.defBody (top i), L2.defScope (top i), [], []⟩
def de (c : Str) (i : Nat) (q : Str) : He.DefD := ⟨(c, some "__init__"), "__init__", q, L2.defArgs ((clsBody (top i)).getD 0 (.Pass ⟨0, 0, 0, 0⟩)), L2.defBody ((clsBody (top i)).getD 0 (.Pass ⟨0, 0, 0, 0⟩)), L2.defScope ((clsBody (top i)).getD 0 (.Pass ⟨0, 0, 0, 0⟩)), [], []⟩
def ddk (x : Str) (i : Nat) (k : List (Str × He.Dv)) : He.DefD := ⟨(x, none), x, x, L2.defArgs (top i), L2.defBody (top i), L2.defScope (top i), [], k⟩
def fn : List He.DefD := [dd "is_from" 7, dd "need_many" 8, dd "is_content" 11, dd "need_content" 12, dd "need_worths" 16, dd "need_total" 17, dd "power" 18, dd "product_of" 19, dd "product_at" 20, dd "name_orders" 21, dd "orders_sum" 22, ddk "even_sum" 23 [("unlike", .bl false)], dd "test_worths" 24, dd "_law_begin" 26, dd "_law_mixed" 27, dd "_law_draw" 28, dd "_law_worths" 29, dd "_law_like" 30, dd "_law_power" 31, dd "_law_product" 32, dd "_law_orders" 33, dd "_law_even" 34, dd "_law_unlike" 35, dd "_law_falling" 36, dd "_law_of" 37, dd "_law_asked" 38, dd "law" 39, de "BadMany" 2 "BadMany.__init__", de "BadContent" 3 "BadContent.__init__", de "BadTotal" 4 "BadTotal.__init__", de "BadWorths" 5 "BadWorths.__init__"]
def fa : List He.Fa := [.free "isinstance", .free "int", .free "bool", .glo "is_from", .free "range", .glo "power", .glo "name_orders", .free "list", .glo "_law_begin", .glo "_law_mixed", .free "repr", .glo "_law_like", .glo "_law_power", .glo "_law_orders", .free "sum", .free "min", .glo "_law_falling", .free "zip", .glo "product_of", .free "len", .glo "_law_draw", .glo "_law_product", .glo "need_many", .int "MOST_TOTAL" 12, .glo "need_total", .free "tuple", .glo "orders_sum", .free "max", .glo "_law_worths", .glo "_law_even", .glo "_law_unlike", .glo "_law_of", .int "MOST_OF_A_NAME" 24, .glo "is_content", .int "MOST_WORTH" 100, .glo "need_worths", .free "sorted", .glo "test_worths", .glo "need_content", .glo "product_at", .glo "even_sum", .glo "BadTotal", .glo "BadWorths", .glo "BadContent", .glo "BadMany", .glo "_law_asked", .glo "law", .glo "UnitError"]
def es : List (Str × List Str) := [("BadMany", ["value"]), ("BadContent", ["value"]), ("BadTotal", ["value"]), ("BadWorths", ["value"])]
def cs : List Str := ["BadMany", "BadContent", "BadTotal", "BadWorths"]
def xs : List Str := ["BadMany", "BadContent", "BadWorths", "BadTotal"]
def tab : Tab := fun c x => if decide (c ∈ cs) && decide (x ∈ xs) then some (decide (x = "UnitError") || decide (c = x)) else none
def ft : Str → List Str := fun c => (es.lookup c).getD []
def tf : List (He.Defn × Str) := [(("test_worths", none), ("test_worths" : Str) ++ ".<locals>." ++ "<lambda>")]
abbrev Tx (K : PySem.W.Frag) (mg : Str → Option Value) (base : Heap) : Prop := TxG fa fn es tab cs xs tf K mg base
theorem tab_ok {K : PySem.W.Frag} {mg : Str → Option Value} {base : Heap} (T : Tx K mg base) : TabOk K mg tab := by
  refine T.tabOk (fun c x b h => ?_) fun c h => ?_
  · unfold tab at h
    split at h
    · rename_i z
      rw [Bool.and_eq_true, decide_eq_true_eq, decide_eq_true_eq] at z
      exact z
    · cases h
  · unfold cs xs at h
    simp only [List.mem_cons, List.mem_nil_iff, or_false] at h
    rcases h with h | h
    · rcases h with rfl | rfl | rfl | rfl
      · exact T.glo 44
      · exact T.glo 43
      · exact T.glo 41
      · exact T.glo 42
    · rcases h with rfl | rfl | rfl | rfl
      · exact T.glo 44
      · exact T.glo 43
      · exact T.glo 42
      · exact T.glo 41

theorem ft_ok {K : PySem.W.Frag} {mg : Str → Option Value} {base : Heap} (T : Tx K mg base) : FtOk K mg ft := by
  intro c C f h hm
  have key : ∀ fl, es.lookup c = some fl → f ∈ fl → mg c = some (.ref (He.ga K c)) → XfC K C ∧ PySem.W.findIn K (.ref C) f = some none := fun fl e hf g => by
    obtain ⟨i, hi⟩ := lookup_ix e
    obtain ⟨_, h2, h3, _, _⟩ := err_parts (T.err i hi)
    have z := g.symm.trans hm
    cases z
    exact ⟨h2, h3 f hf⟩
  unfold ft at h
  cases e : es.lookup c with
  | none => rw [e] at h; cases h
  | some fl =>
    rw [e] at h
    have hf : f ∈ fl := List.elem_iff.mp h
    have hc : c ∈ es.map (·.1) := lookup_mem1 e
    refine key fl e hf ?_
    unfold es at hc
    simp only [List.map_cons, List.map_nil, List.mem_cons, List.mem_nil_iff, or_false] at hc
    rcases hc with rfl | rfl | rfl | rfl
    · exact T.glo 44
    · exact T.glo 43
    · exact T.glo 41
    · exact T.glo 42

abbrev s_BadMany : Stmt := (clsBody (top 2)).getD 0 (.Pass ⟨0, 0, 0, 0⟩)
theorem x_BadMany {P : Program} {w : World} {K : PySem.W.Frag} {mg : Str → Option Value} {base : Heap} (T : Tx K mg base) : ExcR P w K mg base 1 "BadMany" ["value"] (He.ga K "BadMany") := by
  obtain ⟨fd, F⟩ := T.c.def_ 27 rfl
  exact excR1 (m := "not a number of names") (N := ["self", "value"]) (T.glo 44) (T.err 0) F ⟨rfl, rfl, rfl, by decide +kernel, rfl, by decide +kernel, by decide +kernel⟩ rfl (pss_cons (ps_expr (pe_uinit (T.base (T.glo 47)) rfl (pa_cons (pv 0) (pa_cons pe_str pa_nil)))) (pss_cons (ps_ost (pv 0) (pv 1)) pss_nil)) (fun _ _ _ _ _ _ us hl => match us, hl with | [_, _], _ => rfl)
abbrev s_BadContent : Stmt := (clsBody (top 3)).getD 0 (.Pass ⟨0, 0, 0, 0⟩)
theorem x_BadContent {P : Program} {w : World} {K : PySem.W.Frag} {mg : Str → Option Value} {base : Heap} (T : Tx K mg base) : ExcR P w K mg base 1 "BadContent" ["value"] (He.ga K "BadContent") := by
  obtain ⟨fd, F⟩ := T.c.def_ 28 rfl
  exact excR1 (m := "not a content that fits") (N := ["self", "value"]) (T.glo 43) (T.err 1) F ⟨rfl, rfl, rfl, by decide +kernel, rfl, by decide +kernel, by decide +kernel⟩ rfl (pss_cons (ps_expr (pe_uinit (T.base (T.glo 47)) rfl (pa_cons (pv 0) (pa_cons pe_str pa_nil)))) (pss_cons (ps_ost (pv 0) (pv 1)) pss_nil)) (fun _ _ _ _ _ _ us hl => match us, hl with | [_, _], _ => rfl)
abbrev s_BadTotal : Stmt := (clsBody (top 4)).getD 0 (.Pass ⟨0, 0, 0, 0⟩)
theorem x_BadTotal {P : Program} {w : World} {K : PySem.W.Frag} {mg : Str → Option Value} {base : Heap} (T : Tx K mg base) : ExcR P w K mg base 1 "BadTotal" ["value"] (He.ga K "BadTotal") := by
  obtain ⟨fd, F⟩ := T.c.def_ 29 rfl
  exact excR1 (m := "not a total that fits") (N := ["self", "value"]) (T.glo 41) (T.err 2) F ⟨rfl, rfl, rfl, by decide +kernel, rfl, by decide +kernel, by decide +kernel⟩ rfl (pss_cons (ps_expr (pe_uinit (T.base (T.glo 47)) rfl (pa_cons (pv 0) (pa_cons pe_str pa_nil)))) (pss_cons (ps_ost (pv 0) (pv 1)) pss_nil)) (fun _ _ _ _ _ _ us hl => match us, hl with | [_, _], _ => rfl)
abbrev s_BadWorths : Stmt := (clsBody (top 5)).getD 0 (.Pass ⟨0, 0, 0, 0⟩)
theorem x_BadWorths {P : Program} {w : World} {K : PySem.W.Frag} {mg : Str → Option Value} {base : Heap} (T : Tx K mg base) : ExcR P w K mg base 1 "BadWorths" ["value"] (He.ga K "BadWorths") := by
  obtain ⟨fd, F⟩ := T.c.def_ 30 rfl
  exact excR1 (m := "not worths that fit") (N := ["self", "value"]) (T.glo 42) (T.err 3) F ⟨rfl, rfl, rfl, by decide +kernel, rfl, by decide +kernel, by decide +kernel⟩ rfl (pss_cons (ps_expr (pe_uinit (T.base (T.glo 47)) rfl (pa_cons (pv 0) (pa_cons pe_str pa_nil)))) (pss_cons (ps_ost (pv 0) (pv 1)) pss_nil)) (fun _ _ _ _ _ _ us hl => match us, hl with | [_, _], _ => rfl)
abbrev s_is_from : Stmt := top 7
def m_is_from : SM := sSeq (sRet (mAnd (mIsi "int" (mVar 0)) (mAnd (mNot (mIsi "bool" (mVar 0))) (mChain (fCm iLe) (fCm iLe) (mVar 1) (mVar 0) (mVar 2))))) (sSkip)
def f_is_from : FM := runM m_is_from 3
theorem c_is_from {P : Program} {w : World} {K : PySem.W.Frag} {mg : Str → Option Value} {base : Heap} (T : Tx K mg base) : CalM P w K mg base 1 3 "is_from" f_is_from [] :=
  calM (N := ["value", "least", "most"]) (ps := ["value", "least", "most"]) (m := m_is_from) (T.c.def_ 0 rfl) (T.glo 3) ⟨rfl, rfl, rfl, by decide +kernel, rfl, by decide +kernel, by decide +kernel⟩ (by decide) (fun _ _ _ _ _ _ us hl => match us, hl with | [_, _, _], _ => rfl) (fun c ca => ss_cons (ss_ret (x_and c (x_isi c (T := "int") (T.free 0) (T.free 1) rfl (x_v c 0 (.inl rfl))) (x_and c (x_not c (x_isi c (T := "bool") (T.free 0) (T.free 2) rfl (x_v c 0 (.inl rfl)))) (se_one (x_lele c (x_v c 1 (.inl rfl)) (x_v c 0 (.inl rfl)) (x_v c 2 (.inl rfl))))))) (ss_nil))
abbrev s_power : Stmt := top 18
def m_power : SM := sSeq (sSet 2 (mC (.int 1))) (sSeq (sFor (mRange1 (mVar 1)) (.nm 3) (sSeq (sSet 2 (mBin fMul (mVar 2) (mVar 0))) (sSkip))) (sSeq (sFrz 2 (sRet (mVar 2))) (sSkip)))
def f_power : FM := runM m_power 4
theorem c_power {P : Program} {w : World} {K : PySem.W.Frag} {mg : Str → Option Value} {base : Heap} (T : Tx K mg base) : CalM P w K mg base 1 2 "power" f_power [] :=
  calM (N := ["base", "times", "found", "step"]) (ps := ["base", "times"]) (m := m_power) (T.c.def_ 6 rfl) (T.glo 5) ⟨rfl, rfl, rfl, by decide +kernel, rfl, by decide +kernel, by decide +kernel⟩ (by decide) (fun _ _ _ _ _ _ us hl => match us, hl with | [_, _], _ => rfl) (fun c ca => ss_cons (s_set c 2 (.inl rfl) (se_int)) (ss_cons (s_for c (i_r1 c (T.free 4) (x_v c 1 (.inl rfl))) (g_nm c 3 (.inl rfl) (.inl rfl)) (ss_cons (s_set c 2 (.inl rfl) (x_mul c (x_v c 2 (.inl rfl)) (x_v c 0 (.inl rfl)))) (ss_nil))) (ss_cons (ss_frz (i := 2) (ss_ret (x_v c 2 (.inl rfl)))) (ss_nil))))
abbrev s_name_orders : Stmt := top 21
def m_name_orders : SM := sSeq (sSet 1 (mLst (mCons (mTup (mNil)) (mNil)))) (sSeq (sFor (mRange1 (mVar 0)) (.nm 2) (sSeq (sSet 3 (mLst (mNil))) (sSeq (sFrz 1 (sFor (mSeq (mVar 1)) (.nm 4) (sSeq (sSet 3 (mBin fAdd (mVar 3) (mLc (mRange1 (mVar 0)) (.nm 5) (some (mCmpB fNotIn (mVar 5) (mVar 4))) (mBin fAdd (mVar 4) (mTup (mCons (mVar 5) (mNil)))) [5]))) (sSkip)))) (sSeq (sFrz 3 (sSet 1 (mVar 3))) (sSkip))))) (sSeq (sFrz 1 (sRet (mVar 1))) (sSkip)))
def f_name_orders : FM := runM m_name_orders 6
theorem c_name_orders {P : Program} {w : World} {K : PySem.W.Frag} {mg : Str → Option Value} {base : Heap} (T : Tx K mg base) : CalM P w K mg base 1 1 "name_orders" f_name_orders [] :=
  calM (N := ["many", "found", "step", "more", "row", "name"]) (ps := ["many"]) (m := m_name_orders) (T.c.def_ 9 rfl) (T.glo 6) ⟨rfl, rfl, rfl, by decide +kernel, rfl, by decide +kernel, by decide +kernel⟩ (by decide) (fun _ _ _ _ _ _ us hl => match us, hl with | [_], _ => rfl) (fun c ca => ss_cons (s_set c 1 (.inl rfl) (se_lst (a_cons c (se_tup (sa_nil)) (sa_nil)))) (ss_cons (s_for c (i_r1 c (T.free 4) (x_v c 0 (.inl rfl))) (g_nm c 2 (.inl rfl) (.inl rfl)) (ss_cons (s_set c 3 (.inl rfl) (se_lst (sa_nil))) (ss_cons (ss_frz (i := 1) (s_for c (i_seq c (x_v c 1 (.inl rfl))) (g_nm c 4 (.inr rfl) (.inl rfl)) (ss_cons (s_set c 3 (.inl rfl) (x_add c (x_v c 3 (.inl rfl)) (x_lc c [("name", 5)] (i_r1 c (T.free 4) (x_v c 0 (.inl rfl))) (blk_of (by rfl)) (fun s H C cl fp c => ⟨g_nm c 5 (.inl rfl) (.inr rfl), pts_of (b_nin c (x_v c 5 (.inl rfl)) (x_v c 4 (.inr (.inl rfl)))), x_add c (x_v c 4 (.inr (.inl rfl))) (se_tup (a_cons c (x_v c 5 (.inl rfl)) (sa_nil)))⟩)))) (ss_nil)))) (ss_cons (ss_frz (i := 3) (s_set c 1 (.inl rfl) (x_v c 3 (.inl rfl)))) (ss_nil))))) (ss_cons (ss_frz (i := 1) (ss_ret (x_v c 1 (.inl rfl)))) (ss_nil))))
abbrev s__law_begin : Stmt := top 26
def f__law_begin : FM := fBegin
theorem c__law_begin {P : Program} {w : World} {K : PySem.W.Frag} {mg : Str → Option Value} {base : Heap} (T : Tx K mg base) : CalM P w K mg base 1 1 "_law_begin" f__law_begin [] :=
  calBegin (N := ["_law_script", "_law_cells_so", "_law_cell"]) (T.c.def_ 13 rfl) (T.glo 8) ⟨rfl, rfl, rfl, by decide +kernel, rfl, by decide +kernel, by decide +kernel⟩ rfl (fun _ _ _ _ _ _ us hl => match us, hl with | [_], _ => rfl) (fun c ca => pss_cons (show SS _ _ _ (sSet 1 mBeg1) from s_set c 1 (.inl rfl) (se_if (b_ne c (x_v c 0 (.inl rfl)) (se_lst (sa_nil))) (x_list c (T.free 7) (a_cons c (x_v c 0 (.inl rfl)) (sa_nil))) (se_lst (a_cons c (se_int) (sa_nil))))) (pss_one (ps_mkSt (i := 1) rfl (.inl rfl) (by decide) (by decide) (show SE _ _ _ (mBeg2 2) from x_lc c [("_law_cell", 2)] (i_seq c (x_v c 1 (.inl rfl))) (blk_of (by rfl)) (fun s H C cl fp c => ⟨g_nm c 2 (.inl rfl) (.inr rfl), pts_nil, se_if (b_ge c (x_v c 2 (.inl rfl)) (x_pow c (se_int) (se_int))) (x_v c 2 (.inl rfl)) (se_int)⟩)))))
abbrev s__law_mixed : Stmt := top 27
def m__law_mixed : SM := sSeq (sSet 0 (mBin fMod (mCallB (f1 gInt) (mCons (mVar 0) (mNil))) (mC (.int 2147483647)))) (sSeq (sRet (mBin fMod (mBin fMul (mBin fMod (mBin fAdd (mBin fAdd (mBin fMul (mVar 0) (mBin fAdd (mC (.int 48271)) (mBin fMul (mBin fMul (mC (.int 2)) (mVar 1)) (mVar 1)))) (mBin fMul (mC (.int 69621)) (mVar 1))) (mC (.int 11))) (mC (.int 2147483647))) (mC (.int 69621))) (mC (.int 2147483629)))) (sSkip))
def f__law_mixed : FM := runM m__law_mixed 2
theorem c__law_mixed {P : Program} {w : World} {K : PySem.W.Frag} {mg : Str → Option Value} {base : Heap} (T : Tx K mg base) : CalM P w K mg base 1 2 "_law_mixed" f__law_mixed [] :=
  calM (N := ["_law_cell", "_law_k"]) (ps := ["_law_cell", "_law_k"]) (m := m__law_mixed) (T.c.def_ 14 rfl) (T.glo 9) ⟨rfl, rfl, rfl, by decide +kernel, rfl, by decide +kernel, by decide +kernel⟩ (by decide) (fun _ _ _ _ _ _ us hl => match us, hl with | [_, _], _ => rfl) (fun c ca => ss_cons (s_set c 0 (.inl rfl) (x_mod c (x_int c (T.free 1) (a_cons c (x_v c 0 (.inl rfl)) (sa_nil))) (se_int))) (ss_cons (ss_ret (x_mod c (x_mul c (x_mod c (x_add c (x_add c (x_mul c (x_v c 0 (.inl rfl)) (x_add c (se_int) (x_mul c (x_mul c (se_int) (x_v c 1 (.inl rfl))) (x_v c 1 (.inl rfl))))) (x_mul c (se_int) (x_v c 1 (.inl rfl)))) (se_int)) (se_int)) (se_int)) (se_int))) (ss_nil)))
abbrev s__law_like : Stmt := top 30
def m__law_like : SM := sSeq (sRet (mBin fEq (mCallB (f1 gRepr) (mCons (mVar 0) (mNil))) (mCallB (f1 gRepr) (mCons (mVar 1) (mNil))))) (sSkip)
def f__law_like : FM := runM m__law_like 2
theorem c__law_like {P : Program} {w : World} {K : PySem.W.Frag} {mg : Str → Option Value} {base : Heap} (T : Tx K mg base) : CalM P w K mg base 1 2 "_law_like" f__law_like [] :=
  calM (N := ["_law_got", "_law_due"]) (ps := ["_law_got", "_law_due"]) (m := m__law_like) (T.c.def_ 17 rfl) (T.glo 11) ⟨rfl, rfl, rfl, by decide +kernel, rfl, by decide +kernel, by decide +kernel⟩ (by decide) (fun _ _ _ _ _ _ us hl => match us, hl with | [_, _], _ => rfl) (fun c ca => ss_cons (ss_ret (x_eq c (x_repr c (T.free 10) (a_cons c (x_v c 0 (.inl rfl)) (sa_nil))) (x_repr c (T.free 10) (a_cons c (x_v c 1 (.inl rfl)) (sa_nil))))) (ss_nil))
abbrev s__law_power : Stmt := top 31
def m__law_power : SM := sSeq (sSet 2 (mC (.int 1))) (sSeq (sFor (mRange1 (mVar 1)) (.nm 3) (sSeq (sSet 2 (mBin fMul (mVar 2) (mVar 0))) (sSkip))) (sSeq (sFrz 2 (sRet (mVar 2))) (sSkip)))
def f__law_power : FM := runM m__law_power 4
theorem c__law_power {P : Program} {w : World} {K : PySem.W.Frag} {mg : Str → Option Value} {base : Heap} (T : Tx K mg base) : CalM P w K mg base 1 2 "_law_power" f__law_power [] :=
  calM (N := ["_law_base", "_law_many_so", "_law_found", "_law_step"]) (ps := ["_law_base", "_law_many_so"]) (m := m__law_power) (T.c.def_ 18 rfl) (T.glo 12) ⟨rfl, rfl, rfl, by decide +kernel, rfl, by decide +kernel, by decide +kernel⟩ (by decide) (fun _ _ _ _ _ _ us hl => match us, hl with | [_, _], _ => rfl) (fun c ca => ss_cons (s_set c 2 (.inl rfl) (se_int)) (ss_cons (s_for c (i_r1 c (T.free 4) (x_v c 1 (.inl rfl))) (g_nm c 3 (.inl rfl) (.inl rfl)) (ss_cons (s_set c 2 (.inl rfl) (x_mul c (x_v c 2 (.inl rfl)) (x_v c 0 (.inl rfl)))) (ss_nil))) (ss_cons (ss_frz (i := 2) (ss_ret (x_v c 2 (.inl rfl)))) (ss_nil))))
abbrev s__law_orders : Stmt := top 33
def m__law_orders : SM := sSeq (sSet 1 (mLst (mCons (mTup (mNil)) (mNil)))) (sSeq (sFor (mRange1 (mVar 0)) (.nm 2) (sSeq (sSet 3 (mLst (mNil))) (sSeq (sFrz 1 (sFor (mSeq (mVar 1)) (.nm 4) (sSeq (sSet 3 (mBin fAdd (mVar 3) (mLc (mRange1 (mVar 0)) (.nm 5) (some (mCmpB fNotIn (mVar 5) (mVar 4))) (mBin fAdd (mVar 4) (mTup (mCons (mVar 5) (mNil)))) [5]))) (sSkip)))) (sSeq (sFrz 3 (sSet 1 (mVar 3))) (sSkip))))) (sSeq (sFrz 1 (sRet (mVar 1))) (sSkip)))
def f__law_orders : FM := runM m__law_orders 6
theorem c__law_orders {P : Program} {w : World} {K : PySem.W.Frag} {mg : Str → Option Value} {base : Heap} (T : Tx K mg base) : CalM P w K mg base 1 1 "_law_orders" f__law_orders [] :=
  calM (N := ["_law_n", "_law_found", "_law_step", "_law_more", "_law_one", "_law_name"]) (ps := ["_law_n"]) (m := m__law_orders) (T.c.def_ 20 rfl) (T.glo 13) ⟨rfl, rfl, rfl, by decide +kernel, rfl, by decide +kernel, by decide +kernel⟩ (by decide) (fun _ _ _ _ _ _ us hl => match us, hl with | [_], _ => rfl) (fun c ca => ss_cons (s_set c 1 (.inl rfl) (se_lst (a_cons c (se_tup (sa_nil)) (sa_nil)))) (ss_cons (s_for c (i_r1 c (T.free 4) (x_v c 0 (.inl rfl))) (g_nm c 2 (.inl rfl) (.inl rfl)) (ss_cons (s_set c 3 (.inl rfl) (se_lst (sa_nil))) (ss_cons (ss_frz (i := 1) (s_for c (i_seq c (x_v c 1 (.inl rfl))) (g_nm c 4 (.inr rfl) (.inl rfl)) (ss_cons (s_set c 3 (.inl rfl) (x_add c (x_v c 3 (.inl rfl)) (x_lc c [("_law_name", 5)] (i_r1 c (T.free 4) (x_v c 0 (.inl rfl))) (blk_of (by rfl)) (fun s H C cl fp c => ⟨g_nm c 5 (.inl rfl) (.inr rfl), pts_of (b_nin c (x_v c 5 (.inl rfl)) (x_v c 4 (.inr (.inl rfl)))), x_add c (x_v c 4 (.inr (.inl rfl))) (se_tup (a_cons c (x_v c 5 (.inl rfl)) (sa_nil)))⟩)))) (ss_nil)))) (ss_cons (ss_frz (i := 3) (s_set c 1 (.inl rfl) (x_v c 3 (.inl rfl)))) (ss_nil))))) (ss_cons (ss_frz (i := 1) (ss_ret (x_v c 1 (.inl rfl)))) (ss_nil))))
abbrev s__law_falling : Stmt := top 36
def m__law_falling : SM := sSeq (sSet 2 (mLst (mCons (mTup (mNil)) (mNil)))) (sSeq (sFor (mRange1 (mVar 0)) (.nm 3) (sSeq (sSet 4 (mLst (mNil))) (sSeq (sFrz 2 (sFor (mSeq (mVar 2)) (.nm 5) (sSeq (sSet 6 (mIf (mCmpB fEq (mVar 5) (mTup (mNil))) (mBin fSub (mVar 1) (mCallB (f1 gSum) (mCons (mVar 5) (mNil)))) (mCallB (f2 gMin) (mCons (mBin fIx (mVar 5) (mNeg (mC (.int 1)))) (mCons (mBin fSub (mVar 1) (mCallB (f1 gSum) (mCons (mVar 5) (mNil)))) (mNil)))))) (sSeq (sSet 4 (mBin fAdd (mVar 4) (mLc (mRange1 (mBin fAdd (mVar 6) (mC (.int 1)))) (.nm 7) none (mBin fAdd (mVar 5) (mTup (mCons (mVar 7) (mNil)))) [7]))) (sSkip))))) (sSeq (sFrz 4 (sSet 2 (mVar 4))) (sSkip))))) (sSeq (sFrz 2 (sRet (mLc (mSeq (mVar 2)) (.nm 5) (some (mCmpB fEq (mCallB (f1 gSum) (mCons (mVar 5) (mNil))) (mVar 1))) (mVar 5) [5]))) (sSkip)))
def f__law_falling : FM := runM m__law_falling 8
theorem c__law_falling {P : Program} {w : World} {K : PySem.W.Frag} {mg : Str → Option Value} {base : Heap} (T : Tx K mg base) : CalM P w K mg base 1 2 "_law_falling" f__law_falling [] :=
  calM (N := ["_law_n", "_law_total", "_law_found", "_law_step", "_law_more", "_law_one", "_law_top", "_law_k"]) (ps := ["_law_n", "_law_total"]) (m := m__law_falling) (T.c.def_ 23 rfl) (T.glo 16) ⟨rfl, rfl, rfl, by decide +kernel, rfl, by decide +kernel, by decide +kernel⟩ (by decide) (fun _ _ _ _ _ _ us hl => match us, hl with | [_, _], _ => rfl) (fun c ca => ss_cons (s_set c 2 (.inl rfl) (se_lst (a_cons c (se_tup (sa_nil)) (sa_nil)))) (ss_cons (s_for c (i_r1 c (T.free 4) (x_v c 0 (.inl rfl))) (g_nm c 3 (.inl rfl) (.inl rfl)) (ss_cons (s_set c 4 (.inl rfl) (se_lst (sa_nil))) (ss_cons (ss_frz (i := 2) (s_for c (i_seq c (x_v c 2 (.inl rfl))) (g_nm c 5 (.inr rfl) (.inl rfl)) (ss_cons (s_set c 6 (.inl rfl) (se_if (b_eq c (x_v c 5 (.inr (.inl rfl))) (se_tup (sa_nil))) (x_sub c (x_v c 1 (.inr (.inl rfl))) (x_sum c (T.free 14) (a_cons c (x_v c 5 (.inr (.inl rfl))) (sa_nil)))) (x_min c (T.free 15) (a_cons c (x_ix c (x_v c 5 (.inr (.inl rfl))) (se_neg (se_int))) (a_cons c (x_sub c (x_v c 1 (.inr (.inl rfl))) (x_sum c (T.free 14) (a_cons c (x_v c 5 (.inr (.inl rfl))) (sa_nil)))) (sa_nil)))))) (ss_cons (s_set c 4 (.inl rfl) (x_add c (x_v c 4 (.inl rfl)) (x_lc c [("_law_k", 7)] (i_r1 c (T.free 4) (x_add c (x_v c 6 (.inl rfl)) (se_int))) (blk_of (by rfl)) (fun s H C cl fp c => ⟨g_nm c 7 (.inl rfl) (.inr rfl), pts_nil, x_add c (x_v c 5 (.inr (.inl rfl))) (se_tup (a_cons c (x_v c 7 (.inl rfl)) (sa_nil)))⟩)))) (ss_nil))))) (ss_cons (ss_frz (i := 4) (s_set c 2 (.inl rfl) (x_v c 4 (.inl rfl)))) (ss_nil))))) (ss_cons (ss_frz (i := 2) (ss_ret (x_lc c [("_law_one", 5)] (i_seq c (x_v c 2 (.inl rfl))) (blk_of (by rfl)) (fun s H C cl fp c => ⟨g_nm c 5 (.inl rfl) (.inr rfl), pts_of (b_eq c (x_sum c (T.free 14) (a_cons c (x_v c 5 (.inl rfl)) (sa_nil))) (x_v c 1 (.inr (.inl rfl)))), x_v c 5 (.inl rfl)⟩)))) (ss_nil))))
abbrev s_product_of : Stmt := top 19
def m_product_of : SM := sSeq (sSet 2 (mC (.int 1))) (sSeq (sFor (mZip (mVar 0) (mVar 1)) (.tup [3, 4]) (sSeq (sSet 2 (mBin fMul (mVar 2) (mCall 2 f_power [] (mCons (mVar 4) (mCons (mVar 3) (mNil)))))) (sSkip))) (sSeq (sFrz 2 (sRet (mVar 2))) (sSkip)))
def f_product_of : FM := runM m_product_of 5
theorem c_product_of {P : Program} {w : World} {K : PySem.W.Frag} {mg : Str → Option Value} {base : Heap} (T : Tx K mg base) : CalM P w K mg base 2 2 "product_of" f_product_of [] :=
  calM (N := ["content", "worths", "found", "number", "worth"]) (ps := ["content", "worths"]) (m := m_product_of) (T.c.def_ 7 rfl) (T.glo 18) ⟨rfl, rfl, rfl, by decide +kernel, rfl, by decide +kernel, by decide +kernel⟩ (by decide) (fun _ _ _ _ _ _ us hl => match us, hl with | [_, _], _ => rfl) (fun c ca => ss_cons (s_set c 2 (.inl rfl) (se_int)) (ss_cons (s_for c (i_zip c (T.free 17) (x_v c 0 (.inl rfl)) (x_v c 1 (.inl rfl))) (g_tup c (.cons rfl (.inl rfl) (.inl rfl) (.cons rfl (.inl rfl) (.inl rfl) .nil))) (ss_cons (s_set c 2 (.inl rfl) (x_mul c (x_v c 2 (.inl rfl)) (x_call c (c_power T) (by decide) (a_cons c (x_v c 4 (.inl rfl)) (a_cons c (x_v c 3 (.inl rfl)) (sa_nil)))))) (ss_nil))) (ss_cons (ss_frz (i := 2) (ss_ret (x_v c 2 (.inl rfl)))) (ss_nil))))
abbrev s__law_draw : Stmt := top 28
def m__law_draw : SM := sSeq (sSet 2 (mStAt 0)) (sSeq (sStAt 0 (mBin fAdd (mVar 2) (mC (.int 1)))) (sSeq (sSet 3 (mBin fMod (mCallB (f1 gInt) (mCons (mVar 2) (mNil))) (mStLen 0 0))) (sSeq (sSet 4 (mStIx 1 0 (mVar 3))) (sSeq (sIf (mCmpB (fCm iGt) (mVar 4) (mC (.int 0))) (sSeq (sStPut 0 (mVar 3) (mBin fDiv (mVar 4) (mVar 1))) (sSeq (sRet (mBin fMod (mCallB (f1 gInt) (mCons (mVar 4) (mNil))) (mVar 1))) (sSkip))) (sSkip)) (sSeq (sSet 5 (mCall 2 f__law_mixed [] (mCons (mCall 2 f__law_mixed [] (mCons (mStIx 0 0 (mVar 3)) (mCons (mVar 2) (mNil)))) (mCons (mBin fAdd (mC (.int 40)) (mVar 2)) (mNil))))) (sSeq (sRet (mBin fMod (mBin fDiv (mCallB (f1 gInt) (mCons (mBin fAdd (mBin fMul (mVar 5) (mC (.int 2147483647))) (mCall 2 f__law_mixed [] (mCons (mVar 5) (mCons (mBin fAdd (mC (.int 7)) (mVar 2)) (mNil))))) (mNil))) (mC (.int 64))) (mVar 1))) (sSkip)))))))
def f__law_draw : FM := runM m__law_draw 6
theorem c__law_draw {P : Program} {w : World} {K : PySem.W.Frag} {mg : Str → Option Value} {base : Heap} (T : Tx K mg base) : CalM P w K mg base 2 2 "_law_draw" f__law_draw [] :=
  calM (N := ["_law_state", "_law_limit", "_law_at", "_law_place", "_law_left", "_law_number"]) (ps := ["_law_state", "_law_limit"]) (m := m__law_draw) (T.c.def_ 15 rfl) (T.glo 20) ⟨rfl, rfl, rfl, by decide +kernel, rfl, by decide +kernel, by decide +kernel⟩ (by decide) (fun _ _ _ _ _ _ us hl => match us, hl with | [_, _], _ => rfl) (fun c ca => ss_cons (s_set c 2 (.inl rfl) (se_stAt c.u1 (x := "_law_state") (i := 0) rfl (.inl rfl) (by decide) (by decide) (by intro _ _; rfl))) (ss_cons (ss_stAt c.u1 (x := "_law_state") (i := 0) rfl (.inl rfl) (by decide) (by decide) (x_add c (x_v c 2 (.inl rfl)) (se_int)) rfl) (ss_cons (s_set c 3 (.inl rfl) (x_mod c (x_int c (T.free 1) (a_cons c (x_v c 2 (.inl rfl)) (sa_nil))) (se_stLen (k := 0) c.u1 (x := "_law_state") (i := 0) rfl (.inl rfl) (by decide) (by decide) (by intro _ _; rfl) rfl (T.free 19) rfl rfl))) (ss_cons (s_set c 4 (.inl rfl) (se_stIx (k := 1) c.u1 (x := "_law_state") (i := 0) rfl (.inl rfl) (by decide) (by decide) (by intro _ _; rfl) (x_v c 3 (.inl rfl)) (by intro _ _; rfl))) (ss_cons (ss_if (b_gt c (x_v c 4 (.inl rfl)) (se_int)) (ss_cons (ss_stPut c.u1 (x := "_law_state") (i := 0) rfl (.inl rfl) (by decide) (by decide) (by intro _ _; rfl) (x_v c 3 (.inl rfl)) (x_div c (x_v c 4 (.inl rfl)) (x_v c 1 (.inl rfl))) (by intro _; rfl) rfl rfl rfl) (ss_cons (ss_ret (x_mod c (x_int c (T.free 1) (a_cons c (x_v c 4 (.inl rfl)) (sa_nil))) (x_v c 1 (.inl rfl)))) (ss_nil))) (ss_nil)) (ss_cons (s_set c 5 (.inl rfl) (x_call c (c__law_mixed T) (by decide) (a_cons c (x_call c (c__law_mixed T) (by decide) (a_cons c (se_stIx (k := 0) c.u1 (x := "_law_state") (i := 0) rfl (.inl rfl) (by decide) (by decide) (by intro _ _; rfl) (x_v c 3 (.inl rfl)) (by intro _ _; rfl)) (a_cons c (x_v c 2 (.inl rfl)) (sa_nil)))) (a_cons c (x_add c (se_int) (x_v c 2 (.inl rfl))) (sa_nil))))) (ss_cons (ss_ret (x_mod c (x_div c (x_int c (T.free 1) (a_cons c (x_add c (x_mul c (x_v c 5 (.inl rfl)) (se_int)) (x_call c (c__law_mixed T) (by decide) (a_cons c (x_v c 5 (.inl rfl)) (a_cons c (x_add c (se_int) (x_v c 2 (.inl rfl))) (sa_nil))))) (sa_nil))) (se_int)) (x_v c 1 (.inl rfl)))) (ss_nil))))))))
abbrev s__law_product : Stmt := top 32
def m__law_product : SM := sSeq (sSet 2 (mC (.int 1))) (sSeq (sFor (mZip (mVar 0) (mVar 1)) (.tup [3, 4]) (sSeq (sSet 2 (mBin fMul (mVar 2) (mCall 2 f__law_power [] (mCons (mVar 4) (mCons (mVar 3) (mNil)))))) (sSkip))) (sSeq (sFrz 2 (sRet (mVar 2))) (sSkip)))
def f__law_product : FM := runM m__law_product 5
theorem c__law_product {P : Program} {w : World} {K : PySem.W.Frag} {mg : Str → Option Value} {base : Heap} (T : Tx K mg base) : CalM P w K mg base 2 2 "_law_product" f__law_product [] :=
  calM (N := ["_law_content", "_law_worths_so", "_law_found", "_law_many_so", "_law_worth"]) (ps := ["_law_content", "_law_worths_so"]) (m := m__law_product) (T.c.def_ 19 rfl) (T.glo 21) ⟨rfl, rfl, rfl, by decide +kernel, rfl, by decide +kernel, by decide +kernel⟩ (by decide) (fun _ _ _ _ _ _ us hl => match us, hl with | [_, _], _ => rfl) (fun c ca => ss_cons (s_set c 2 (.inl rfl) (se_int)) (ss_cons (s_for c (i_zip c (T.free 17) (x_v c 0 (.inl rfl)) (x_v c 1 (.inl rfl))) (g_tup c (.cons rfl (.inl rfl) (.inl rfl) (.cons rfl (.inl rfl) (.inl rfl) .nil))) (ss_cons (s_set c 2 (.inl rfl) (x_mul c (x_v c 2 (.inl rfl)) (x_call c (c__law_power T) (by decide) (a_cons c (x_v c 4 (.inl rfl)) (a_cons c (x_v c 3 (.inl rfl)) (sa_nil)))))) (ss_nil))) (ss_cons (ss_frz (i := 2) (ss_ret (x_v c 2 (.inl rfl)))) (ss_nil))))
abbrev s_need_many : Stmt := top 8
def m_need_many : SM := sSeq (sIf (mNotB (mTru (mCall 3 f_is_from [] (mCons (mVar 0) (mCons (mC (.int 2)) (mCons (mC (.int 5)) (mNil))))))) (sSeq (sRaise "BadMany" ["value"] (mCons (mVar 0) (mNil))) (sSkip)) (sSkip)) (sSeq (sRet (mVar 0)) (sSkip))
def f_need_many : FM := runM m_need_many 1
theorem c_need_many {P : Program} {w : World} {K : PySem.W.Frag} {mg : Str → Option Value} {base : Heap} (T : Tx K mg base) : CalM P w K mg base 3 1 "need_many" f_need_many [] :=
  calM (N := ["value"]) (ps := ["value"]) (m := m_need_many) (T.c.def_ 1 rfl) (T.glo 22) ⟨rfl, rfl, rfl, by decide +kernel, rfl, by decide +kernel, by decide +kernel⟩ (by decide) (fun _ _ _ _ _ _ us hl => match us, hl with | [_], _ => rfl) (fun c ca => ss_cons (ss_if (sb_not (b_tr c (x_call c (c_is_from T) (by decide) (a_cons c (x_v c 0 (.inl rfl)) (a_cons c (se_int) (a_cons c (se_int) (sa_nil))))))) (ss_cons (s_raise c (x_BadMany T) (by decide) (a_cons c (x_v c 0 (.inl rfl)) (sa_nil))) (ss_nil)) (ss_nil)) (ss_cons (ss_ret (x_v c 0 (.inl rfl))) (ss_nil)))
abbrev s_need_total : Stmt := top 17
def m_need_total : SM := sSeq (sIf (mOrB (mNotB (mTru (mIsi "int" (mVar 0)))) (mOrB (mTru (mIsi "bool" (mVar 0))) (mNotB (mBl (mChain (fCm iLe) (fCm iLe) (mC (.int 0)) (mVar 0) (mC (.int 12))))))) (sSeq (sRaise "BadTotal" ["value"] (mCons (mVar 0) (mNil))) (sSkip)) (sSkip)) (sSeq (sRet (mVar 0)) (sSkip))
def f_need_total : FM := runM m_need_total 1
theorem c_need_total {P : Program} {w : World} {K : PySem.W.Frag} {mg : Str → Option Value} {base : Heap} (T : Tx K mg base) : CalM P w K mg base 3 1 "need_total" f_need_total [] :=
  calM (N := ["value"]) (ps := ["value"]) (m := m_need_total) (T.c.def_ 5 rfl) (T.glo 24) ⟨rfl, rfl, rfl, by decide +kernel, rfl, by decide +kernel, by decide +kernel⟩ (by decide) (fun _ _ _ _ _ _ us hl => match us, hl with | [_], _ => rfl) (fun c ca => ss_cons (ss_if (SW.sb (sw_or (sb_not (b_tr c (x_isi c (T := "int") (T.free 0) (T.free 1) rfl (x_v c 0 (.inl rfl))))) (sw_or (b_tr c (x_isi c (T := "bool") (T.free 0) (T.free 2) rfl (x_v c 0 (.inl rfl)))) (sw_or1 (sb_not (b_lele c (se_int) (x_v c 0 (.inl rfl)) (x_gi c (T.int 23)))))))) (ss_cons (s_raise c (x_BadTotal T) (by decide) (a_cons c (x_v c 0 (.inl rfl)) (sa_nil))) (ss_nil)) (ss_nil)) (ss_cons (ss_ret (x_v c 0 (.inl rfl))) (ss_nil)))
abbrev s_orders_sum : Stmt := top 22
def m_orders_sum : SM := sSeq (sSet 3 (mLc (mSeq (mCall 1 f_name_orders [] (mCons (mCallB (f1 gLen) (mCons (mVar 0) (mNil))) (mNil)))) (.nm 4) none (mCallB fTuple (mCons (mLc (mSeq (mVar 4)) (.nm 6) none (mBin fIx (mVar 0) (mVar 6)) [6]) (mNil))) [4])) (sSeq (sIf (mTru (mVar 2)) (sSeq (sFrz 3 (sSet 3 (mDd (mSeq (mVar 3)) 5))) (sSkip)) (sSkip)) (sSeq (sFrz 3 (sRet (mCallB (f1 gSum) (mCons (mLc (mSeq (mVar 3)) (.nm 5) none (mCall 2 f_product_of [] (mCons (mVar 5) (mCons (mVar 1) (mNil)))) [5]) (mNil))))) (sSkip)))
def f_orders_sum : FM := runM m_orders_sum 7
theorem c_orders_sum {P : Program} {w : World} {K : PySem.W.Frag} {mg : Str → Option Value} {base : Heap} (T : Tx K mg base) : CalM P w K mg base 3 3 "orders_sum" f_orders_sum [] :=
  calM (N := ["content", "worths", "unlike", "rows", "order", "row", "name"]) (ps := ["content", "worths", "unlike"]) (m := m_orders_sum) (T.c.def_ 10 rfl) (T.glo 26) ⟨rfl, rfl, rfl, by decide +kernel, rfl, by decide +kernel, by decide +kernel⟩ (by decide) (fun _ _ _ _ _ _ us hl => match us, hl with | [_, _, _], _ => rfl) (fun c ca => ss_cons (s_setLc c 3 [("order", 4)] rfl (i_seq c (x_call c (c_name_orders T) (by decide) (a_cons c (x_len c (T.free 19) (a_cons c (x_v c 0 (.inr (.inl rfl))) (sa_nil))) (sa_nil)))) (blk_of (by rfl)) (fun s H C cl fp c => ⟨g_nm c 4 (.inl rfl) (.inr rfl), pts_nil, x_tuple c (T.free 25) (a_cons c (x_lc c [("name", 6)] (i_seq c (x_v c 4 (.inl rfl))) (blk_of (by rfl)) (fun s H C cl fp c => ⟨g_nm c 6 (.inl rfl) (.inr rfl), pts_nil, x_ix c (x_v c 0 (.inr (.inl rfl))) (x_v c 6 (.inl rfl))⟩)) (sa_nil))⟩)) (ss_cons (ss_if (b_tr c (x_v c 2 (.inl rfl))) (ss_cons (ss_frz (i := 3) (s_set c 3 (.inl rfl) (x_dd c (T.free 7) (i_seq c (x_v c 3 (.inl rfl))) (blk_of (by rfl)) (fun s H C cl fp c => ⟨g_nm c 5 (.inl rfl) (.inr rfl), x_v c 5 (.inl rfl)⟩)))) (ss_nil)) (ss_nil)) (ss_cons (ss_frz (i := 3) (ss_ret (x_sum c (T.free 14) (a_cons c (x_lc c [("row", 5)] (i_seq c (x_v c 3 (.inl rfl))) (blk_of (by rfl)) (fun s H C cl fp c => ⟨g_nm c 5 (.inl rfl) (.inr rfl), pts_nil, x_call c (c_product_of T) (by decide) (a_cons c (x_v c 5 (.inl rfl)) (a_cons c (x_v c 1 (.inr (.inl rfl))) (sa_nil)))⟩)) (sa_nil))))) (ss_nil))))
abbrev s__law_worths : Stmt := top 29
def m__law_worths : SM := sSeq (sSet 3 (mBin fIx (mLst (mCons (mC (.int 3)) (mCons (mC (.int 12)) (mCons (mC (.int 101)) (mNil))))) (mCall 2 f__law_draw [] (mCons (mVar 0) (mCons (mC (.int 3)) (mNil)))))) (sSeq (sRet (mCallB fTuple (mCons (mLc (mRange1 (mVar 1)) (.nm 4) none (mCallB (f2 gMax) (mCons (mVar 2) (mCons (mBin fAdd (mBin fSub (mCall 2 f__law_draw [] (mCons (mVar 0) (mCons (mBin fSub (mBin fMul (mC (.int 2)) (mVar 3)) (mC (.int 1))) (mNil)))) (mVar 3)) (mC (.int 1))) (mNil)))) [4]) (mNil)))) (sSkip))
def f__law_worths : FM := runM m__law_worths 5
theorem c__law_worths {P : Program} {w : World} {K : PySem.W.Frag} {mg : Str → Option Value} {base : Heap} (T : Tx K mg base) : CalM P w K mg base 3 3 "_law_worths" f__law_worths [] :=
  calM (N := ["_law_state", "_law_n", "_law_least", "_law_most_so", "_law_name"]) (ps := ["_law_state", "_law_n", "_law_least"]) (m := m__law_worths) (T.c.def_ 16 rfl) (T.glo 28) ⟨rfl, rfl, rfl, by decide +kernel, rfl, by decide +kernel, by decide +kernel⟩ (by decide) (fun _ _ _ _ _ _ us hl => match us, hl with | [_, _, _], _ => rfl) (fun c ca => ss_cons (s_set c 3 (.inr rfl) (x_ix c (se_lst (a_cons c (se_int) (a_cons c (se_int) (a_cons c (se_int) (sa_nil))))) (x_call c (c__law_draw T) (by decide) (a_cons c (x_v c 0 (.inr (.inl rfl))) (a_cons c (se_int) (sa_nil)))))) (ss_cons (ss_ret (x_tuple c (T.free 25) (a_cons c (x_lc c [("_law_name", 4)] (i_r1 c (T.free 4) (x_v c 1 (.inl rfl))) (blk_of (by rfl)) (fun s H C cl fp c => ⟨g_nm c 4 (.inl rfl) (.inr rfl), pts_nil, x_max c (T.free 27) (a_cons c (x_v c 2 (.inr (.inl rfl))) (a_cons c (x_add c (x_sub c (x_call c (c__law_draw T) (by decide) (a_cons c (x_v c 0 (.inr (.inl rfl))) (a_cons c (x_sub c (x_mul c (se_int) (x_v c 3 (.inr (.inl rfl)))) (se_int)) (sa_nil)))) (x_v c 3 (.inr (.inl rfl)))) (se_int)) (sa_nil)))⟩)) (sa_nil)))) (ss_nil)))
abbrev s__law_even : Stmt := top 34
def m__law_even : SM := sSeq (sSet 2 (mCallB (f1 gLen) (mCons (mVar 0) (mNil)))) (sSeq (sRet (mCallB (f1 gSum) (mCons (mLc (mSeq (mCall 1 f__law_orders [] (mCons (mVar 2) (mNil)))) (.nm 3) none (mCall 2 f__law_product [] (mCons (mLc (mSeq (mVar 3)) (.nm 4) none (mBin fIx (mVar 0) (mVar 4)) [4]) (mCons (mVar 1) (mNil)))) [3]) (mNil)))) (sSkip))
def f__law_even : FM := runM m__law_even 5
theorem c__law_even {P : Program} {w : World} {K : PySem.W.Frag} {mg : Str → Option Value} {base : Heap} (T : Tx K mg base) : CalM P w K mg base 3 2 "_law_even" f__law_even [] :=
  calM (N := ["_law_content", "_law_worths_so", "_law_n", "_law_order", "_law_k"]) (ps := ["_law_content", "_law_worths_so"]) (m := m__law_even) (T.c.def_ 21 rfl) (T.glo 29) ⟨rfl, rfl, rfl, by decide +kernel, rfl, by decide +kernel, by decide +kernel⟩ (by decide) (fun _ _ _ _ _ _ us hl => match us, hl with | [_, _], _ => rfl) (fun c ca => ss_cons (s_set c 2 (.inl rfl) (x_len c (T.free 19) (a_cons c (x_v c 0 (.inr (.inl rfl))) (sa_nil)))) (ss_cons (ss_ret (x_sum c (T.free 14) (a_cons c (x_lc c [("_law_order", 3)] (i_seq c (x_call c (c__law_orders T) (by decide) (a_cons c (x_v c 2 (.inl rfl)) (sa_nil)))) (blk_of (by rfl)) (fun s H C cl fp c => ⟨g_nm c 3 (.inl rfl) (.inr rfl), pts_nil, x_call c (c__law_product T) (by decide) (a_cons c (x_lc c [("_law_k", 4)] (i_seq c (x_v c 3 (.inl rfl))) (blk_of (by rfl)) (fun s H C cl fp c => ⟨g_nm c 4 (.inl rfl) (.inr rfl), pts_nil, x_ix c (x_v c 0 (.inr (.inl rfl))) (x_v c 4 (.inl rfl))⟩)) (a_cons c (x_v c 1 (.inr (.inl rfl))) (sa_nil)))⟩)) (sa_nil)))) (ss_nil)))
abbrev s__law_unlike : Stmt := top 35
def m__law_unlike : SM := sSeq (sSet 2 (mLst (mNil))) (sSeq (sFor (mSeq (mCall 1 f__law_orders [] (mCons (mCallB (f1 gLen) (mCons (mVar 0) (mNil))) (mNil)))) (.nm 3) (sSeq (sSet 4 (mCallB fTuple (mCons (mLc (mSeq (mVar 3)) (.nm 5) none (mBin fIx (mVar 0) (mVar 5)) [5]) (mNil)))) (sSeq (sIf (mCmpB fNotIn (mVar 4) (mVar 2)) (sSeq (sApp 2 (mVar 4)) (sSkip)) (sSkip)) (sSkip)))) (sSeq (sFrz 2 (sRet (mCallB (f1 gSum) (mCons (mLc (mSeq (mVar 2)) (.nm 4) none (mCall 2 f__law_product [] (mCons (mVar 4) (mCons (mVar 1) (mNil)))) [4]) (mNil))))) (sSkip)))
def f__law_unlike : FM := runM m__law_unlike 6
theorem c__law_unlike {P : Program} {w : World} {K : PySem.W.Frag} {mg : Str → Option Value} {base : Heap} (T : Tx K mg base) : CalM P w K mg base 3 2 "_law_unlike" f__law_unlike [] :=
  calM (N := ["_law_content", "_law_worths_so", "_law_met", "_law_order", "_law_row", "_law_k"]) (ps := ["_law_content", "_law_worths_so"]) (m := m__law_unlike) (T.c.def_ 22 rfl) (T.glo 30) ⟨rfl, rfl, rfl, by decide +kernel, rfl, by decide +kernel, by decide +kernel⟩ (by decide) (fun _ _ _ _ _ _ us hl => match us, hl with | [_, _], _ => rfl) (fun c ca => ss_cons (s_set c 2 (.inl rfl) (se_lst (sa_nil))) (ss_cons (s_for c (i_seq c (x_call c (c__law_orders T) (by decide) (a_cons c (x_len c (T.free 19) (a_cons c (x_v c 0 (.inr (.inl rfl))) (sa_nil))) (sa_nil)))) (g_nm c 3 (.inl rfl) (.inl rfl)) (ss_cons (s_set c 4 (.inl rfl) (x_tuple c (T.free 25) (a_cons c (x_lc c [("_law_k", 5)] (i_seq c (x_v c 3 (.inl rfl))) (blk_of (by rfl)) (fun s H C cl fp c => ⟨g_nm c 5 (.inl rfl) (.inr rfl), pts_nil, x_ix c (x_v c 0 (.inr (.inl rfl))) (x_v c 5 (.inl rfl))⟩)) (sa_nil)))) (ss_cons (ss_if (b_nin c (x_v c 4 (.inl rfl)) (x_v c 2 (.inl rfl))) (ss_cons (s_app c 2 (.inl rfl) (x_v c 4 (.inl rfl))) (ss_nil)) (ss_nil)) (ss_nil)))) (ss_cons (ss_frz (i := 2) (ss_ret (x_sum c (T.free 14) (a_cons c (x_lc c [("_law_row", 4)] (i_seq c (x_v c 2 (.inl rfl))) (blk_of (by rfl)) (fun s H C cl fp c => ⟨g_nm c 4 (.inl rfl) (.inr rfl), pts_nil, x_call c (c__law_product T) (by decide) (a_cons c (x_v c 4 (.inl rfl)) (a_cons c (x_v c 1 (.inr (.inl rfl))) (sa_nil)))⟩)) (sa_nil))))) (ss_nil))))
abbrev s__law_of : Stmt := top 37
def m__law_of : SM := sSeq (sRet (mBin fIx (mVar 1) (mCall 2 f__law_draw [] (mCons (mVar 0) (mCons (mCallB (f1 gLen) (mCons (mVar 1) (mNil))) (mNil)))))) (sSkip)
def f__law_of : FM := runM m__law_of 2
theorem c__law_of {P : Program} {w : World} {K : PySem.W.Frag} {mg : Str → Option Value} {base : Heap} (T : Tx K mg base) : CalM P w K mg base 3 2 "_law_of" f__law_of [] :=
  calM (N := ["_law_state", "_law_some"]) (ps := ["_law_state", "_law_some"]) (m := m__law_of) (T.c.def_ 24 rfl) (T.glo 31) ⟨rfl, rfl, rfl, by decide +kernel, rfl, by decide +kernel, by decide +kernel⟩ (by decide) (fun _ _ _ _ _ _ us hl => match us, hl with | [_, _], _ => rfl) (fun c ca => ss_cons (ss_ret (x_ix c (x_v c 1 (.inl rfl)) (x_call c (c__law_draw T) (by decide) (a_cons c (x_v c 0 (.inl rfl)) (a_cons c (x_len c (T.free 19) (a_cons c (x_v c 1 (.inl rfl)) (sa_nil))) (sa_nil)))))) (ss_nil))
abbrev s_is_content : Stmt := top 11
def m_is_content : SM := sSeq (sExpr (mCall 1 f_need_many [] (mCons (mVar 0) (mNil)))) (sSeq (sIf (mOrB (mNotB (mTru (mIsi "tuple" (mVar 1)))) (mCmpB fNe (mCallB (f1 gLen) (mCons (mVar 1) (mNil))) (mVar 0))) (sSeq (sRet (mC (.bool false))) (sSkip)) (sSkip)) (sSeq (sFor (mSeq (mVar 1)) (.nm 2) (sSeq (sIf (mNotB (mTru (mCall 3 f_is_from [] (mCons (mVar 2) (mCons (mC (.int 0)) (mCons (mC (.int 24)) (mNil))))))) (sSeq (sRet (mC (.bool false))) (sSkip)) (sSkip)) (sSkip))) (sSeq (sRet (mC (.bool true))) (sSkip))))
def f_is_content : FM := runM m_is_content 3
theorem c_is_content {P : Program} {w : World} {K : PySem.W.Frag} {mg : Str → Option Value} {base : Heap} (T : Tx K mg base) : CalM P w K mg base 4 2 "is_content" f_is_content [] :=
  calM (N := ["many", "value", "number"]) (ps := ["many", "value"]) (m := m_is_content) (T.c.def_ 2 rfl) (T.glo 33) ⟨rfl, rfl, rfl, by decide +kernel, rfl, by decide +kernel, by decide +kernel⟩ (by decide) (fun _ _ _ _ _ _ us hl => match us, hl with | [_, _], _ => rfl) (fun c ca => ss_cons (s_expr c (x_call c (c_need_many T) (by decide) (a_cons c (x_v c 0 (.inl rfl)) (sa_nil)))) (ss_cons (ss_if (SW.sb (sw_or (sb_not (b_tr c (x_isi c (T := "tuple") (T.free 0) (T.free 25) rfl (x_v c 1 (.inl rfl))))) (sw_or1 (b_ne c (x_len c (T.free 19) (a_cons c (x_v c 1 (.inl rfl)) (sa_nil))) (x_v c 0 (.inl rfl)))))) (ss_cons (ss_ret (se_bool)) (ss_nil)) (ss_nil)) (ss_cons (s_for c (i_seq c (x_v c 1 (.inl rfl))) (g_nm c 2 (.inl rfl) (.inl rfl)) (ss_cons (ss_if (sb_not (b_tr c (x_call c (c_is_from T) (by decide) (a_cons c (x_v c 2 (.inl rfl)) (a_cons c (se_int) (a_cons c (x_gi c (T.int 32)) (sa_nil))))))) (ss_cons (ss_ret (se_bool)) (ss_nil)) (ss_nil)) (ss_nil))) (ss_cons (ss_ret (se_bool)) (ss_nil)))))
abbrev s_need_worths : Stmt := top 16
def m_need_worths : SM := sSeq (sExpr (mCall 1 f_need_many [] (mCons (mVar 0) (mNil)))) (sSeq (sIf (mOrB (mNotB (mTru (mIsi "tuple" (mVar 1)))) (mCmpB fNe (mCallB (f1 gLen) (mCons (mVar 1) (mNil))) (mVar 0))) (sSeq (sRaise "BadWorths" ["value"] (mCons (mVar 1) (mNil))) (sSkip)) (sSkip)) (sSeq (sFor (mSeq (mVar 1)) (.nm 2) (sSeq (sIf (mOrB (mNotB (mTru (mIsi "int" (mVar 2)))) (mOrB (mTru (mIsi "bool" (mVar 2))) (mNotB (mBl (mChain (fCm iLe) (fCm iLe) (mNeg (mC (.int 100))) (mVar 2) (mC (.int 100))))))) (sSeq (sRaise "BadWorths" ["value"] (mCons (mVar 1) (mNil))) (sSkip)) (sSkip)) (sSkip))) (sSeq (sRet (mVar 1)) (sSkip))))
def f_need_worths : FM := runM m_need_worths 3
theorem c_need_worths {P : Program} {w : World} {K : PySem.W.Frag} {mg : Str → Option Value} {base : Heap} (T : Tx K mg base) : CalM P w K mg base 4 2 "need_worths" f_need_worths [] :=
  calM (N := ["many", "value", "thing"]) (ps := ["many", "value"]) (m := m_need_worths) (T.c.def_ 4 rfl) (T.glo 35) ⟨rfl, rfl, rfl, by decide +kernel, rfl, by decide +kernel, by decide +kernel⟩ (by decide) (fun _ _ _ _ _ _ us hl => match us, hl with | [_, _], _ => rfl) (fun c ca => ss_cons (s_expr c (x_call c (c_need_many T) (by decide) (a_cons c (x_v c 0 (.inl rfl)) (sa_nil)))) (ss_cons (ss_if (SW.sb (sw_or (sb_not (b_tr c (x_isi c (T := "tuple") (T.free 0) (T.free 25) rfl (x_v c 1 (.inl rfl))))) (sw_or1 (b_ne c (x_len c (T.free 19) (a_cons c (x_v c 1 (.inl rfl)) (sa_nil))) (x_v c 0 (.inl rfl)))))) (ss_cons (s_raise c (x_BadWorths T) (by decide) (a_cons c (x_v c 1 (.inl rfl)) (sa_nil))) (ss_nil)) (ss_nil)) (ss_cons (s_for c (i_seq c (x_v c 1 (.inl rfl))) (g_nm c 2 (.inl rfl) (.inl rfl)) (ss_cons (ss_if (SW.sb (sw_or (sb_not (b_tr c (x_isi c (T := "int") (T.free 0) (T.free 1) rfl (x_v c 2 (.inl rfl))))) (sw_or (b_tr c (x_isi c (T := "bool") (T.free 0) (T.free 2) rfl (x_v c 2 (.inl rfl)))) (sw_or1 (sb_not (b_lele c (se_neg (x_gi c (T.int 34))) (x_v c 2 (.inl rfl)) (x_gi c (T.int 34)))))))) (ss_cons (s_raise c (x_BadWorths T) (by decide) (a_cons c (x_v c 1 (.inl rfl)) (sa_nil))) (ss_nil)) (ss_nil)) (ss_nil))) (ss_cons (ss_ret (x_v c 1 (.inl rfl))) (ss_nil)))))
abbrev s_test_worths : Stmt := top 24
def m_test_worths : SM := sSeq (sExpr (mCall 1 f_need_many [] (mCons (mVar 0) (mNil)))) (sSeq (sExpr (mCall 1 f_need_total [] (mCons (mVar 1) (mNil)))) (sSeq (sSet 2 (mLst (mCons (mTup (mNil)) (mNil)))) (sSeq (sFor (mRange1 (mVar 0)) (.nm 3) (sSeq (sSet 4 (mLst (mNil))) (sSeq (sFrz 2 (sFor (mSeq (mVar 2)) (.nm 5) (sSeq (sSet 6 (mBin fSub (mVar 1) (mCallB (f1 gSum) (mCons (mVar 5) (mNil))))) (sSeq (sFrz 6 (sSet 6 (mIf (mCmpB fNe (mVar 5) (mTup (mNil))) (mCallB (f2 gMin) (mCons (mVar 6) (mCons (mBin fIx (mVar 5) (mNeg (mC (.int 1)))) (mNil)))) (mVar 6)))) (sSeq (sSet 4 (mBin fAdd (mVar 4) (mLc (mRange1 (mBin fAdd (mVar 6) (mC (.int 1)))) (.nm 7) none (mBin fAdd (mVar 5) (mTup (mCons (mVar 7) (mNil)))) [7]))) (sSkip)))))) (sSeq (sFrz 4 (sSet 2 (mVar 4))) (sSkip))))) (sSeq (sFrz 2 (sRet (mSortSR (mVar 2)))) (sSkip)))))
def f_test_worths : FM := runM m_test_worths 8
theorem c_test_worths {P : Program} {w : World} {K : PySem.W.Frag} {mg : Str → Option Value} {base : Heap} (T : Tx K mg base) : CalM P w K mg base 4 2 "test_worths" f_test_worths [] :=
  calM (N := ["many", "total", "found", "step", "more", "row", "most", "number"]) (ps := ["many", "total"]) (m := m_test_worths) (T.c.def_ 12 rfl) (T.glo 37) ⟨rfl, rfl, rfl, by decide +kernel, rfl, by decide +kernel, by decide +kernel⟩ (by decide) (fun _ _ _ _ _ _ us hl => match us, hl with | [_, _], _ => rfl) (fun c ca => by
    obtain ⟨lc, lP, ec, TB, hlm, hlu⟩ := T.lam (p := ("test_worths", none)) 0 ca
    exact (ss_cons (s_expr c (x_call c (c_need_many T) (by decide) (a_cons c (x_v c 0 (.inl rfl)) (sa_nil)))) (ss_cons (s_expr c (x_call c (c_need_total T) (by decide) (a_cons c (x_v c 1 (.inl rfl)) (sa_nil)))) (ss_cons (s_set c 2 (.inl rfl) (se_lst (a_cons c (se_tup (sa_nil)) (sa_nil)))) (ss_cons (s_for c (i_r1 c (T.free 4) (x_v c 0 (.inl rfl))) (g_nm c 3 (.inl rfl) (.inl rfl)) (ss_cons (s_set c 4 (.inl rfl) (se_lst (sa_nil))) (ss_cons (ss_frz (i := 2) (s_for c (i_seq c (x_v c 2 (.inl rfl))) (g_nm c 5 (.inr rfl) (.inl rfl)) (ss_cons (s_set c 6 (.inl rfl) (x_sub c (x_v c 1 (.inl rfl)) (x_sum c (T.free 14) (a_cons c (x_v c 5 (.inr (.inl rfl))) (sa_nil))))) (ss_cons (ss_frz (i := 6) (s_set c 6 (.inl rfl) (se_if (b_ne c (x_v c 5 (.inr (.inl rfl))) (se_tup (sa_nil))) (x_min c (T.free 15) (a_cons c (x_v c 6 (.inl rfl)) (a_cons c (x_ix c (x_v c 5 (.inr (.inl rfl))) (se_neg (se_int))) (sa_nil)))) (x_v c 6 (.inl rfl))))) (ss_cons (s_set c 4 (.inl rfl) (x_add c (x_v c 4 (.inl rfl)) (x_lc c [("number", 7)] (i_r1 c (T.free 4) (x_add c (x_v c 6 (.inl rfl)) (se_int))) (blk_of (by rfl)) (fun s H C cl fp c => ⟨g_nm c 7 (.inl rfl) (.inr rfl), pts_nil, x_add c (x_v c 5 (.inr (.inl rfl))) (se_tup (a_cons c (x_v c 7 (.inl rfl)) (sa_nil)))⟩)))) (ss_nil)))))) (ss_cons (ss_frz (i := 4) (s_set c 2 (.inl rfl) (x_v c 4 (.inl rfl)))) (ss_nil))))) (ss_cons (ss_frz (i := 2) (ss_ret (x_sortSR c (T.free 36) (T.free 14) TB ec hlm hlu (x_v c 2 (.inl rfl))))) (ss_nil)))))))
abbrev s_need_content : Stmt := top 12
def m_need_content : SM := sSeq (sIf (mNotB (mTru (mCall 2 f_is_content [] (mCons (mVar 0) (mCons (mVar 1) (mNil)))))) (sSeq (sRaise "BadContent" ["value"] (mCons (mVar 1) (mNil))) (sSkip)) (sSkip)) (sSeq (sRet (mVar 1)) (sSkip))
def f_need_content : FM := runM m_need_content 2
theorem c_need_content {P : Program} {w : World} {K : PySem.W.Frag} {mg : Str → Option Value} {base : Heap} (T : Tx K mg base) : CalM P w K mg base 5 2 "need_content" f_need_content [] :=
  calM (N := ["many", "value"]) (ps := ["many", "value"]) (m := m_need_content) (T.c.def_ 3 rfl) (T.glo 38) ⟨rfl, rfl, rfl, by decide +kernel, rfl, by decide +kernel, by decide +kernel⟩ (by decide) (fun _ _ _ _ _ _ us hl => match us, hl with | [_, _], _ => rfl) (fun c ca => ss_cons (ss_if (sb_not (b_tr c (x_call c (c_is_content T) (by decide) (a_cons c (x_v c 0 (.inl rfl)) (a_cons c (x_v c 1 (.inl rfl)) (sa_nil)))))) (ss_cons (s_raise c (x_BadContent T) (by decide) (a_cons c (x_v c 1 (.inl rfl)) (sa_nil))) (ss_nil)) (ss_nil)) (ss_cons (ss_ret (x_v c 1 (.inl rfl))) (ss_nil)))
abbrev s_product_at : Stmt := top 20
def m_product_at : SM := sSeq (sExpr (mCall 1 f_need_many [] (mCons (mVar 0) (mNil)))) (sSeq (sExpr (mCall 2 f_need_content [] (mCons (mVar 0) (mCons (mVar 1) (mNil))))) (sSeq (sExpr (mCall 2 f_need_worths [] (mCons (mVar 0) (mCons (mVar 2) (mNil))))) (sSeq (sRet (mCall 2 f_product_of [] (mCons (mVar 1) (mCons (mVar 2) (mNil))))) (sSkip))))
def f_product_at : FM := runM m_product_at 3
theorem c_product_at {P : Program} {w : World} {K : PySem.W.Frag} {mg : Str → Option Value} {base : Heap} (T : Tx K mg base) : CalM P w K mg base 6 3 "product_at" f_product_at [] :=
  calM (N := ["many", "content", "worths"]) (ps := ["many", "content", "worths"]) (m := m_product_at) (T.c.def_ 8 rfl) (T.glo 39) ⟨rfl, rfl, rfl, by decide +kernel, rfl, by decide +kernel, by decide +kernel⟩ (by decide) (fun _ _ _ _ _ _ us hl => match us, hl with | [_, _, _], _ => rfl) (fun c ca => ss_cons (s_expr c (x_call c (c_need_many T) (by decide) (a_cons c (x_v c 0 (.inl rfl)) (sa_nil)))) (ss_cons (s_expr c (x_call c (c_need_content T) (by decide) (a_cons c (x_v c 0 (.inl rfl)) (a_cons c (x_v c 1 (.inl rfl)) (sa_nil))))) (ss_cons (s_expr c (x_call c (c_need_worths T) (by decide) (a_cons c (x_v c 0 (.inl rfl)) (a_cons c (x_v c 2 (.inl rfl)) (sa_nil))))) (ss_cons (ss_ret (x_call c (c_product_of T) (by decide) (a_cons c (x_v c 1 (.inl rfl)) (a_cons c (x_v c 2 (.inl rfl)) (sa_nil))))) (ss_nil)))))
abbrev s_even_sum : Stmt := top 23
def m_even_sum : SM := sSeq (sExpr (mCall 1 f_need_many [] (mCons (mVar 0) (mNil)))) (sSeq (sExpr (mCall 2 f_need_content [] (mCons (mVar 0) (mCons (mVar 1) (mNil))))) (sSeq (sExpr (mCall 2 f_need_worths [] (mCons (mVar 0) (mCons (mVar 2) (mNil))))) (sSeq (sRet (mCall 3 f_orders_sum [] (mCons (mVar 1) (mCons (mVar 2) (mCons (mVar 3) (mNil)))))) (sSkip))))
def f_even_sum : FM := runM m_even_sum 4
theorem b_even_sum {P : Program} {w : World} {K : PySem.W.Frag} {mg : Str → Option Value} {base : Heap} (T : Tx K mg base) {cdv : Value} {A : Around} {outer : List Env} {s : Shared} {H : Hp} {E : XK} (c : Ct (cxG P w K mg base ["many", "content", "worths", "unlike"] "even_sum" (L2.defScope s_even_sum) (He.ga K "even_sum") cdv A outer s H E) (xP K mg E) 5) (ca : CodeAt K (He.ga K "even_sum") cdv) :
    SSs (cxG P w K mg base ["many", "content", "worths", "unlike"] "even_sum" (L2.defScope s_even_sum) (He.ga K "even_sum") cdv A outer s H E) (xP K mg E) (L2.defBody s_even_sum) m_even_sum :=
  ss_cons (s_expr c (x_call c (c_need_many T) (by decide) (a_cons c (x_v c 0 (.inl rfl)) (sa_nil)))) (ss_cons (s_expr c (x_call c (c_need_content T) (by decide) (a_cons c (x_v c 0 (.inl rfl)) (a_cons c (x_v c 1 (.inl rfl)) (sa_nil))))) (ss_cons (s_expr c (x_call c (c_need_worths T) (by decide) (a_cons c (x_v c 0 (.inl rfl)) (a_cons c (x_v c 2 (.inl rfl)) (sa_nil))))) (ss_cons (ss_ret (x_call c (c_orders_sum T) (by decide) (a_cons c (x_v c 1 (.inl rfl)) (a_cons c (x_v c 2 (.inl rfl)) (a_cons c (x_v c 3 (.inl rfl)) (sa_nil)))))) (ss_nil))))
theorem c_even_sum_d {P : Program} {w : World} {K : PySem.W.Frag} {mg : Str → Option Value} {base : Heap} (T : Tx K mg base) : CalM P w K mg base 6 4 "even_sum" f_even_sum [.bool false] :=
  calD (N := ["many", "content", "worths", "unlike"]) (ps := ["many", "content", "worths", "unlike"]) (m := m_even_sum) (n := 3) (dvs := [.bool false]) (T.c.def_ 11 rfl) (T.glo 40) ⟨rfl, rfl, rfl, by decide +kernel, rfl, by decide +kernel, by decide +kernel⟩ (by decide) (by intro h; cases h) rfl (fun F => .cons (.bl false) (.nil)) (fun D doc pm an cdv ct us ks hu hk => match us, ks, hu, hk with | [_, _, _], [_], _, _ => ⟨_, _, _, _, _, _, rfl, rfl, rfl⟩) (fun c ca => b_even_sum T c ca)
theorem k_even_sum {P : Program} {w : World} {K : PySem.W.Frag} {mg : Str → Option Value} {base : Heap} (T : Tx K mg base) : CalK P w K mg base 6 3 ["unlike"] "even_sum" f_even_sum :=
  calKw (N := ["many", "content", "worths", "unlike"]) (ps := ["many", "content", "worths", "unlike"]) (m := m_even_sum) (T.c.def_ 11 rfl) (T.glo 40) ⟨rfl, rfl, rfl, by decide +kernel, rfl, by decide +kernel, by decide +kernel⟩ (by decide) rfl (fun kV doc pm an cdv ct us ws hu hw => match us, ws, hu, hw with | [_, _, _], [_], _, _ => rfl) (fun c ca => b_even_sum T c ca)
abbrev s__law_asked : Stmt := top 38
def m__law_asked : SM := sSeq (sTry tab (sSeq (sIf (mCmpB fEq (mVar 0) (mC (.int 0))) (sSeq (sSet 5 (mLst (mCons (mC (.str "told")) (mCons (mCall 2 f_need_worths [] (mCons (mVar 1) (mCons (mVar 3) (mNil)))) (mNil))))) (sSkip)) (sSeq (sIf (mCmpB fEq (mVar 0) (mC (.int 1))) (sSeq (sSet 5 (mLst (mCons (mC (.str "told")) (mCons (mCall 3 f_product_at [] (mCons (mVar 1) (mCons (mVar 2) (mCons (mVar 3) (mNil))))) (mNil))))) (sSkip)) (sSeq (sIf (mCmpB fEq (mVar 0) (mC (.int 2))) (sSeq (sSet 5 (mLst (mCons (mC (.str "told")) (mCons (mCall 4 f_even_sum [.bool false] (mCons (mVar 1) (mCons (mVar 2) (mCons (mVar 3) (mNil))))) (mNil))))) (sSkip)) (sSeq (sSet 5 (mLst (mCons (mC (.str "told")) (mCons (mCall 2 f_test_worths [] (mCons (mVar 1) (mCons (mVar 4) (mNil)))) (mNil))))) (sSkip))) (sSkip))) (sSkip))) (sSkip)) [⟨"BadMany", some 6, sSeq (sSet 5 (mLst (mCons (mC (.str "BadMany")) (mCons (mXf ft 6 "value") (mNil))))) (sSkip)⟩, ⟨"BadContent", some 6, sSeq (sSet 5 (mLst (mCons (mC (.str "BadContent")) (mCons (mXf ft 6 "value") (mNil))))) (sSkip)⟩, ⟨"BadWorths", some 6, sSeq (sSet 5 (mLst (mCons (mC (.str "BadWorths")) (mCons (mXf ft 6 "value") (mNil))))) (sSkip)⟩, ⟨"BadTotal", some 6, sSeq (sSet 5 (mLst (mCons (mC (.str "BadTotal")) (mCons (mXf ft 6 "value") (mNil))))) (sSkip)⟩]) (sSeq (sFrz 5 (sRet (mVar 5))) (sSkip))
def f__law_asked : FM := runM m__law_asked 7
theorem c__law_asked {P : Program} {w : World} {K : PySem.W.Frag} {mg : Str → Option Value} {base : Heap} (T : Tx K mg base) : CalM P w K mg base 7 5 "_law_asked" f__law_asked [] :=
  calM (N := ["_law_f", "_law_n", "_law_content", "_law_worths_so", "_law_total", "_law_found", "e"]) (ps := ["_law_f", "_law_n", "_law_content", "_law_worths_so", "_law_total"]) (m := m__law_asked) (T.c.def_ 25 rfl) (T.glo 45) ⟨rfl, rfl, rfl, by decide +kernel, rfl, by decide +kernel, by decide +kernel⟩ (by decide) (fun _ _ _ _ _ _ us hl => match us, hl with | [_, _, _, _, _], _ => rfl) (fun c ca => ss_cons (s_try c (tab_ok T) (fun W pn xe c => ss_cons (ss_if (b_eq c (x_v c 0 (.inl rfl)) (se_int)) (ss_cons (s_set c 5 (.inl rfl) (se_lst (a_cons c (se_str) (a_cons c (x_call c (c_need_worths T) (by decide) (a_cons c (x_v c 1 (.inl rfl)) (a_cons c (x_v c 3 (.inl rfl)) (sa_nil)))) (sa_nil))))) (ss_nil)) (ss_cons (ss_if (b_eq c (x_v c 0 (.inl rfl)) (se_int)) (ss_cons (s_set c 5 (.inl rfl) (se_lst (a_cons c (se_str) (a_cons c (x_call c (c_product_at T) (by decide) (a_cons c (x_v c 1 (.inl rfl)) (a_cons c (x_v c 2 (.inl rfl)) (a_cons c (x_v c 3 (.inl rfl)) (sa_nil))))) (sa_nil))))) (ss_nil)) (ss_cons (ss_if (b_eq c (x_v c 0 (.inl rfl)) (se_int)) (ss_cons (s_set c 5 (.inl rfl) (se_lst (a_cons c (se_str) (a_cons c (x_call c (c_even_sum_d T) (by decide) (a_cons c (x_v c 1 (.inl rfl)) (a_cons c (x_v c 2 (.inl rfl)) (a_cons c (x_v c 3 (.inl rfl)) (sa_nil))))) (sa_nil))))) (ss_nil)) (ss_cons (s_set c 5 (.inl rfl) (se_lst (a_cons c (se_str) (a_cons c (x_call c (c_test_worths T) (by decide) (a_cons c (x_v c 1 (.inl rfl)) (a_cons c (x_v c 4 (.inl rfl)) (sa_nil)))) (sa_nil))))) (ss_nil))) (ss_nil))) (ss_nil))) (ss_nil)) (.named rfl (by decide) (T.glo 44) rfl rfl (fun a oe d pn cn C' hmc hz hv => ss_cons (z_set 5 c.nd (.inl rfl) (se_lst (z_cons (se_str) (z_cons (se_xf rfl (ft_ok T) hmc hz hv (i := 6) rfl (.inl rfl) (by decide) (by decide) rfl) (sa_nil))))) (ss_nil)) (.named rfl (by decide) (T.glo 43) rfl rfl (fun a oe d pn cn C' hmc hz hv => ss_cons (z_set 5 c.nd (.inl rfl) (se_lst (z_cons (se_str) (z_cons (se_xf rfl (ft_ok T) hmc hz hv (i := 6) rfl (.inl rfl) (by decide) (by decide) rfl) (sa_nil))))) (ss_nil)) (.named rfl (by decide) (T.glo 42) rfl rfl (fun a oe d pn cn C' hmc hz hv => ss_cons (z_set 5 c.nd (.inl rfl) (se_lst (z_cons (se_str) (z_cons (se_xf rfl (ft_ok T) hmc hz hv (i := 6) rfl (.inl rfl) (by decide) (by decide) rfl) (sa_nil))))) (ss_nil)) (.named rfl (by decide) (T.glo 41) rfl rfl (fun a oe d pn cn C' hmc hz hv => ss_cons (z_set 5 c.nd (.inl rfl) (se_lst (z_cons (se_str) (z_cons (se_xf rfl (ft_ok T) hmc hz hv (i := 6) rfl (.inl rfl) (by decide) (by decide) rfl) (sa_nil))))) (ss_nil)) .nil))))) (ss_cons (ss_frz (i := 5) (ss_ret (x_v c 5 (.inl rfl)))) (ss_nil)))
abbrev s_law : Stmt := top 39
def m_law : SM := sSeq (sSet 1 (mCall 1 f__law_begin [] (mCons (mVar 0) (mNil)))) (sSeq (sSet 2 (mBin fAdd (mC (.int 2)) (mCall 2 f__law_draw [] (mCons (mVar 1) (mCons (mC (.int 3)) (mNil)))))) (sSeq (sSet 3 (mIf (mCmpB fEq (mVar 2) (mC (.int 2))) (mC (.int 25)) (mC (.int 7)))) (sSeq (sSet 4 (mLc (mRange1 (mVar 2)) (.nm 16) none (mCall 2 f__law_draw [] (mCons (mVar 1) (mCons (mVar 3) (mNil)))) [16])) (sSeq (sIf (mCmpB fEq (mCall 2 f__law_draw [] (mCons (mVar 1) (mCons (mC (.int 2)) (mNil)))) (mC (.int 0))) (sSeq (sPut 4 (mCall 2 f__law_draw [] (mCons (mVar 1) (mCons (mVar 2) (mNil)))) (mBin fIx (mVar 4) (mCall 2 f__law_draw [] (mCons (mVar 1) (mCons (mVar 2) (mNil)))))) (sSkip)) (sSkip)) (sSeq (sSet 4 (mCallB fTuple (mCons (mVar 4) (mNil)))) (sSeq (sSet 5 (mCall 3 f__law_worths [] (mCons (mVar 1) (mCons (mVar 2) (mCons (mNeg (mC (.int 100))) (mNil)))))) (sSeq (sIf (mNotB (mTru (mCall 2 f__law_like [] (mCons (mCall 2 f_need_worths [] (mCons (mVar 2) (mCons (mVar 5) (mNil)))) (mCons (mVar 5) (mNil)))))) (sSeq (sRet (mC (.bool false))) (sSkip)) (sSkip)) (sSeq (sFrz 4 (sIf (mNotB (mTru (mCall 2 f__law_like [] (mCons (mCall 3 f_product_at [] (mCons (mVar 2) (mCons (mVar 4) (mCons (mVar 5) (mNil))))) (mCons (mCall 2 f__law_product [] (mCons (mVar 4) (mCons (mVar 5) (mNil)))) (mNil)))))) (sSeq (sRet (mC (.bool false))) (sSkip)) (sSkip))) (sSeq (sFrz 4 (sSet 6 (mCall 2 f__law_even [] (mCons (mVar 4) (mCons (mVar 5) (mNil)))))) (sSeq (sFrz 4 (sIf (mOrB (mNotB (mTru (mCall 2 f__law_like [] (mCons (mCall 4 f_even_sum [.bool false] (mCons (mVar 2) (mCons (mVar 4) (mCons (mVar 5) (mNil))))) (mCons (mVar 6) (mNil)))))) (mNotB (mTru (mCall 2 f__law_like [] (mCons (mCallK 3 1 f_even_sum (mCons (mVar 2) (mCons (mVar 4) (mCons (mVar 5) (mNil)))) (mCons (mC (.bool false)) (mNil))) (mCons (mVar 6) (mNil))))))) (sSeq (sRet (mC (.bool false))) (sSkip)) (sSkip))) (sSeq (sFrz 4 (sIf (mNotB (mTru (mCall 2 f__law_like [] (mCons (mCallK 3 1 f_even_sum (mCons (mVar 2) (mCons (mVar 4) (mCons (mVar 5) (mNil)))) (mCons (mC (.bool true)) (mNil))) (mCons (mCall 2 f__law_unlike [] (mCons (mVar 4) (mCons (mVar 5) (mNil)))) (mNil)))))) (sSeq (sRet (mC (.bool false))) (sSkip)) (sSkip))) (sSeq (sSet 7 (mCall 2 f__law_draw [] (mCons (mVar 1) (mCons (mC (.int 7)) (mNil))))) (sSeq (sSet 8 (mLst (mNil))) (sSeq (sFor (mRange1 (mBin fAdd (mVar 7) (mC (.int 1)))) (.nm 9) (sSeq (sSet 8 (mBin fAdd (mVar 8) (mCall 2 f__law_falling [] (mCons (mVar 2) (mCons (mVar 9) (mNil)))))) (sSkip))) (sSeq (sFrz 8 (sIf (mNotB (mTru (mCall 2 f__law_like [] (mCons (mCall 2 f_test_worths [] (mCons (mVar 2) (mCons (mVar 7) (mNil)))) (mCons (mVar 8) (mNil)))))) (sSeq (sRet (mC (.bool false))) (sSkip)) (sSkip))) (sSeq (sSet 10 (mCall 2 f__law_of [] (mCons (mVar 1) (mCons (mLst (mCons (mC (.int 1)) (mCons (mC (.int 6)) (mCons (mC (.bool true)) (mCons (mC (.str "2")) (mCons (mC .none) (mNil))))))) (mNil))))) (sSeq (sSet 11 (mCall 2 f__law_of [] (mCons (mVar 1) (mCons (mLst (mCons (mBin fAdd (mVar 4) (mTup (mCons (mC (.int 0)) (mNil)))) (mCons (mSl (mVar 4) (some (mC (.int 1))) none) (mCons (mBin fAdd (mTup (mCons (mNeg (mC (.int 1))) (mNil))) (mSl (mVar 4) (some (mC (.int 1))) none)) (mCons (mBin fAdd (mSl (mVar 4) none (some (mNeg (mC (.int 1))))) (mTup (mCons (mC (.int 25)) (mNil)))) (mCons (mCallB fList (mCons (mVar 4) (mNil))) (mCons (mC .none) (mCons (mBin fAdd (mTup (mCons (mC (.bool true)) (mNil))) (mSl (mVar 4) (some (mC (.int 1))) none)) (mNil))))))))) (mNil))))) (sSeq (sSet 12 (mCall 2 f__law_of [] (mCons (mVar 1) (mCons (mLst (mCons (mBin fAdd (mVar 5) (mTup (mCons (mC (.int 1)) (mNil)))) (mCons (mSl (mVar 5) (some (mC (.int 1))) none) (mCons (mBin fAdd (mTup (mCons (mC (.int 101)) (mNil))) (mSl (mVar 5) (some (mC (.int 1))) none)) (mCons (mBin fAdd (mSl (mVar 5) none (some (mNeg (mC (.int 1))))) (mTup (mCons (mNeg (mC (.int 101))) (mNil)))) (mCons (mCallB fList (mCons (mVar 5) (mNil))) (mCons (mC .none) (mCons (mBin fAdd (mTup (mCons (mC (.bool false)) (mNil))) (mSl (mVar 5) (some (mC (.int 1))) none)) (mNil))))))))) (mNil))))) (sSeq (sSet 13 (mCall 2 f__law_of [] (mCons (mVar 1) (mCons (mLst (mCons (mNeg (mC (.int 1))) (mCons (mC (.int 13)) (mCons (mC (.bool true)) (mCons (mC (.str "3")) (mCons (mC .none) (mNil))))))) (mNil))))) (sSeq (sFor (mRange1 (mC (.int 4))) (.nm 14) (sSeq (sIf (mNotB (mTru (mCall 2 f__law_like [] (mCons (mCall 5 f__law_asked [] (mCons (mVar 14) (mCons (mVar 10) (mCons (mVar 11) (mCons (mVar 12) (mCons (mVar 13) (mNil))))))) (mCons (mLst (mCons (mC (.str "BadMany")) (mCons (mVar 10) (mNil)))) (mNil)))))) (sSeq (sRet (mC (.bool false))) (sSkip)) (sSkip)) (sSeq (sSet 15 (mCall 5 f__law_asked [] (mCons (mVar 14) (mCons (mVar 2) (mCons (mVar 11) (mCons (mVar 12) (mCons (mC (.int 0)) (mNil)))))))) (sSeq (sIf (mAndB (mCmpB fIn (mVar 14) (mTup (mCons (mC (.int 1)) (mCons (mC (.int 2)) (mNil))))) (mNotB (mTru (mCall 2 f__law_like [] (mCons (mVar 15) (mCons (mLst (mCons (mC (.str "BadContent")) (mCons (mVar 11) (mNil)))) (mNil))))))) (sSeq (sRet (mC (.bool false))) (sSkip)) (sSkip)) (sSeq (sFrz 4 (sSet 15 (mCall 5 f__law_asked [] (mCons (mVar 14) (mCons (mVar 2) (mCons (mVar 4) (mCons (mVar 12) (mCons (mC (.int 0)) (mNil))))))))) (sSeq (sIf (mAndB (mCmpB (fCm iLt) (mVar 14) (mC (.int 3))) (mNotB (mTru (mCall 2 f__law_like [] (mCons (mVar 15) (mCons (mLst (mCons (mC (.str "BadWorths")) (mCons (mVar 12) (mNil)))) (mNil))))))) (sSeq (sRet (mC (.bool false))) (sSkip)) (sSkip)) (sSkip))))))) (sSeq (sFrz 4 (sRet (mCall 2 f__law_like [] (mCons (mCall 5 f__law_asked [] (mCons (mC (.int 3)) (mCons (mVar 2) (mCons (mVar 4) (mCons (mVar 5) (mCons (mVar 13) (mNil))))))) (mCons (mLst (mCons (mC (.str "BadTotal")) (mCons (mVar 13) (mNil)))) (mNil)))))) (sSkip))))))))))))))))))))))
def f_law : FM := runM m_law 17
theorem b_law {P : Program} {w : World} {K : PySem.W.Frag} {mg : Str → Option Value} {base : Heap} (T : Tx K mg base) {cdv : Value} {A : Around} {outer : List Env} {s : Shared} {H : Hp} {E : XK} (c : Ct (cxG P w K mg base ["_law_script", "_law_state", "_law_n", "_law_limit", "_law_content", "_law_worths_so", "_law_every", "_law_total", "_law_due", "_law_k", "_law_odd_many", "_law_odd_content", "_law_odd_worths", "_law_odd_total", "_law_f", "_law_told", "_law_name"] "law" (L2.defScope s_law) (He.ga K "law") cdv A outer s H E) (xP K mg E) 7) (ca : CodeAt K (He.ga K "law") cdv) :
    SSs (cxG P w K mg base ["_law_script", "_law_state", "_law_n", "_law_limit", "_law_content", "_law_worths_so", "_law_every", "_law_total", "_law_due", "_law_k", "_law_odd_many", "_law_odd_content", "_law_odd_worths", "_law_odd_total", "_law_f", "_law_told", "_law_name"] "law" (L2.defScope s_law) (He.ga K "law") cdv A outer s H E) (xP K mg E) (L2.defBody s_law) m_law :=
  ss_cons (s_set c 1 (.inr rfl) (x_call c (c__law_begin T) (by decide) (a_cons c (x_v c 0 (.inl rfl)) (sa_nil)))) (ss_cons (s_set c 2 (.inl rfl) (x_add c (se_int) (x_call c (c__law_draw T) (by decide) (a_cons c (x_v c 1 (.inr (.inl rfl))) (a_cons c (se_int) (sa_nil)))))) (ss_cons (s_set c 3 (.inr rfl) (se_if (b_eq c (x_v c 2 (.inl rfl)) (se_int)) (se_int) (se_int))) (ss_cons (s_setLc c 4 [("_law_name", 16)] rfl (i_r1 c (T.free 4) (x_v c 2 (.inl rfl))) (blk_of (by rfl)) (fun s H C cl fp c => ⟨g_nm c 16 (.inl rfl) (.inr rfl), pts_nil, x_call c (c__law_draw T) (by decide) (a_cons c (x_v c 1 (.inr (.inl rfl))) (a_cons c (x_v c 3 (.inr (.inl rfl))) (sa_nil)))⟩)) (ss_cons (ss_if (b_eq c (x_call c (c__law_draw T) (by decide) (a_cons c (x_v c 1 (.inr (.inl rfl))) (a_cons c (se_int) (sa_nil)))) (se_int)) (ss_cons (s_put c 4 (.inl rfl) (x_call c (c__law_draw T) (by decide) (a_cons c (x_v c 1 (.inr (.inl rfl))) (a_cons c (x_v c 2 (.inl rfl)) (sa_nil)))) (x_ix c (x_v c 4 (.inl rfl)) (x_call c (c__law_draw T) (by decide) (a_cons c (x_v c 1 (.inr (.inl rfl))) (a_cons c (x_v c 2 (.inl rfl)) (sa_nil)))))) (ss_nil)) (ss_nil)) (ss_cons (s_set c 4 (.inl rfl) (x_tuple c (T.free 25) (a_cons c (x_v c 4 (.inl rfl)) (sa_nil)))) (ss_cons (s_set c 5 (.inl rfl) (x_call c (c__law_worths T) (by decide) (a_cons c (x_v c 1 (.inr (.inl rfl))) (a_cons c (x_v c 2 (.inl rfl)) (a_cons c (se_neg (se_int)) (sa_nil)))))) (ss_cons (ss_if (sb_not (b_tr c (x_call c (c__law_like T) (by decide) (a_cons c (x_call c (c_need_worths T) (by decide) (a_cons c (x_v c 2 (.inl rfl)) (a_cons c (x_v c 5 (.inl rfl)) (sa_nil)))) (a_cons c (x_v c 5 (.inl rfl)) (sa_nil)))))) (ss_cons (ss_ret (se_bool)) (ss_nil)) (ss_nil)) (ss_cons (ss_frz (i := 4) (ss_if (sb_not (b_tr c (x_call c (c__law_like T) (by decide) (a_cons c (x_call c (c_product_at T) (by decide) (a_cons c (x_v c 2 (.inl rfl)) (a_cons c (x_v c 4 (.inl rfl)) (a_cons c (x_v c 5 (.inl rfl)) (sa_nil))))) (a_cons c (x_call c (c__law_product T) (by decide) (a_cons c (x_v c 4 (.inl rfl)) (a_cons c (x_v c 5 (.inl rfl)) (sa_nil)))) (sa_nil)))))) (ss_cons (ss_ret (se_bool)) (ss_nil)) (ss_nil))) (ss_cons (ss_frz (i := 4) (s_set c 6 (.inl rfl) (x_call c (c__law_even T) (by decide) (a_cons c (x_v c 4 (.inl rfl)) (a_cons c (x_v c 5 (.inl rfl)) (sa_nil)))))) (ss_cons (ss_frz (i := 4) (ss_if (SW.sb (sw_or (sb_not (b_tr c (x_call c (c__law_like T) (by decide) (a_cons c (x_call c (c_even_sum_d T) (by decide) (a_cons c (x_v c 2 (.inl rfl)) (a_cons c (x_v c 4 (.inl rfl)) (a_cons c (x_v c 5 (.inl rfl)) (sa_nil))))) (a_cons c (x_v c 6 (.inl rfl)) (sa_nil)))))) (sw_or1 (sb_not (b_tr c (x_call c (c__law_like T) (by decide) (a_cons c (x_callK c (k_even_sum T) (by decide) (a_cons c (x_v c 2 (.inl rfl)) (a_cons c (x_v c 4 (.inl rfl)) (a_cons c (x_v c 5 (.inl rfl)) (sa_nil)))) (sk_cons (se_bool) (sk_nil))) (a_cons c (x_v c 6 (.inl rfl)) (sa_nil))))))))) (ss_cons (ss_ret (se_bool)) (ss_nil)) (ss_nil))) (ss_cons (ss_frz (i := 4) (ss_if (sb_not (b_tr c (x_call c (c__law_like T) (by decide) (a_cons c (x_callK c (k_even_sum T) (by decide) (a_cons c (x_v c 2 (.inl rfl)) (a_cons c (x_v c 4 (.inl rfl)) (a_cons c (x_v c 5 (.inl rfl)) (sa_nil)))) (sk_cons (se_bool) (sk_nil))) (a_cons c (x_call c (c__law_unlike T) (by decide) (a_cons c (x_v c 4 (.inl rfl)) (a_cons c (x_v c 5 (.inl rfl)) (sa_nil)))) (sa_nil)))))) (ss_cons (ss_ret (se_bool)) (ss_nil)) (ss_nil))) (ss_cons (s_set c 7 (.inl rfl) (x_call c (c__law_draw T) (by decide) (a_cons c (x_v c 1 (.inr (.inl rfl))) (a_cons c (se_int) (sa_nil))))) (ss_cons (s_set c 8 (.inl rfl) (se_lst (sa_nil))) (ss_cons (s_for c (i_r1 c (T.free 4) (x_add c (x_v c 7 (.inl rfl)) (se_int))) (g_nm c 9 (.inl rfl) (.inl rfl)) (ss_cons (s_set c 8 (.inl rfl) (x_add c (x_v c 8 (.inl rfl)) (x_call c (c__law_falling T) (by decide) (a_cons c (x_v c 2 (.inl rfl)) (a_cons c (x_v c 9 (.inl rfl)) (sa_nil)))))) (ss_nil))) (ss_cons (ss_frz (i := 8) (ss_if (sb_not (b_tr c (x_call c (c__law_like T) (by decide) (a_cons c (x_call c (c_test_worths T) (by decide) (a_cons c (x_v c 2 (.inl rfl)) (a_cons c (x_v c 7 (.inl rfl)) (sa_nil)))) (a_cons c (x_v c 8 (.inl rfl)) (sa_nil)))))) (ss_cons (ss_ret (se_bool)) (ss_nil)) (ss_nil))) (ss_cons (s_set c 10 (.inl rfl) (x_call c (c__law_of T) (by decide) (a_cons c (x_v c 1 (.inr (.inl rfl))) (a_cons c (se_lst (a_cons c (se_int) (a_cons c (se_int) (a_cons c (se_bool) (a_cons c (se_str) (a_cons c (se_none) (sa_nil))))))) (sa_nil))))) (ss_cons (s_set c 11 (.inl rfl) (x_call c (c__law_of T) (by decide) (a_cons c (x_v c 1 (.inr (.inl rfl))) (a_cons c (se_lst (a_cons c (x_add c (x_v c 4 (.inl rfl)) (se_tup (a_cons c (se_int) (sa_nil)))) (a_cons c (x_sl c (x_v c 4 (.inl rfl)) (show SO _ _ (some _) (some (mC (.int 1))) from se_int) (show SO _ _ none none from trivial)) (a_cons c (x_add c (se_tup (a_cons c (se_neg (se_int)) (sa_nil))) (x_sl c (x_v c 4 (.inl rfl)) (show SO _ _ (some _) (some (mC (.int 1))) from se_int) (show SO _ _ none none from trivial))) (a_cons c (x_add c (x_sl c (x_v c 4 (.inl rfl)) (show SO _ _ none none from trivial) (show SO _ _ (some _) (some (mNeg (mC (.int 1)))) from se_neg (se_int))) (se_tup (a_cons c (se_int) (sa_nil)))) (a_cons c (x_list c (T.free 7) (a_cons c (x_v c 4 (.inl rfl)) (sa_nil))) (a_cons c (se_none) (a_cons c (x_add c (se_tup (a_cons c (se_bool) (sa_nil))) (x_sl c (x_v c 4 (.inl rfl)) (show SO _ _ (some _) (some (mC (.int 1))) from se_int) (show SO _ _ none none from trivial))) (sa_nil))))))))) (sa_nil))))) (ss_cons (s_set c 12 (.inl rfl) (x_call c (c__law_of T) (by decide) (a_cons c (x_v c 1 (.inr (.inl rfl))) (a_cons c (se_lst (a_cons c (x_add c (x_v c 5 (.inl rfl)) (se_tup (a_cons c (se_int) (sa_nil)))) (a_cons c (x_sl c (x_v c 5 (.inl rfl)) (show SO _ _ (some _) (some (mC (.int 1))) from se_int) (show SO _ _ none none from trivial)) (a_cons c (x_add c (se_tup (a_cons c (se_int) (sa_nil))) (x_sl c (x_v c 5 (.inl rfl)) (show SO _ _ (some _) (some (mC (.int 1))) from se_int) (show SO _ _ none none from trivial))) (a_cons c (x_add c (x_sl c (x_v c 5 (.inl rfl)) (show SO _ _ none none from trivial) (show SO _ _ (some _) (some (mNeg (mC (.int 1)))) from se_neg (se_int))) (se_tup (a_cons c (se_neg (se_int)) (sa_nil)))) (a_cons c (x_list c (T.free 7) (a_cons c (x_v c 5 (.inl rfl)) (sa_nil))) (a_cons c (se_none) (a_cons c (x_add c (se_tup (a_cons c (se_bool) (sa_nil))) (x_sl c (x_v c 5 (.inl rfl)) (show SO _ _ (some _) (some (mC (.int 1))) from se_int) (show SO _ _ none none from trivial))) (sa_nil))))))))) (sa_nil))))) (ss_cons (s_set c 13 (.inl rfl) (x_call c (c__law_of T) (by decide) (a_cons c (x_v c 1 (.inr (.inl rfl))) (a_cons c (se_lst (a_cons c (se_neg (se_int)) (a_cons c (se_int) (a_cons c (se_bool) (a_cons c (se_str) (a_cons c (se_none) (sa_nil))))))) (sa_nil))))) (ss_cons (s_for c (i_r1 c (T.free 4) (se_int)) (g_nm c 14 (.inl rfl) (.inl rfl)) (ss_cons (ss_if (sb_not (b_tr c (x_call c (c__law_like T) (by decide) (a_cons c (x_call c (c__law_asked T) (by decide) (a_cons c (x_v c 14 (.inl rfl)) (a_cons c (x_v c 10 (.inl rfl)) (a_cons c (x_v c 11 (.inl rfl)) (a_cons c (x_v c 12 (.inl rfl)) (a_cons c (x_v c 13 (.inl rfl)) (sa_nil))))))) (a_cons c (se_lst (a_cons c (se_str) (a_cons c (x_v c 10 (.inl rfl)) (sa_nil)))) (sa_nil)))))) (ss_cons (ss_ret (se_bool)) (ss_nil)) (ss_nil)) (ss_cons (s_set c 15 (.inl rfl) (x_call c (c__law_asked T) (by decide) (a_cons c (x_v c 14 (.inl rfl)) (a_cons c (x_v c 2 (.inl rfl)) (a_cons c (x_v c 11 (.inl rfl)) (a_cons c (x_v c 12 (.inl rfl)) (a_cons c (se_int) (sa_nil)))))))) (ss_cons (ss_if (SW.sb (sw_and (b_in c (x_v c 14 (.inl rfl)) (se_tup (a_cons c (se_int) (a_cons c (se_int) (sa_nil))))) (sw_and1 (sb_not (b_tr c (x_call c (c__law_like T) (by decide) (a_cons c (x_v c 15 (.inl rfl)) (a_cons c (se_lst (a_cons c (se_str) (a_cons c (x_v c 11 (.inl rfl)) (sa_nil)))) (sa_nil))))))))) (ss_cons (ss_ret (se_bool)) (ss_nil)) (ss_nil)) (ss_cons (ss_frz (i := 4) (s_set c 15 (.inl rfl) (x_call c (c__law_asked T) (by decide) (a_cons c (x_v c 14 (.inl rfl)) (a_cons c (x_v c 2 (.inl rfl)) (a_cons c (x_v c 4 (.inl rfl)) (a_cons c (x_v c 12 (.inl rfl)) (a_cons c (se_int) (sa_nil))))))))) (ss_cons (ss_if (SW.sb (sw_and (b_lt c (x_v c 14 (.inl rfl)) (se_int)) (sw_and1 (sb_not (b_tr c (x_call c (c__law_like T) (by decide) (a_cons c (x_v c 15 (.inl rfl)) (a_cons c (se_lst (a_cons c (se_str) (a_cons c (x_v c 12 (.inl rfl)) (sa_nil)))) (sa_nil))))))))) (ss_cons (ss_ret (se_bool)) (ss_nil)) (ss_nil)) (ss_nil))))))) (ss_cons (ss_frz (i := 4) (ss_ret (x_call c (c__law_like T) (by decide) (a_cons c (x_call c (c__law_asked T) (by decide) (a_cons c (se_int) (a_cons c (x_v c 2 (.inl rfl)) (a_cons c (x_v c 4 (.inl rfl)) (a_cons c (x_v c 5 (.inl rfl)) (a_cons c (x_v c 13 (.inl rfl)) (sa_nil))))))) (a_cons c (se_lst (a_cons c (se_str) (a_cons c (x_v c 13 (.inl rfl)) (sa_nil)))) (sa_nil)))))) (ss_nil))))))))))))))))))))))
theorem sc_law : FnScope ["_law_script", "_law_state", "_law_n", "_law_limit", "_law_content", "_law_worths_so", "_law_every", "_law_total", "_law_due", "_law_k", "_law_odd_many", "_law_odd_content", "_law_odd_worths", "_law_odd_total", "_law_f", "_law_told", "_law_name"] ["_law_script"] (L2.defScope s_law) := ⟨rfl, rfl, rfl, by decide +kernel, rfl, by decide +kernel, by decide +kernel⟩
theorem g_law {P : Program} {w : World} {K : PySem.W.Frag} {mg : Str → Option Value} {base : Heap} {fd : FuncData} (T : Tx K mg base) (F : FunD K "law" "law" (L2.defArgs s_law) (L2.defBody s_law) (L2.defScope s_law) [] [] (He.ga K "law") fd) : FnG P w K mg base 8 (He.ga K "law") fd ["_law_script"] (spM K mg 1 f_law) :=
  fnM (N := ["_law_script", "_law_state", "_law_n", "_law_limit", "_law_content", "_law_worths_so", "_law_every", "_law_total", "_law_due", "_law_k", "_law_odd_many", "_law_odd_content", "_law_odd_worths", "_law_odd_total", "_law_f", "_law_told", "_law_name"]) (ps := ["_law_script"]) (m := m_law) F sc_law (by decide) (fun hr hg ca => b_law T (ct_body sc_law hr hg) ca)
def loose0 : List Str := ["UnitError", "BadMany", "BadContent", "BadTotal", "BadWorths", "is_from", "need_many", "MOST_OF_A_NAME", "is_content", "need_content", "MOST_WORTH", "MOST_TOTAL", "need_worths", "need_total", "power", "product_of", "product_at", "name_orders", "orders_sum", "even_sum", "test_worths", "_law_begin", "_law_mixed", "_law_draw", "_law_worths", "_law_like", "_law_power", "_law_product", "_law_orders", "_law_even"]
def loose1 : List Str := ["_law_unlike", "_law_falling", "_law_of", "_law_asked"]
def loose : List Str := loose0 ++ loose1
abbrev R : PySem.W.OpenRow := PySem.W.OpenLaw.row PySem.Challenge.rw_unithouse_k52_products_and_orders
abbrev hk : PySem.W.Hook := hookC 5 fa fn (tf.map (·.1)) (exB es tab cs xs)
abbrev ob : PySem.W.SharedT → AlC := obT 5 fa fn (tf.map (·.1)) (exB es tab cs xs)
end G
end

section
set_option Elab.async false
set_option linter.all false
set_option maxRecDepth 100000
set_option maxHeartbeats 0
namespace G
open PySem PySem.Spec PyProof.Rows L2 DL
theorem run (w : World) : HandSHeadRun.RunEq R (PySem.W.view R.prog [39]) hk ob 2400 loose w := by
  intro os
  kernel_rfl
end G
end

section
set_option Elab.async false
set_option linter.all false
set_option maxRecDepth 100000
set_option maxHeartbeats 4000000
namespace G
open PySem PySem.Spec PyProof.Rows L2 DL

/-! ### loops -/
theorem loop_inv {pt : Pt} {body : SM} {items : List D} {I : Nat → Gm → Option DS → Prop} (h : ∀ i x G t, items[i]? = some x → I i G t → ∃ G1 G2 t2, asg pt x G = some G1 ∧ body G1 t = .nx G2 t2 ∧ I (i + 1) G2 t2) {G : Gm} {t : Option DS} (h0 : I 0 G t) :
    ∃ G' t', loop pt body items G t = .nx G' t' ∧ I items.length G' t' := by
  have key : ∀ (k : Nat) (l : List D) (G : Gm) (t : Option DS), items.drop k = l → k ≤ items.length → I k G t → ∃ G' t', loop pt body l G t = .nx G' t' ∧ I items.length G' t' := by
    intro k l
    induction l generalizing k with
    | nil =>
      intro G t e hk i
      have : items.length ≤ k := List.drop_eq_nil_iff.mp e
      rw [show k = items.length by omega] at i
      exact ⟨G, t, rfl, i⟩
    | cons x l ih =>
      intro G t e hk i
      have hx : items[k]? = some x := by rw [← Nat.add_zero k, ← List.getElem?_drop, e]; rfl
      have hlt : k < items.length := by
        rcases Nat.lt_or_ge k items.length with z | z
        · exact z
        · rw [List.getElem?_eq_none z] at hx; cases hx
      obtain ⟨G1, G2, t2, a1, a2, a3⟩ := h k x G t hx i
      have e2 : items.drop (k + 1) = l := by rw [← List.drop_drop, e]; rfl
      obtain ⟨G', t', b1, b2⟩ := ih (k + 1) G2 t2 e2 (by omega) a3
      refine ⟨G', t', ?_, b2⟩
      show (match asg pt x G with | none => So.stuck | some G1 => _) = _
      rw [a1]
      show (match body G1 t with | .nx G2 t2 => loop pt body l G2 t2 | .ct G2 t2 => loop pt body l G2 t2 | .bk G2 t2 => .nx G2 t2 | o => o) = _
      rw [a2]
      exact b1
  exact key 0 items G t rfl (Nat.zero_le _) h0
/-- a comprehension that leaves the state alone -/
theorem lc_ok {pt : Pt} {cs : Option BM} {elt : EM} {G0 : Gm} {t : Option DS} {p : D → Bool} {f : D → D} : ∀ {items acc : List D}, acc.length + items.length ≤ 16777216 →
    (∀ x ∈ items, ∃ G1, asg pt x G0 = some G1 ∧ cst cs G1 t = .ok (p x) t ∧ (p x = true → (elt G1 t).fz = .ok (.d (f x)) t)) → lcLoop pt cs elt G0 items acc t = .ok (.l (acc ++ (items.filter p).map f)) t
  | [], acc, _, _ => by simp [lcLoop]
  | x :: xs, acc, hl, h => by
    obtain ⟨G1, a1, a2, a3⟩ := h x List.mem_cons_self
    have hl' : acc.length + xs.length + 1 ≤ 16777216 := by simpa [Nat.add_assoc] using hl
    simp only [lcLoop, a1]
    simp only [a2, Rs.bind]
    cases hp : p x with
    | true =>
      simp only [a3 hp, Rs.nox, if_true]
      rw [if_pos (by omega), lc_ok (by simp; omega) fun y hy => h y (List.mem_cons_of_mem _ hy)]
      simp [hp]
    | false =>
      simp only [Bool.false_eq_true, if_false]
      rw [lc_ok (by omega) fun y hy => h y (List.mem_cons_of_mem _ hy)]
      simp [hp]
/-! ### numbers -/
theorem mulOk_of {i j : Int} (hi : i.natAbs < 2 ^ 1000) (hj : j.natAbs < 2 ^ 1000) : mulOk i j = true := by
  have b : ∀ {n : Nat}, n < 2 ^ 1000 → n.log2 < 1000 := fun {n} h => by
    rcases Nat.eq_zero_or_pos n with z | z
    · subst z; decide
    · exact (Nat.log2_lt (by omega)).mpr h
  exact decide_eq_true (by have := b hi; have := b hj; omega)
theorem e1 : f_product_of = f__law_product := rfl
theorem e2 : f_name_orders = f__law_orders := rfl
theorem e_from (a b c : Int) (t : Option DS) : f_is_from [.d (.int a), .d (.int b), .d (.int c)] t = .ok (.d (.bool (decide (b ≤ a) && decide (a ≤ c)))) t := by
  unfold f_is_from
  by_cases h1 : b ≤ a <;> by_cases h2 : a ≤ c <;> simp [m_is_from, runM, argsG, Rv.arg, sSeq, sRet, sSet, sIf, sFor, sFrz, sExpr, sSkip, sApp, sRaise, mVar, mC, mBin, mCall, mCallK, mCallB, mCons, mNil, mTup, mLst, mAnd, mNot, mIsi, mChain, mIf, mNotB, mTru, mCmpB, mBl, mOrB, mAndB, mNeg, mRange1, rng1, mSeq, mZip, mSl, mPart, partI, Rs.bind, Rs.bindS, Rs.of, Rs.fz, Rv.fz, Rv.toD, Rv.truth, Rv.bl, Rv.sl, Rv.seq, Rv.items, Rv.tup, dats, f1, f2, fRead, fI, fCm, gCmp, iLt, iLe, iGt, iGe, gLen, gInt, gMin, gMax, gAbs, fAdd, fSub, fMul, fMod, fDiv, fCat, fCatT, fCatStr, isiOk, isiB, tyName, h1, h2]
theorem e_many (n : Int) (h : 2 ≤ n ∧ n ≤ 5) (t : Option DS) : f_need_many [.d (.int n)] t = .ok (.d (.int n)) t := by
  have e := e_from n 2 5 t
  simp only [h.1, h.2, decide_true, Bool.and_self] at e
  unfold f_need_many
  simp [m_need_many, runM, argsG, Rv.arg, sSeq, sRet, sSet, sIf, sFor, sFrz, sExpr, sSkip, sApp, sRaise, mVar, mC, mBin, mCall, mCallK, mCallB, mCons, mNil, mTup, mLst, mAnd, mNot, mIsi, mChain, mIf, mNotB, mTru, mCmpB, mBl, mOrB, mAndB, mNeg, mRange1, rng1, mSeq, mZip, mSl, mPart, partI, Rs.bind, Rs.bindS, Rs.of, Rs.fz, Rv.fz, Rv.toD, Rv.truth, Rv.bl, Rv.sl, Rv.seq, Rv.items, Rv.tup, dats, f1, f2, fRead, fI, fCm, gCmp, iLt, iLe, iGt, iGe, gLen, gInt, gMin, gMax, gAbs, fAdd, fSub, fMul, fMod, fDiv, fCat, fCatT, fCatStr, isiOk, isiB, tyName, e]
def mix (c k : Int) : Int := ((((c.fmod 2147483647) * (48271 + 2 * k * k) + 69621 * k + 11).fmod 2147483647) * 69621).fmod 2147483629
theorem e_mixed (c k : Int) (h0 : 0 ≤ k) (h1 : k < 2 ^ 60) (t : Option DS) : f__law_mixed [.d (.int c), .d (.int k)] t = .ok (.d (.int (mix c k))) t := by
  have m1 : mulOk 2 k = true := mulOk_of (by decide) (by omega)
  have kk : (2 * k * k).natAbs < 2 ^ 130 := by
    rw [Int.natAbs_mul, Int.natAbs_mul]
    have : k.natAbs < 2 ^ 60 := by omega
    calc _ ≤ (2 * 2 ^ 60) * 2 ^ 60 := Nat.mul_le_mul (Nat.mul_le_mul (by decide) (by omega)) (by omega)
      _ < 2 ^ 130 := by decide
  have m2 : mulOk (2 * k) k = true := mulOk_of (by omega) (by omega)
  have b1 : 0 ≤ c.fmod 2147483647 ∧ c.fmod 2147483647 < 2147483647 := ⟨Int.fmod_nonneg_of_pos _ (by decide), Int.fmod_lt_of_pos _ (by decide)⟩
  have m3 : mulOk (c.fmod 2147483647) (48271 + 2 * k * k) = true := mulOk_of (by omega) (by omega)
  have m4 : mulOk 69621 k = true := mulOk_of (by decide) (by omega)
  generalize hz : (c.fmod 2147483647) * (48271 + 2 * k * k) + 69621 * k + 11 = z
  have b2 : 0 ≤ z.fmod 2147483647 ∧ z.fmod 2147483647 < 2147483647 := ⟨Int.fmod_nonneg_of_pos _ (by decide), Int.fmod_lt_of_pos _ (by decide)⟩
  have m5 : mulOk (z.fmod 2147483647) 69621 = true := mulOk_of (by omega) (by decide)
  unfold f__law_mixed
  simp [m__law_mixed, runM, argsG, Rv.arg, sSeq, sRet, sSet, sIf, sFor, sFrz, sExpr, sSkip, sApp, sRaise, mVar, mC, mBin, mCall, mCallK, mCallB, mCons, mNil, mTup, mLst, mAnd, mNot, mIsi, mChain, mIf, mNotB, mTru, mCmpB, mBl, mOrB, mAndB, mNeg, mRange1, rng1, mSeq, mZip, mSl, mPart, partI, Rs.bind, Rs.bindS, Rs.of, Rs.fz, Rv.fz, Rv.toD, Rv.truth, Rv.bl, Rv.sl, Rv.seq, Rv.items, Rv.tup, dats, f1, f2, fRead, fI, fCm, gCmp, iLt, iLe, iGt, iGe, gLen, gInt, gMin, gMax, gAbs, fAdd, fSub, fMul, fMod, fDiv, fCat, fCatT, fCatStr, isiOk, isiB, tyName, m1, m2, m3, m4, hz, m5, mix]
theorem mix_le (c k : Int) : 0 ≤ mix c k ∧ mix c k < 2147483629 := ⟨Int.fmod_nonneg_of_pos _ (by decide), Int.fmod_lt_of_pos _ (by decide)⟩
end G
end

section
set_option Elab.async false
set_option linter.all false
set_option maxRecDepth 100000
set_option maxHeartbeats 4000000
set_option exponentiation.threshold 2000
namespace G
open PySem PySem.Spec PyProof.Rows L2 DL

theorem seq_nx {a b : SM} {G G1 : Gm} {t t1 : Option DS} (h : a G t = .nx G1 t1) : sSeq a b G t = b G1 t1 := by
  unfold sSeq
  rw [h]
theorem seq_rt {a b : SM} {G : Gm} {x : D} {t t1 : Option DS} (h : a G t = .rt x t1) : sSeq a b G t = .rt x t1 := by
  unfold sSeq
  rw [h]
theorem seq_ex {a b : SM} {G G1 : Gm} {c : Str} {fs : List (Str × D)} {t t1 : Option DS} (h : a G t = .ex c fs G1 t1) : sSeq a b G t = .ex c fs G1 t1 := by
  unfold sSeq
  rw [h]
theorem for_nx {im : IM} {pt : Pt} {body : SM} {G G' : Gm} {t t1 t' : Option DS} {items : List D} (h1 : im G t = .ok items t1) (h2 : loop pt body items G t1 = .nx G' t') : sFor im pt body G t = .nx G' t' := by
  unfold sFor
  rw [h1]
  exact h2
theorem run_rt {m : SM} {n : Nat} {rs : List Rv} {t t' : Option DS} {G : Gm} {x : D} (h : argsG rs = some G) (h2 : m (G ++ List.replicate (n - G.length) .un) t = .rt x t') : runM m n rs t = .ok (.d x) t' := by
  unfold runM
  simp only [h, h2]
theorem run_ex {m : SM} {n : Nat} {rs : List Rv} {t t' : Option DS} {G G' : Gm} {c : Str} {fs : List (Str × D)} (h : argsG rs = some G) (h2 : m (G ++ List.replicate (n - G.length) .un) t = .ex c fs G' t') : runM m n rs t = .ex c fs t' := by
  unfold runM
  simp only [h, h2]
/-! ### draws -/
structure Inv (m : Nat) (st : DS) : Prop where
  ne : 0 < st.cells.length
  le : st.lefts.length = st.cells.length
  p0 : 0 ≤ st.pos
  p1 : st.pos ≤ m
theorem e_draw {m : Nat} {st : DS} (h : Inv m st) (hm : m ≤ 1000000) {l : Int} (l0 : 0 < l) (l1 : l < 1048576) :
    ∃ z st', f__law_draw [.s, .d (.int l)] (some st) = .ok (.d (.int z)) (some st') ∧ Inv (m + 1) st' ∧ 0 ≤ z ∧ z < l := by
  obtain ⟨cs, ls, p⟩ := st
  obtain ⟨ne, le, p0, p1⟩ := h
  dsimp only at ne le p0 p1
  have hl : (cs.length : Int) ≠ 0 := by omega
  have hcs : ¬ cs = [] := fun z => by rw [z] at ne; exact absurd ne (by decide)
  have j0 : 0 ≤ p.fmod cs.length := Int.fmod_nonneg_of_pos _ (by omega)
  have j1 : p.fmod cs.length < cs.length := Int.fmod_lt_of_pos _ (by omega)
  obtain ⟨n, hn⟩ := Int.eq_ofNat_of_zero_le j0
  have nlt : n < cs.length := by omega
  have a1 : atI cs (n : Int) = some cs[n] := atI_nat (List.getElem?_eq_getElem nlt)
  have a2 : atI ls (n : Int) = some ls[n] := atI_nat (List.getElem?_eq_getElem (by omega))
  have x1 : ixN ls.length (n : Int) = some n := by unfold ixN; simp; omega
  have d1 : divOk ls[n] l = true := by unfold divOk; simp; omega
  have l2 : l ≠ 0 := by omega
  by_cases hz : 0 < ls[n]
  · refine ⟨ls[n].fmod l, ⟨cs, ls.set n (ls[n].fdiv l), p + 1⟩, ?_, ⟨ne, by simpa using le, by show 0 ≤ p + 1; omega, by show p + 1 ≤ ((m + 1 : Nat) : Int); omega⟩, Int.fmod_nonneg_of_pos _ l0, Int.fmod_lt_of_pos _ l0⟩
    unfold f__law_draw
    simp [m__law_draw, runM, argsG, Rv.arg, sSeq, sRet, sSet, sIf, sFor, sFrz, sExpr, sSkip, sApp, sRaise, mVar, mC, mBin, mCall, mCallK, mCallB, mCons, mNil, mTup, mLst, mAnd, mNot, mIsi, mChain, mIf, mNotB, mTru, mCmpB, mBl, mOrB, mAndB, mNeg, mRange1, rng1, mSeq, mZip, mSl, mPart, partI, Rs.bind, Rs.bindS, Rs.of, Rs.fz, Rv.fz, Rv.toD, Rv.truth, Rv.bl, Rv.sl, Rv.seq, Rv.items, Rv.tup, dats, f1, f2, fRead, fI, fCm, gCmp, iLt, iLe, iGt, iGe, gLen, gInt, gMin, gMax, gAbs, fAdd, fSub, fMul, fMod, fDiv, fCat, fCatT, fCatStr, isiOk, isiB, tyName, mStAt, sStAt, mStLen, mStIx, sStPut, DS.lst, hl, hcs, hn, a2, hz, x1, d1, l2]
  · let u := mix (mix cs[n] p) (40 + p)
    have b1 := mix_le (mix cs[n] p) (40 + p)
    have b2 := mix_le u (7 + p)
    have m1 : mulOk (mix (mix cs[n] p) (40 + p)) 2147483647 = true := mulOk_of (by omega) (by decide)
    have q1 := e_mixed cs[n] p p0 (by omega)
    have q2 := e_mixed (mix cs[n] p) (40 + p) (by omega) (by omega)
    have q3 := e_mixed (mix (mix cs[n] p) (40 + p)) (7 + p) (by omega) (by omega)
    have d2 : ∀ z, divOk z 64 = true := fun z => by unfold divOk; decide
    refine ⟨((u * 2147483647 + mix u (7 + p)).fdiv 64).fmod l, ⟨cs, ls, p + 1⟩, ?_, ⟨ne, le, by show 0 ≤ p + 1; omega, by show p + 1 ≤ ((m + 1 : Nat) : Int); omega⟩, Int.fmod_nonneg_of_pos _ l0, Int.fmod_lt_of_pos _ l0⟩
    unfold f__law_draw
    simp [m__law_draw, runM, argsG, Rv.arg, sSeq, sRet, sSet, sIf, sFor, sFrz, sExpr, sSkip, sApp, sRaise, mVar, mC, mBin, mCall, mCallK, mCallB, mCons, mNil, mTup, mLst, mAnd, mNot, mIsi, mChain, mIf, mNotB, mTru, mCmpB, mBl, mOrB, mAndB, mNeg, mRange1, rng1, mSeq, mZip, mSl, mPart, partI, Rs.bind, Rs.bindS, Rs.of, Rs.fz, Rv.fz, Rv.toD, Rv.truth, Rv.bl, Rv.sl, Rv.seq, Rv.items, Rv.tup, dats, f1, f2, fRead, fI, fCm, gCmp, iLt, iLe, iGt, iGe, gLen, gInt, gMin, gMax, gAbs, fAdd, fSub, fMul, fMod, fDiv, fCat, fCatT, fCatStr, isiOk, isiB, tyName, mStAt, sStAt, mStLen, mStIx, sStPut, DS.lst, hl, hcs, hn, a1, a2, hz, l2, q1, q2, q3, m1, d2, u]
theorem inv_more {m k : Nat} {st : DS} (h : Inv m st) (hk : m ≤ k) : Inv k st := ⟨h.ne, h.le, h.p0, by have := h.p1; omega⟩
theorem e_begin (ns : List Int) (h : ns.length ≤ 63) : f__law_begin [.d (.list (ns.map .int))] none = .ok .s (some (begSt ns)) ∧ Inv 0 (begSt ns) := by
  refine ⟨?_, ?_, by simp [begSt], by simp [begSt], by simp [begSt]⟩
  · unfold f__law_begin fBegin
    have e : dInts (ns.map .int) = some ns := by
      clear h
      induction ns with
      | nil => rfl
      | cons a l ih => simp [dInts, ih]
    simp only [e]
    rw [if_pos (by omega)]
  · unfold begSt
    by_cases z : ns = []
    · simp [z]
    · simp [z]; exact List.length_pos_iff.mpr z
end G
end

section
set_option Elab.async false
set_option linter.all false
set_option maxRecDepth 100000
set_option maxHeartbeats 4000000
set_option exponentiation.threshold 2000
namespace G
open PySem PySem.Spec PyProof.Rows L2 DL

/-! ### powers, products -/
theorem natAbs_pow_le (b : Int) (n : Nat) (hb : b.natAbs ≤ 128) : (b ^ n).natAbs ≤ 128 ^ n := by
  rw [Int.natAbs_pow]
  exact Nat.pow_le_pow_left hb n
theorem pow_small : 128 ^ 100 < 2 ^ 1000 := by decide +kernel
theorem le_small : 128 < 2 ^ 1000 := by decide +kernel
theorem pow_lt (b : Int) (i : Nat) (hb : b.natAbs ≤ 128) (hi : i ≤ 100) : (b ^ i).natAbs < 2 ^ 1000 :=
  Nat.lt_of_le_of_lt (natAbs_pow_le b i hb) (Nat.lt_of_le_of_lt (Nat.pow_le_pow_right (by decide) hi) pow_small)
theorem pow_ok (b : Int) (i : Nat) (hb : b.natAbs ≤ 128) (hi : i ≤ 100) : mulOk (b ^ i) b = true := mulOk_of (pow_lt b i hb hi) (Nat.lt_of_le_of_lt hb le_small)
theorem rng_nat (n : Nat) (h : n ≤ 1000000) : rngOk (n : Int) = true := by
  unfold rngOk
  have h1 : -(2 ^ 62 : Int) ≤ (n : Int) := Int.le_trans (by decide) (Int.natCast_nonneg n)
  have h2 : (n : Int) < 2 ^ 62 := Int.lt_of_le_of_lt (Int.ofNat_le.mpr h) (by decide)
  rw [decide_eq_true h1, decide_eq_true h2]
  rfl
theorem range_z {m : EM} {G : Gm} {t : Option DS} {z : Int} (h : m G t = .ok (.d (.int z)) t) (hz : rngOk z = true) : mRange1 m G t = .ok (rangeD 0 z.toNat) t := by
  have e : rng1 (.d (.int z)) = some (rangeD 0 z.toNat) := by
    show (if rngOk z then some (rangeD 0 z.toNat) else none) = _
    rw [if_pos hz]
  unfold mRange1
  rw [h]
  show Rs.of (rng1 (.d (.int z))) t = _
  rw [e]
  rfl
theorem range_ok {m : EM} {G : Gm} {t : Option DS} {n : Nat} (h : m G t = .ok (.d (.int n)) t) (hn : n ≤ 1000000) : mRange1 m G t = .ok (rangeD 0 n) t := by
  have e := range_z h (rng_nat n hn)
  rw [Int.toNat_natCast] at e
  exact e
theorem rangeD_len (lo : Int) (n : Nat) : (rangeD lo n).length = n := by simp [rangeD]
abbrev powB : SM := sSeq (sSet 2 (mBin fMul (mVar 2) (mVar 0))) sSkip
theorem pow_step {b z : Int} {u y : D} {s : Sl} {t : Option DS} (h : mulOk z b = true) : powB [.d (.int b), .d u, .d (.int z), .d y] t = .nx [.d (.int b), .d u, .d (.int (z * b)), .d y] t := by
  have e : mBin fMul (mVar 2) (mVar 0) [.d (.int b), .d u, .d (.int z), .d y] t = Rs.of (if mulOk z b then some (.d (.int (z * b))) else none) t := rfl
  rw [if_pos h] at e
  unfold powB sSeq sSet
  rw [e]
  rfl
theorem pow_loop (b : Int) (u : D) (t : Option DS) (hb : b.natAbs ≤ 128) : ∀ (l : List D) (i : Nat) (y : Sl), i + l.length ≤ 100 → ∃ y', loop (.nm 3) powB l [.d (.int b), .d u, .d (.int (b ^ i)), y] t = .nx [.d (.int b), .d u, .d (.int (b ^ (i + l.length))), y'] t
  | [], i, y, _ => ⟨y, rfl⟩
  | x :: l, i, y, h => by
    have h' : i + 1 + l.length ≤ 100 := by simp at h; omega
    obtain ⟨y', e⟩ := pow_loop b u t hb l (i + 1) (.d x) h'
    refine ⟨y', ?_⟩
    show (match powB [.d (.int b), .d u, .d (.int (b ^ i)), .d x] t with | .nx G2 t2 => loop (.nm 3) powB l G2 t2 | .ct G2 t2 => loop (.nm 3) powB l G2 t2 | .bk G2 t2 => .nx G2 t2 | o => o) = _
    rw [pow_step (s := y) (pow_ok b i hb (by omega))]
    show loop (.nm 3) powB l [.d (.int b), .d u, .d (.int (b ^ i * b)), .d x] t = _
    rw [← Int.pow_succ, e]
    rw [show i + 1 + l.length = i + (x :: l).length by simp; omega]
theorem e_power (b : Int) (n : Nat) (hb : b.natAbs ≤ 128) (hn : n ≤ 100) (t : Option DS) : f__law_power [.d (.int b), .d (.int n)] t = .ok (.d (.int (b ^ n))) t := by
  obtain ⟨y, e⟩ := pow_loop b (.int n) t hb (rangeD 0 n) 0 .un (by rw [rangeD_len]; omega)
  rw [rangeD_len, Nat.zero_add, Int.pow_zero] at e
  have h : m__law_power [.d (.int b), .d (.int n), .un, .un] t = .rt (.int (b ^ n)) t := by
    unfold m__law_power
    refine (seq_nx (a := sSet 2 (mC (.int 1))) (G1 := [.d (.int b), .d (.int n), .d (.int 1), .un]) (t1 := t) rfl).trans ?_
    exact (seq_nx (a := sFor (mRange1 (mVar 1)) (.nm 3) powB) (for_nx (range_ok (m := mVar 1) (n := n) rfl (Nat.le_trans hn (by decide))) e)).trans rfl
  exact run_rt (G := [.d (.int b), .d (.int n)]) rfl h
end G
end

section
set_option Elab.async false
set_option linter.all false
set_option maxRecDepth 100000
set_option maxHeartbeats 4000000
set_option exponentiation.threshold 2000
namespace G
open PySem PySem.Spec PyProof.Rows L2 DL

/-! ### products -/
def pvA : Int → List Int → List Int → Int
  | acc, c :: cs, w :: ws => pvA (acc * w ^ c.toNat) cs ws
  | acc, _, _ => acc
structure Cont (cs : List Int) : Prop where
  le : ∀ c ∈ cs, 0 ≤ c ∧ c ≤ 24
structure Wors (ws : List Int) : Prop where
  le : ∀ w ∈ ws, -100 ≤ w ∧ w ≤ 100
theorem k140 : 128 ^ 140 < 2 ^ 1000 := by decide +kernel
abbrev prodB : SM := sSeq (sSet 2 (mBin fMul (mVar 2) (mCall 2 f__law_power [] (mCons (mVar 4) (mCons (mVar 3) mNil))))) sSkip
theorem bin_mul {a b : EM} {G : Gm} {t t1 t2 : Option DS} {i j : Int} (h1 : a G t = .ok (.d (.int i)) t1) (h2 : b G t1 = .ok (.d (.int j)) t2) (hm : mulOk i j = true) : mBin fMul a b G t = .ok (.d (.int (i * j))) t2 := by
  simp only [mBin, h1, h2, Rs.fz, Rv.fz, Rs.bind, Rs.of, fMul, fI, hm, if_true]
theorem set_nx {i : Nat} {m : EM} {G : Gm} {t t1 : Option DS} {x : D} (h : m G t = .ok (.d x) t1) (hi : i < G.length) : sSet i m G t = .nx (G.set i (.d x)) t1 := by
  simp only [sSet, h, Rs.bindS, Rv.sl, hi, if_true]
theorem call2 {f : FM} {a b : EM} {G : Gm} {t t1 t2 : Option DS} {x y : D} (h1 : a G t = .ok (.d x) t1) (h2 : b G t1 = .ok (.d y) t2) : mCall 2 f [] (mCons a (mCons b mNil)) G t = f [.d x, .d y] t2 := by
  simp only [mCall, mCons, mNil, h1, h2, Rs.bind, Rs.fz, Rv.fz, List.length_cons, List.length_nil, if_true, List.map_nil, List.append_nil]
theorem prod_step {x y : Sl} {acc c w : Int} (hc : 0 ≤ c ∧ c ≤ 24) (hw : -100 ≤ w ∧ w ≤ 100) (ha : acc.natAbs < 2 ^ 1000) (t : Option DS) :
    prodB [x, y, .d (.int acc), .d (.int c), .d (.int w)] t = .nx [x, y, .d (.int (acc * w ^ c.toNat)), .d (.int c), .d (.int w)] t := by
  have p : f__law_power [.d (.int w), .d (.int c)] t = .ok (.d (.int (w ^ c.toNat))) t := by
    have z := e_power w c.toNat (by omega) (by omega) t
    rw [Int.toNat_of_nonneg hc.1] at z
    exact z
  have hm : mulOk acc (w ^ c.toNat) = true := mulOk_of ha (pow_lt w c.toNat (by omega) (by omega))
  generalize w ^ c.toNat = z at *
  have e := bin_mul (a := mVar 2) (b := mCall 2 f__law_power [] (mCons (mVar 4) (mCons (mVar 3) mNil))) (G := [x, y, .d (.int acc), .d (.int c), .d (.int w)]) (t := t) (t1 := t) rfl ((call2 (t1 := t) (t2 := t) rfl rfl).trans p) hm
  exact (seq_nx (set_nx e (Nat.le_of_ble_eq_true rfl))).trans rfl
theorem pvA_loop (x y : Sl) (t : Option DS) : ∀ (cs ws : List Int) (acc : Int) (k : Nat) (s3 s4 : Sl), Cont cs → Wors ws → acc.natAbs ≤ 128 ^ k → k + 24 * cs.length ≤ 140 →
    (∃ s3' s4', loop (.tup [3, 4]) prodB (zipD (cs.map .int) (ws.map .int)) [x, y, .d (.int acc), s3, s4] t = .nx [x, y, .d (.int (pvA acc cs ws)), s3', s4'] t) ∧ (pvA acc cs ws).natAbs ≤ 128 ^ (k + 24 * cs.length)
  | [], _, acc, k, s3, s4, _, _, ha, _ => ⟨⟨s3, s4, rfl⟩, ha⟩
  | c :: cs, [], acc, k, s3, s4, _, _, ha, _ => ⟨⟨s3, s4, rfl⟩, Nat.le_trans ha (Nat.pow_le_pow_right (by decide) (by omega))⟩
  | c :: cs, w :: ws, acc, k, s3, s4, hc, hw, ha, hk => by
    have hk' : k + 24 + 24 * cs.length ≤ 140 := by simp at hk; omega
    have c0 := hc.le c List.mem_cons_self
    have w0 := hw.le w List.mem_cons_self
    have a1 : acc.natAbs < 2 ^ 1000 := Nat.lt_of_le_of_lt ha (Nat.lt_of_le_of_lt (Nat.pow_le_pow_right (by decide) (by omega)) k140)
    have a2 : (acc * w ^ c.toNat).natAbs ≤ 128 ^ (k + 24) := by
      rw [Int.natAbs_mul, Nat.pow_add]
      exact Nat.mul_le_mul ha (Nat.le_trans (natAbs_pow_le w c.toNat (by omega)) (Nat.pow_le_pow_right (by decide) (by omega)))
    obtain ⟨⟨s3', s4', e⟩, b⟩ := pvA_loop x y t cs ws (acc * w ^ c.toNat) (k + 24) (.d (.int c)) (.d (.int w)) ⟨fun c h => hc.le c (List.mem_cons_of_mem _ h)⟩ ⟨fun c h => hw.le c (List.mem_cons_of_mem _ h)⟩ a2 hk'
    refine ⟨⟨s3', s4', ?_⟩, ?_⟩
    · show (match prodB [x, y, .d (.int acc), .d (.int c), .d (.int w)] t with | .nx G2 t2 => loop (.tup [3, 4]) prodB (zipD (cs.map .int) (ws.map .int)) G2 t2 | .ct G2 t2 => loop (.tup [3, 4]) prodB (zipD (cs.map .int) (ws.map .int)) G2 t2 | .bk G2 t2 => .nx G2 t2 | o => o) = _
      rw [prod_step c0 w0 a1 t]
      exact e
    · show (pvA (acc * w ^ c.toNat) cs ws).natAbs ≤ _
      exact Nat.le_trans b (Nat.pow_le_pow_right (by decide) (by simp; omega))
def pv (cs ws : List Int) : Int := pvA 1 cs ws
theorem pv_loop {cs ws : List Int} (x y : Sl) (hc : Cont cs) (hw : Wors ws) (hl : cs.length ≤ 5) (t : Option DS) :
    (∃ s3' s4', loop (.tup [3, 4]) prodB (zipD (cs.map .int) (ws.map .int)) [x, y, .d (.int 1), .un, .un] t = .nx [x, y, .d (.int (pv cs ws)), s3', s4'] t) ∧ (pv cs ws).natAbs ≤ 128 ^ (0 + 24 * cs.length) :=
  pvA_loop x y t cs ws 1 0 .un .un hc hw (Nat.le_refl 1) (by omega)
theorem pv_le {cs ws : List Int} (hc : Cont cs) (hw : Wors ws) (hl : cs.length ≤ 5) : (pv cs ws).natAbs ≤ 128 ^ 120 := by
  have b := (pv_loop .un .un hc hw hl none).2
  have h : 0 + 24 * cs.length ≤ 120 := by omega
  exact Nat.le_trans b (Nat.pow_le_pow_right (by decide) h)
theorem zip_seq {x y : D} {xs ys : List D} {s2 s3 s4 : Sl} (hx : (Rv.d x).seq = some xs) (hy : (Rv.d y).seq = some ys) (t : Option DS) : mZip (mVar 0) (mVar 1) [.d x, .d y, s2, s3, s4] t = .ok (zipD xs ys) t := by
  have z : mZip (mVar 0) (mVar 1) [.d x, .d y, s2, s3, s4] t = Rs.of ((Rv.d x).seq.bind fun xs => (Rv.d y).seq.map fun ys => zipD xs ys) t := rfl
  rw [z, hx, hy]
  rfl
theorem e_prod {x y : D} {cs ws : List Int} (hx : (Rv.d x).seq = some (cs.map .int)) (hy : (Rv.d y).seq = some (ws.map .int)) (hc : Cont cs) (hw : Wors ws) (hl : cs.length ≤ 5) (t : Option DS) : f__law_product [.d x, .d y] t = .ok (.d (.int (pv cs ws))) t := by
  obtain ⟨⟨s3, s4, e⟩, _⟩ := pv_loop (.d x) (.d y) hc hw hl t
  generalize pv cs ws = z at *
  have h : m__law_product [.d x, .d y, .un, .un, .un] t = .rt (.int z) t := by
    unfold m__law_product
    refine (seq_nx (a := sSet 2 (mC (.int 1))) (G1 := [.d x, .d y, .d (.int 1), .un, .un]) (t1 := t) rfl).trans ?_
    exact (seq_nx (a := sFor (mZip (mVar 0) (mVar 1)) (.tup [3, 4]) prodB) (for_nx (zip_seq hx hy t) e)).trans rfl
  exact run_rt (G := [.d x, .d y]) rfl h
end G
end

section
set_option Elab.async false
set_option linter.all false
set_option maxRecDepth 100000
set_option maxHeartbeats 4000000
set_option exponentiation.threshold 2000
namespace G
open PySem PySem.Spec PyProof.Rows L2 DL

/-! ### like -/
theorem like_same {a : D} {s : Str} (h : gRepr a = some (.str s)) (t : Option DS) : f__law_like [.d a, .d a] t = .ok (.d (.bool true)) t := by
  have c : ∀ i, [Sl.d a, .d a][i]? = some (.d a) → mCallB (f1 gRepr) (mCons (mVar i) mNil) [.d a, .d a] t = .ok (.d (.str s)) t := fun i hi => by
    simp only [mCallB, mCons, mNil, mVar, hi, Rs.bind, Rs.fz, Rv.fz, f1, Rv.toD, Option.bind_some, h, Option.map_some, Rs.of]
  have e : mBin fEq (mCallB (f1 gRepr) (mCons (mVar 0) mNil)) (mCallB (f1 gRepr) (mCons (mVar 1) mNil)) [.d a, .d a] t = .ok (.d (.bool true)) t := by
    simp only [mBin, c 0 rfl, c 1 rfl, Rs.fz, Rv.fz, Rs.bind, fEq, fRead, Rv.toD, Option.bind_some, gEq, Option.map_some, Rs.of, decide_true]
  have h2 : m__law_like [.d a, .d a] t = .rt (.bool true) t := by
    unfold m__law_like
    refine (seq_rt ?_)
    simp only [sRet, e, Rs.fz, Rv.fz, Rs.bind, Rs.bindS]
  exact run_rt (G := [.d a, .d a]) rfl h2
/-! ### orders -/
def rngI (n : Nat) : List Int := (List.range n).map fun (i : Nat) => (i : Int)
def ordL (n : Nat) : List (List Int) := (List.range n).foldl (fun rows _ => rows.flatMap fun row => ((rngI n).filter fun k => !row.contains k).map fun k => row ++ [k]) [[]]
theorem ord2 (t : Option DS) : f__law_orders [.d (.int (2 : Nat))] t = .ok (.d (.list ((ordL 2).map tupI))) t := by rfl
theorem ord3 (t : Option DS) : f__law_orders [.d (.int (3 : Nat))] t = .ok (.d (.list ((ordL 3).map tupI))) t := by rfl
theorem ord4 (t : Option DS) : f__law_orders [.d (.int (4 : Nat))] t = .ok (.d (.list ((ordL 4).map tupI))) t := by kernel_rfl
theorem e_orders {n : Nat} (h0 : 2 ≤ n) (h1 : n ≤ 4) (t : Option DS) : f__law_orders [.d (.int n)] t = .ok (.d (.list ((ordL n).map tupI))) t := by
  match n, h0, h1 with
  | 2, _, _ => exact ord2 t
  | 3, _, _ => exact ord3 t
  | 4, _, _ => exact ord4 t
theorem ordL_ok {n : Nat} (h0 : 2 ≤ n) (h1 : n ≤ 4) : (ordL n).length ≤ 24 ∧ ∀ o ∈ ordL n, o.length = n ∧ ∀ k ∈ o, 0 ≤ k ∧ k < n := by
  match n, h0, h1 with
  | 2, _, _ => decide +kernel
  | 3, _, _ => decide +kernel
  | 4, _, _ => decide +kernel
/-! ### picks -/
def pick (cs o : List Int) : List Int := o.map fun k => cs.getD k.toNat 0
theorem atI_cs {cs : List Int} {k : Int} (h0 : 0 ≤ k) (h1 : k < cs.length) : atI (cs.map PyData.int) k = some (PyData.int (cs.getD k.toNat 0)) := by
  obtain ⟨n, rfl⟩ := Int.eq_ofNat_of_zero_le h0
  have hn : n < cs.length := by omega
  refine atI_nat ?_
  rw [List.getElem?_map, List.getElem?_eq_getElem hn, Int.toNat_natCast, List.getD_eq_getElem?_getD, List.getElem?_eq_getElem hn]
  rfl
/-- [content[k] for k in order] -/
theorem e_pick {G : Gm} {i j v : Nat} {cs o : List Int} (hi : G[i]? = some (.d (.tuple (cs.map .int)))) (hj : G[j]? = some (.d (tupI o))) (hv : v < G.length) (hiv : i ≠ v) (hjv : j ≠ v) (ho : ∀ k ∈ o, 0 ≤ k ∧ k < cs.length) (hl : o.length ≤ 1000) (t : Option DS) :
    mLc (mSeq (mVar j)) (.nm v) none (mBin fIx (mVar i) (mVar v)) [v] G t = .ok (.l ((pick cs o).map .int)) t := by
  have s1 : mSeq (mVar j) G t = .ok (o.map .int) t := by
    simp only [mSeq, mVar, hj, Rs.fz, Rv.fz, Rs.bind, tupI, Rv.seq, Rs.of]
  have gi : (wipeG G [v])[i]? = some (.d (.tuple (cs.map .int))) := by
    show (G.set v .un)[i]? = _
    rw [List.getElem?_set_ne (Ne.symm hiv)]
    exact hi
  have e := lc_ok (pt := .nm v) (cs := none) (elt := mBin fIx (mVar i) (mVar v)) (G0 := wipeG G [v]) (t := t) (p := fun _ => true) (f := fun d => match d with | .int k => .int (cs.getD k.toNat 0) | _ => .none) (items := o.map .int) (acc := []) (by simp; omega) (fun x hx => by
    obtain ⟨k, hk, rfl⟩ := List.mem_map.mp hx
    have lv : v < (wipeG G [v]).length := by show v < (G.set v .un).length; rw [List.length_set]; exact hv
    refine ⟨(wipeG G [v]).set v (.d (.int k)), ?_, rfl, fun _ => ?_⟩
    · show setAll [v] [.int k] (wipeG G [v]) = _
      simp only [setAll, lv, if_true]
    · have m1 : mVar i ((wipeG G [v]).set v (.d (.int k))) t = .ok (.d (.tuple (cs.map .int))) t := by
        simp only [mVar, List.getElem?_set_ne (Ne.symm hiv), gi]
      have m2 : mVar v ((wipeG G [v]).set v (.d (.int k))) t = .ok (.d (.int k)) t := by
        simp only [mVar, List.getElem?_set_self lv]
      simp only [mBin, m1, m2, Rs.fz, Rv.fz, Rs.bind, fIx, Rv.items, Rv.tup, Option.bind_none, Option.bind_some, Option.map_none, Option.none_or, atI_cs (ho k hk).1 (ho k hk).2, Option.map_some, Rs.of])
  unfold mLc
  rw [if_pos (by simp [Pt.ix]), s1]
  show lcLoop (.nm v) none (mBin fIx (mVar i) (mVar v)) (wipeG G [v]) (o.map .int) [] t = _
  rw [e, List.filter_eq_self.mpr (fun _ _ => rfl)]
  simp [pick, Function.comp_def]
/-- a comprehension without a test over rows of numbers -/
theorem lc_rows {im : IM} {v : Nat} {vs : List Nat} {elt : EM} {G : Gm} {t : Option DS} {os : List (List Int)} {f : List Int → D} (h1 : im G t = .ok (os.map tupI) t) (hv : v < G.length) (hs : vs.contains v = true) (hw : (wipeG G vs).length = G.length) (hl : os.length ≤ 16777216)
    (h : ∀ o ∈ os, (elt ((wipeG G vs).set v (.d (tupI o))) t).fz = .ok (.d (f o)) t) : mLc im (.nm v) none elt vs G t = .ok (.l (os.map f)) t := by
  have key : ∀ (l : List (List Int)) (acc : List D), (∀ o ∈ l, o ∈ os) → acc.length + l.length ≤ 16777216 → lcLoop (.nm v) none elt (wipeG G vs) (l.map tupI) acc t = .ok (.l (acc ++ l.map f)) t := by
    intro l
    induction l with
    | nil => intro acc _ _; simp [lcLoop]
    | cons o l ih =>
      intro acc hm hl
      have hl' : acc.length + l.length + 1 ≤ 16777216 := by simp at hl; omega
      have a1 : asg (.nm v) (tupI o) (wipeG G vs) = some ((wipeG G vs).set v (.d (tupI o))) := by
        show setAll [v] [tupI o] (wipeG G vs) = _
        simp only [setAll, hw, hv, if_true]
      rw [List.map_cons]
      simp only [lcLoop, a1, cst, Rs.bind, if_true, h o (hm o List.mem_cons_self), Rs.nox]
      rw [if_pos (by omega), ih _ (fun o h => hm o (List.mem_cons_of_mem _ h)) (by simp; omega)]
      simp
  unfold mLc
  rw [if_pos (by simpa [Pt.ix] using hs), h1]
  exact key os [] (fun _ h => h) (by simpa using hl)
end G
end

section
set_option Elab.async false
set_option linter.all false
set_option maxRecDepth 100000
set_option maxHeartbeats 4000000
set_option exponentiation.threshold 2000
namespace G
open PySem PySem.Spec PyProof.Rows L2 DL

theorem dInts_map (ns : List Int) : dInts (ns.map .int) = some ns := by
  induction ns with
  | nil => rfl
  | cons a l ih => simp [dInts, ih]
theorem pick_mem {cs o : List Int} (ho : ∀ k ∈ o, 0 ≤ k ∧ k < cs.length) : ∀ x ∈ pick cs o, x ∈ cs := fun x hx => by
  obtain ⟨k, hk, rfl⟩ := List.mem_map.mp hx
  obtain ⟨h0, h1⟩ := ho k hk
  have hn : k.toNat < cs.length := by omega
  rw [List.getD_eq_getElem?_getD, List.getElem?_eq_getElem hn]
  exact List.getElem_mem hn
theorem pick_cont {cs o : List Int} (hc : Cont cs) (ho : ∀ k ∈ o, 0 ≤ k ∧ k < cs.length) : Cont (pick cs o) := ⟨fun x hx => hc.le x (pick_mem ho x hx)⟩
theorem call1 {f : FM} {a : EM} {G : Gm} {t t1 : Option DS} {x : D} (h1 : a G t = .ok (.d x) t1) : mCall 1 f [] (mCons a mNil) G t = f [.d x] t1 := by
  simp only [mCall, mCons, mNil, h1, Rs.bind, Rs.fz, Rv.fz, List.length_cons, List.length_nil, if_true, List.map_nil, List.append_nil]
/-- an own list is an argument -/
theorem call2l {f : FM} {a b : EM} {G : Gm} {t t1 t2 : Option DS} {x : List D} {y : D} (h1 : a G t = .ok (.l x) t1) (h2 : b G t1 = .ok (.d y) t2) : mCall 2 f [] (mCons a (mCons b mNil)) G t = f [.d (.list x), .d y] t2 := by
  simp only [mCall, mCons, mNil, h1, h2, Rs.bind, Rs.fz, Rv.fz, List.length_cons, List.length_nil, if_true, List.map_nil, List.append_nil]
theorem sum_ok {m : EM} {G : Gm} {t t1 : Option DS} {ns : List Int} (h : m G t = .ok (.l (ns.map .int)) t1) : mCallB (f1 gSum) (mCons m mNil) G t = .ok (.d (.int ns.sum)) t1 := by
  simp only [mCallB, mCons, mNil, h, Rs.bind, Rs.fz, Rv.fz, f1, Rv.toD, Option.bind_some, gSum, dInts_map, Option.map_some, Rs.of]
theorem len_ok {m : EM} {G : Gm} {t t1 : Option DS} {ds : List D} (h : m G t = .ok (.d (.tuple ds)) t1) : mCallB (f1 gLen) (mCons m mNil) G t = .ok (.d (.int ds.length)) t1 := by
  simp only [mCallB, mCons, mNil, h, Rs.bind, Rs.fz, Rv.fz, f1, Rv.toD, Option.bind_some, gLen, Option.map_some, Rs.of]
theorem ret_ok {m : EM} {b : SM} {G : Gm} {t t1 : Option DS} {x : D} (h : m G t = .ok (.d x) t1) : sSeq (sRet m) b G t = .rt x t1 := by
  refine seq_rt ?_
  simp only [sRet, h, Rs.fz, Rs.bind, Rv.fz, Rs.bindS]
theorem seq_list {m : EM} {G : Gm} {t t1 : Option DS} {xs : List D} (h : m G t = .ok (.d (.list xs)) t1) : mSeq m G t = .ok xs t1 := by
  simp only [mSeq, h, Rs.fz, Rs.bind, Rv.fz, Rv.seq, Rs.of]
def evenV (cs ws : List Int) : Int := ((ordL cs.length).map fun o => pv (pick cs o) ws).sum
theorem e_even {cs ws : List Int} (hc : Cont cs) (hw : Wors ws) (h0 : 2 ≤ cs.length) (h1 : cs.length ≤ 4) (t : Option DS) :
    f__law_even [.d (.tuple (cs.map .int)), .d (.tuple (ws.map .int))] t = .ok (.d (.int (evenV cs ws))) t := by
  obtain ⟨l24, oks⟩ := ordL_ok h0 h1
  let c := Sl.d (.tuple (cs.map .int))
  let w := Sl.d (.tuple (ws.map .int))
  have e1 : mCallB (f1 gLen) (mCons (mVar 0) mNil) [c, w, .un, .un, .un] t = .ok (.d (.int cs.length)) t := by
    have z := len_ok (m := mVar 0) (G := [c, w, .un, .un, .un]) (t := t) (t1 := t) (ds := cs.map .int) rfl
    rw [List.length_map] at z
    exact z
  generalize hn : ((cs.length : Nat) : Int) = n at e1
  have eo := e_orders h0 h1 t
  rw [hn] at eo
  have e2 := lc_rows (im := mSeq (mCall 1 f__law_orders [] (mCons (mVar 2) mNil))) (v := 3) (vs := [3]) (elt := mCall 2 f__law_product [] (mCons (mLc (mSeq (mVar 3)) (.nm 4) none (mBin fIx (mVar 0) (mVar 4)) [4]) (mCons (mVar 1) mNil))) (G := [c, w, .d (.int n), .un, .un]) (t := t) (os := ordL cs.length) (f := fun o => .int (pv (pick cs o) ws))
    (seq_list ((call1 (t1 := t) rfl).trans eo)) (Nat.le_of_ble_eq_true rfl) rfl rfl (by omega) (fun o ho => by
      obtain ⟨ol, ok⟩ := oks o ho
      have ep := e_pick (G := [c, w, .d (.int n), .d (tupI o), .un]) (i := 0) (j := 3) (v := 4) (cs := cs) (o := o) rfl rfl (Nat.le_of_ble_eq_true rfl) (by decide) (by decide) ok (by omega) t
      have er := e_prod (x := .list ((pick cs o).map .int)) (y := .tuple (ws.map .int)) (cs := pick cs o) (ws := ws) rfl rfl (pick_cont hc ok) hw (by simp [pick]; omega) t
      have z := (call2l (t2 := t) (b := mVar 1) (f := f__law_product) ep rfl).trans er
      show (mCall 2 f__law_product [] _ [c, w, .d (.int n), .d (tupI o), .un] t).fz = _
      rw [z]
      rfl)
  have h : m__law_even [c, w, .un, .un, .un] t = .rt (.int (evenV cs ws)) t := by
    unfold m__law_even
    refine (seq_nx (set_nx e1 (Nat.le_of_ble_eq_true rfl))).trans ?_
    refine ret_ok ?_
    have z : (ordL cs.length).map (fun o => PyData.int (pv (pick cs o) ws)) = ((ordL cs.length).map fun o => pv (pick cs o) ws).map .int := by simp [Function.comp_def]
    rw [z] at e2
    exact sum_ok e2
  exact run_rt (G := [c, w]) rfl h
end G
end

section
set_option Elab.async false
set_option linter.all false
set_option maxRecDepth 100000
set_option maxHeartbeats 4000000
set_option exponentiation.threshold 2000
namespace G
open PySem PySem.Spec PyProof.Rows L2 DL

theorem set_l {i : Nat} {m : EM} {G : Gm} {t t1 : Option DS} {xs : List D} (h : m G t = .ok (.l xs) t1) (hi : i < G.length) : sSet i m G t = .nx (G.set i (.l xs)) t1 := by
  simp only [sSet, h, Rs.bindS, Rv.sl, hi, if_true]
theorem tup_ok {m : EM} {G : Gm} {t t1 : Option DS} {xs : List D} (h : m G t = .ok (.l xs) t1) : mCallB fTuple (mCons m mNil) G t = .ok (.d (.tuple xs)) t1 := by
  simp only [mCallB, mCons, mNil, h, Rs.bind, Rs.fz, Rv.fz, fTuple, Rv.items, Rv.tup, Option.map_some, Option.some_or, Rs.of]
theorem dInts2_map (nss : List (List Int)) : dInts2 (nss.map tupI) = some nss := by
  induction nss with
  | nil => rfl
  | cons a l ih => simp [dInts2, ih, tupI, dInts_map]
def rowsL (cs : List Int) : List (List Int) := (ordL cs.length).map (pick cs)
theorem rowsL_ok {cs : List Int} (hc : Cont cs) (h0 : 2 ≤ cs.length) (h1 : cs.length ≤ 4) : (rowsL cs).length ≤ 24 ∧ ∀ r ∈ rowsL cs, Cont r ∧ r.length = cs.length := by
  obtain ⟨l24, oks⟩ := ordL_ok h0 h1
  refine ⟨by simp [rowsL]; omega, fun r hr => ?_⟩
  obtain ⟨o, ho, rfl⟩ := List.mem_map.mp hr
  obtain ⟨ol, ok⟩ := oks o ho
  exact ⟨pick_cont hc ok, by simp [pick, ol]⟩
def sumV (nss : List (List Int)) (ws : List Int) : Int := (nss.map fun r => pv r ws).sum
theorem evenV_eq (cs ws : List Int) : evenV cs ws = sumV (rowsL cs) ws := by simp [evenV, sumV, rowsL, Function.comp_def]
theorem ddI_mem : ∀ (l acc : List (List Int)) (r : List Int), r ∈ ddI acc l → r ∈ acc ∨ r ∈ l
  | [], acc, r, h => .inl h
  | x :: l, acc, r, h => by
    rcases ddI_mem l _ r h with z | z
    · split at z
      · exact .inl z
      · rcases List.mem_append.mp z with z | z
        · exact .inl z
        · exact .inr (by rw [List.mem_singleton.mp z]; exact List.mem_cons_self)
    · exact .inr (List.mem_cons_of_mem _ z)
/-- the sum over the rows -/
theorem e_rows {G : Gm} {i v j : Nat} {nss : List (List Int)} {ws : List Int} (hi : G[i]? = some (.d (.list (nss.map tupI)))) (hj : G[j]? = some (.d (.tuple (ws.map .int)))) (hv : v < G.length) (hjv : j ≠ v) (hn : ∀ r ∈ nss, Cont r ∧ r.length ≤ 5) (hw : Wors ws) (hl : nss.length ≤ 1000) (t : Option DS) :
    mCallB (f1 gSum) (mCons (mLc (mSeq (mVar i)) (.nm v) none (mCall 2 f__law_product [] (mCons (mVar v) (mCons (mVar j) mNil))) [v]) mNil) G t = .ok (.d (.int (sumV nss ws))) t := by
  have m1 : mVar i G t = .ok (.d (.list (nss.map tupI))) t := by simp only [mVar, hi]
  have e := lc_rows (im := mSeq (mVar i)) (v := v) (vs := [v]) (elt := mCall 2 f__law_product [] (mCons (mVar v) (mCons (mVar j) mNil))) (G := G) (t := t) (os := nss) (f := fun r => .int (pv r ws)) (seq_list m1) hv (by simp) (by simp [wipeG]) (by omega) (fun r hr => by
    obtain ⟨h1, h2⟩ := hn r hr
    have lv : v < (wipeG G [v]).length := by simpa [wipeG] using hv
    have m2 : mVar v ((wipeG G [v]).set v (.d (tupI r))) t = .ok (.d (tupI r)) t := by
      simp only [mVar, List.getElem?_set_self lv]
    have m3 : mVar j ((wipeG G [v]).set v (.d (tupI r))) t = .ok (.d (.tuple (ws.map .int))) t := by
      have g : (wipeG G [v])[j]? = G[j]? := List.getElem?_set_ne (Ne.symm hjv)
      simp only [mVar, List.getElem?_set_ne (Ne.symm hjv), g, hj]
    have er := e_prod (x := tupI r) (y := .tuple (ws.map .int)) (cs := r) (ws := ws) rfl rfl h1 hw h2 t
    rw [(call2 (f := f__law_product) m2 m3).trans er]
    rfl)
  have z : nss.map (fun o => PyData.int (pv o ws)) = (nss.map fun o => pv o ws).map .int := by simp [Function.comp_def]
  rw [z] at e
  exact sum_ok e
theorem e_osum {cs ws : List Int} (hc : Cont cs) (hw : Wors ws) (h0 : 2 ≤ cs.length) (h1 : cs.length ≤ 4) (u : Bool) (t : Option DS) :
    f_orders_sum [.d (.tuple (cs.map .int)), .d (.tuple (ws.map .int)), .d (.bool u)] t = .ok (.d (.int (sumV (if u then ddI [] (rowsL cs) else rowsL cs) ws))) t := by
  obtain ⟨l24, oks⟩ := ordL_ok h0 h1
  obtain ⟨r24, roks⟩ := rowsL_ok hc h0 h1
  let c := Sl.d (.tuple (cs.map .int))
  let w := Sl.d (.tuple (ws.map .int))
  let b := Sl.d (.bool u)
  have e1 : mCallB (f1 gLen) (mCons (mVar 0) mNil) [c, w, b, .un, .un, .un, .un] t = .ok (.d (.int cs.length)) t := by
    have z := len_ok (m := mVar 0) (G := [c, w, b, .un, .un, .un, .un]) (t := t) (t1 := t) (ds := cs.map .int) rfl
    rw [List.length_map] at z
    exact z
  have e2 := lc_rows (im := mSeq (mCall 1 f_name_orders [] (mCons (mCallB (f1 gLen) (mCons (mVar 0) mNil)) mNil))) (v := 4) (vs := [4]) (elt := mCallB fTuple (mCons (mLc (mSeq (mVar 4)) (.nm 6) none (mBin fIx (mVar 0) (mVar 6)) [6]) mNil)) (G := [c, w, b, .un, .un, .un, .un]) (t := t) (os := ordL cs.length) (f := fun o => tupI (pick cs o))
    (seq_list ((call1 (f := f_name_orders) e1).trans (e_orders h0 h1 t))) (Nat.le_of_ble_eq_true rfl) rfl rfl (by omega) (fun o ho => by
      obtain ⟨ol, ok⟩ := oks o ho
      have ep := e_pick (G := [c, w, b, .un, .d (tupI o), .un, .un]) (i := 0) (j := 4) (v := 6) (cs := cs) (o := o) rfl rfl (Nat.le_of_ble_eq_true rfl) (by decide) (by decide) ok (by omega) t
      show (mCallB fTuple _ [c, w, b, .un, .d (tupI o), .un, .un] t).fz = _
      rw [tup_ok ep]
      rfl)
  have z : (ordL cs.length).map (fun o => tupI (pick cs o)) = (rowsL cs).map tupI := by simp [rowsL, Function.comp_def]
  rw [z] at e2
  have fin : ∀ nss : List (List Int), (∀ r ∈ nss, Cont r ∧ r.length ≤ 5) → nss.length ≤ 1000 → sSeq (sFrz 3 (sRet (mCallB (f1 gSum) (mCons (mLc (mSeq (mVar 3)) (.nm 5) none (mCall 2 f_product_of [] (mCons (mVar 5) (mCons (mVar 1) (mNil)))) [5]) (mNil))))) (sSkip) [c, w, b, .l (nss.map tupI), .un, .un, .un] t = .rt (.int (sumV nss ws)) t := fun nss hn hl => by
    have e := e_rows (G := [c, w, b, .d (.list (nss.map tupI)), .un, .un, .un]) (i := 3) (v := 5) (j := 1) (nss := nss) (ws := ws) rfl rfl (Nat.le_of_ble_eq_true rfl) (by decide) hn hw hl t
    refine seq_rt ?_
    show sRet _ [c, w, b, .d (.list (nss.map tupI)), .un, .un, .un] t = _
    have e' : mCallB (f1 gSum) (mCons (mLc (mSeq (mVar 3)) (.nm 5) none (mCall 2 f_product_of [] (mCons (mVar 5) (mCons (mVar 1) (mNil)))) [5]) (mNil)) [c, w, b, .d (.list (nss.map tupI)), .un, .un, .un] t = .ok (.d (.int (sumV nss ws))) t := e
    simp only [sRet, e', Rs.fz, Rs.bind, Rv.fz, Rs.bindS]
  have h : m_orders_sum [c, w, b, .un, .un, .un, .un] t = .rt (.int (sumV (if u then ddI [] (rowsL cs) else rowsL cs) ws)) t := by
    unfold m_orders_sum
    refine (seq_nx (set_l e2 (Nat.le_of_ble_eq_true rfl))).trans ?_
    cases u with
    | false =>
      refine (seq_nx (G1 := [c, w, b, .l ((rowsL cs).map tupI), .un, .un, .un]) (t1 := t) rfl).trans ?_
      exact fin _ (fun r hr => ⟨(roks r hr).1, by rw [(roks r hr).2]; omega⟩) (by omega)
    | true =>
      have ed : mDd (mSeq (mVar 3)) 5 [c, w, b, .d (.list ((rowsL cs).map tupI)), .un, .un, .un] t = .ok (.l ((ddI [] (rowsL cs)).map tupI)) t := by
        unfold mDd
        rw [if_pos (show 5 < [c, w, b, .d (.list ((rowsL cs).map tupI)), .un, .un, .un].length from Nat.le_of_ble_eq_true rfl), seq_list (m := mVar 3) (t1 := t) (xs := (rowsL cs).map tupI) rfl]
        simp only [Rs.bind, dInts2_map]
        rw [if_pos (by omega)]
      refine (seq_nx (G1 := [c, w, b, .l ((ddI [] (rowsL cs)).map tupI), .un, .un, .un]) (t1 := t) ?_).trans ?_
      · show sSeq (sFrz 3 (sSet 3 (mDd (mSeq (mVar 3)) 5))) sSkip [c, w, b, .l ((rowsL cs).map tupI), .un, .un, .un] t = _
        refine (seq_nx (G1 := [c, w, b, .l ((ddI [] (rowsL cs)).map tupI), .un, .un, .un]) (t1 := t) ?_).trans rfl
        show sSet 3 (mDd (mSeq (mVar 3)) 5) [c, w, b, .d (.list ((rowsL cs).map tupI)), .un, .un, .un] t = _
        exact set_l ed (Nat.le_of_ble_eq_true rfl)
      · have dl := @ddI_le ⟨[]⟩ (rowsL cs) []
        exact fin _ (fun r hr => by
          rcases ddI_mem _ _ r hr with z | z
          · cases z
          · exact ⟨(roks r z).1, by rw [(roks r z).2]; omega⟩) (by simp at dl; omega)
  exact run_rt (G := [c, w, b]) rfl h
end G
end

section
set_option Elab.async false
set_option linter.all false
set_option maxRecDepth 100000
set_option maxHeartbeats 4000000
set_option exponentiation.threshold 2000
namespace G
open PySem PySem.Spec PyProof.Rows L2 DL

theorem shaped_tup (ns : List Int) : SeqAt.shaped (tupI ns) = true := by
  obtain ⟨a, b⟩ := @lay_ints ⟨[]⟩ ns
  simp [tupI, SeqAt.shaped, PyData.canLay0, PyData.depth, a, b]
theorem lay_rows : ∀ nss : List (List Int), PyData.canLayAll0 (nss.map tupI) = true ∧ PyData.depthAll (nss.map tupI) ≤ 1
  | [] => ⟨rfl, by simp [PyData.depthAll]⟩
  | n :: nss => by
    obtain ⟨a, b⟩ := lay_rows nss
    obtain ⟨c, d⟩ := @lay_ints ⟨[]⟩ n
    exact ⟨by simp [PyData.canLayAll0, PyData.canLay0, tupI, a, c], by simp [PyData.depthAll, PyData.depth, tupI, d]; omega⟩
theorem shaped_rows (nss : List (List Int)) : SeqAt.shaped (.list (nss.map tupI)) = true := by
  obtain ⟨a, b⟩ := lay_rows nss
  simp [SeqAt.shaped, PyData.canLay0, PyData.depth, a]
  omega
theorem eqv_all : ∀ a b : List Int, PyData.eqvAll (a.map .int) (b.map .int) = decide (a = b)
  | [], [] => by simp [PyData.eqvAll]
  | [], _ :: _ => by simp [PyData.eqvAll]
  | _ :: _, [] => by simp [PyData.eqvAll]
  | x :: xs, y :: ys => by
    rw [List.map_cons, List.map_cons, PyData.eqvAll, eqv_all xs ys, PyData.eqv, Bool.eq_iff_iff]
    simp
theorem eqv_tup (a b : List Int) : PyData.eqv (tupI a) (tupI b) = decide (a = b) := by
  rw [← eqv_all a b]
  simp [tupI, PyData.eqv]
theorem in_rows (r : List Int) (nss : List (List Int)) : gIn (tupI r) (.list (nss.map tupI)) = some (decide (r ∈ nss)) := by
  have e : gIn (tupI r) (.list (nss.map tupI)) = (if SeqAt.shaped (tupI r) && SeqAt.shaped (.list (nss.map tupI)) then some ((nss.map tupI).any fun z => PyData.eqv z (tupI r)) else none) := rfl
  rw [e, shaped_tup, shaped_rows]
  simp only [Bool.and_self, if_true, List.any_map, Option.some.injEq]
  rw [Bool.eq_iff_iff]
  simp [Function.comp_def, eqv_tup]
end G
end

section
set_option Elab.async false
set_option linter.all false
set_option maxRecDepth 100000
set_option maxHeartbeats 4000000
set_option exponentiation.threshold 2000
namespace G
open PySem PySem.Spec PyProof.Rows L2 DL

abbrev unB : SM := sSeq (sSet 4 (mCallB fTuple (mCons (mLc (mSeq (mVar 3)) (.nm 5) none (mBin fIx (mVar 0) (mVar 5)) [5]) (mNil)))) (sSeq (sIf (mCmpB fNotIn (mVar 4) (mVar 2)) (sSeq (sApp 2 (mVar 4)) (sSkip)) (sSkip)) (sSkip))
theorem un_step {cs o : List Int} {acc : List (List Int)} {w s4 s5 : Sl} (ok : ∀ k ∈ o, 0 ≤ k ∧ k < cs.length) (hl : o.length ≤ 1000) (ha : acc.length < 1000) (t : Option DS) :
    unB [.d (.tuple (cs.map .int)), w, .l (acc.map tupI), .d (tupI o), s4, s5] t = .nx [.d (.tuple (cs.map .int)), w, .l ((if pick cs o ∈ acc then acc else acc ++ [pick cs o]).map tupI), .d (tupI o), .d (tupI (pick cs o)), s5] t := by
  have ep := e_pick (G := [.d (.tuple (cs.map .int)), w, .l (acc.map tupI), .d (tupI o), s4, s5]) (i := 0) (j := 3) (v := 5) (cs := cs) (o := o) rfl rfl (Nat.le_of_ble_eq_true rfl) (by decide) (by decide) ok hl t
  refine (seq_nx (set_nx (tup_ok ep) (Nat.le_of_ble_eq_true rfl))).trans ?_
  show sSeq _ _ [.d (.tuple (cs.map .int)), w, .l (acc.map tupI), .d (tupI o), .d (tupI (pick cs o)), s5] t = _
  generalize pick cs o = r
  have e : mCmpB fNotIn (mVar 4) (mVar 2) [.d (.tuple (cs.map .int)), w, .l (acc.map tupI), .d (tupI o), .d (tupI r), s5] t = .ok (!decide (r ∈ acc)) t := by
    have z : mBin fNotIn (mVar 4) (mVar 2) [.d (.tuple (cs.map .int)), w, .l (acc.map tupI), .d (tupI o), .d (tupI r), s5] t = Rs.of ((((gIn (tupI r) (.list (acc.map tupI))).map not).map PyData.bool).map Rv.d) t := rfl
    rw [in_rows] at z
    unfold mCmpB
    rw [z]
    rfl
  by_cases h : r ∈ acc
  · rw [if_pos h]
    rw [decide_eq_true h] at e
    refine (seq_nx (G1 := [.d (.tuple (cs.map .int)), w, .l (acc.map tupI), .d (tupI o), .d (tupI r), s5]) (t1 := t) ?_).trans rfl
    simp only [sIf, e, Rs.bindS, Bool.not_true, Bool.false_eq_true, if_false, sSkip]
  · rw [if_neg h]
    rw [decide_eq_false h] at e
    have ap : sApp 2 (mVar 4) [.d (.tuple (cs.map .int)), w, .l (acc.map tupI), .d (tupI o), .d (tupI r), s5] t = .nx [.d (.tuple (cs.map .int)), w, .l (acc.map tupI ++ [tupI r]), .d (tupI o), .d (tupI r), s5] t := by
      have z : sApp 2 (mVar 4) [.d (.tuple (cs.map .int)), w, .l (acc.map tupI), .d (tupI o), .d (tupI r), s5] t = (if (acc.map tupI).length < 16777216 then So.nx [.d (.tuple (cs.map .int)), w, .l (acc.map tupI ++ [tupI r]), .d (tupI o), .d (tupI r), s5] t else .stuck) := rfl
      rw [z, if_pos (by rw [List.length_map]; omega)]
    refine (seq_nx (G1 := [.d (.tuple (cs.map .int)), w, .l (acc.map tupI ++ [tupI r]), .d (tupI o), .d (tupI r), s5]) (t1 := t) ?_).trans ?_
    · simp only [sIf, e, Rs.bindS, Bool.not_false, if_true, sSeq, ap, sSkip]
    · rw [List.map_append]
      rfl
theorem un_loop {cs : List Int} {w : Sl} (t : Option DS) : ∀ (os acc : List (List Int)) (s3 s4 s5 : Sl), (∀ o ∈ os, o.length ≤ 1000 ∧ ∀ k ∈ o, 0 ≤ k ∧ k < cs.length) → acc.length + os.length ≤ 1000 →
    ∃ s3' s4' s5', loop (.nm 3) unB (os.map tupI) [.d (.tuple (cs.map .int)), w, .l (acc.map tupI), s3, s4, s5] t = .nx [.d (.tuple (cs.map .int)), w, .l ((ddI acc (os.map (pick cs))).map tupI), s3', s4', s5'] t
  | [], acc, s3, s4, s5, _, _ => ⟨s3, s4, s5, rfl⟩
  | o :: os, acc, s3, s4, s5, h, hl => by
    obtain ⟨h1, h2⟩ := h o List.mem_cons_self
    have hl' : acc.length + os.length + 1 ≤ 1000 := by simp at hl; omega
    have hl2 : (if pick cs o ∈ acc then acc else acc ++ [pick cs o]).length + os.length ≤ 1000 := by split <;> (try simp) <;> omega
    obtain ⟨s3', s4', s5', e⟩ := un_loop t os (if pick cs o ∈ acc then acc else acc ++ [pick cs o]) (.d (tupI o)) (.d (tupI (pick cs o))) s5 (fun o h' => h o (List.mem_cons_of_mem _ h')) hl2
    refine ⟨s3', s4', s5', ?_⟩
    show (match unB [.d (.tuple (cs.map .int)), w, .l (acc.map tupI), .d (tupI o), s4, s5] t with | .nx G2 t2 => loop (.nm 3) unB (os.map tupI) G2 t2 | .ct G2 t2 => loop (.nm 3) unB (os.map tupI) G2 t2 | .bk G2 t2 => .nx G2 t2 | o => o) = _
    rw [un_step h2 h1 (by omega) t]
    exact e
theorem e_unlike {cs ws : List Int} (hc : Cont cs) (hw : Wors ws) (h0 : 2 ≤ cs.length) (h1 : cs.length ≤ 4) (t : Option DS) :
    f__law_unlike [.d (.tuple (cs.map .int)), .d (.tuple (ws.map .int))] t = .ok (.d (.int (sumV (ddI [] (rowsL cs)) ws))) t := by
  obtain ⟨l24, oks⟩ := ordL_ok h0 h1
  obtain ⟨r24, roks⟩ := rowsL_ok hc h0 h1
  let c := Sl.d (.tuple (cs.map .int))
  let w := Sl.d (.tuple (ws.map .int))
  have e1 : mCallB (f1 gLen) (mCons (mVar 0) mNil) [c, w, .l [], .un, .un, .un] t = .ok (.d (.int cs.length)) t := by
    have z := len_ok (m := mVar 0) (G := [c, w, .l [], .un, .un, .un]) (t := t) (t1 := t) (ds := cs.map .int) rfl
    rw [List.length_map] at z
    exact z
  obtain ⟨s3, s4, s5, e⟩ := un_loop (cs := cs) (w := w) t (ordL cs.length) [] .un .un .un (fun o ho => ⟨by rw [(oks o ho).1]; omega, (oks o ho).2⟩) (by simp; omega)
  have ei : mSeq (mCall 1 f__law_orders [] (mCons (mCallB (f1 gLen) (mCons (mVar 0) mNil)) mNil)) [c, w, .l [], .un, .un, .un] t = .ok ((ordL cs.length).map tupI) t := seq_list ((call1 (f := f__law_orders) e1).trans (e_orders h0 h1 t))
  have er := e_rows (G := [c, w, .d (.list ((ddI [] (rowsL cs)).map tupI)), s3, s4, s5]) (i := 2) (v := 4) (j := 1) (nss := ddI [] (rowsL cs)) (ws := ws) rfl rfl (Nat.le_of_ble_eq_true rfl) (by decide) (fun r hr => by
    rcases ddI_mem _ _ r hr with z | z
    · cases z
    · exact ⟨(roks r z).1, by rw [(roks r z).2]; omega⟩) hw (by have dl := @ddI_le ⟨[]⟩ (rowsL cs) []; simp at dl; omega) t
  have h : m__law_unlike [c, w, .un, .un, .un, .un] t = .rt (.int (sumV (ddI [] (rowsL cs)) ws)) t := by
    unfold m__law_unlike
    refine (seq_nx (a := sSet 2 (mLst mNil)) (G1 := [c, w, .l [], .un, .un, .un]) (t1 := t) rfl).trans ?_
    refine (seq_nx (for_nx ei e)).trans ?_
    refine seq_rt ?_
    show sRet _ [c, w, .d (.list ((ddI [] (rowsL cs)).map tupI)), s3, s4, s5] t = _
    simp only [sRet, er, Rs.fz, Rs.bind, Rv.fz, Rs.bindS]
  exact run_rt (G := [c, w]) rfl h
end G
end

section
set_option Elab.async false
set_option linter.all false
set_option maxRecDepth 100000
set_option maxHeartbeats 4000000
set_option exponentiation.threshold 2000
namespace G
open PySem PySem.Spec PyProof.Rows L2 DL

theorem expr_ok {m : EM} {G : Gm} {t t1 : Option DS} {x : Rv} (h : m G t = .ok x t1) : sExpr m G t = .nx G t1 := by
  simp only [sExpr, h, Rs.bindS]
theorem if_no {c : BM} {a b : SM} {G : Gm} {t t1 : Option DS} (h : c G t = .ok false t1) : sIf c a b G t = b G t1 := by
  simp only [sIf, h, Rs.bindS, Bool.false_eq_true, if_false]
theorem if_yes {c : BM} {a b : SM} {G : Gm} {t t1 : Option DS} (h : c G t = .ok true t1) : sIf c a b G t = a G t1 := by
  simp only [sIf, h, Rs.bindS, if_true]
/-- a tuple of the right length -/
theorem shape_ok {ds : List D} {z : Sl} {n : Int} (h : (ds.length : Int) = n) (t : Option DS) : mOrB (mNotB (mTru (mIsi "tuple" (mVar 1)))) (mCmpB fNe (mCallB (f1 gLen) (mCons (mVar 1) mNil)) (mVar 0)) [.d (.int n), .d (.tuple ds), z] t = .ok false t := by
  have e1 : mIsi "tuple" (mVar 1) [.d (.int n), .d (.tuple ds), z] t = .ok (.d (.bool true)) t := rfl
  have e2 := len_ok (m := mVar 1) (G := [.d (.int n), .d (.tuple ds), z]) (t := t) (t1 := t) (ds := ds) rfl
  have e3 : mVar 0 [.d (.int n), .d (.tuple ds), z] t = .ok (.d (.int n)) t := rfl
  rw [h] at e2
  simp only [mOrB, mNotB, mTru, e1, mCmpB, mBin, e2, e3, Rs.fz, Rv.fz, Rs.bind, Rs.of, Rv.truth, Bool.not_true, Bool.false_eq_true, if_false, fNe, fRead, Rv.toD, Option.bind_some, gEq, Option.map_some, decide_true, Rv.bl]
theorem e_worths {n : Int} {ws : List Int} (hn : 2 ≤ n ∧ n ≤ 5) (hl : (ws.length : Int) = n) (hw : Wors ws) (t : Option DS) : f_need_worths [.d (.int n), .d (.tuple (ws.map .int))] t = .ok (.d (.tuple (ws.map .int))) t := by
  have h : m_need_worths [.d (.int n), .d (.tuple (ws.map .int)), .un] t = .rt (.tuple (ws.map .int)) t := by
    unfold m_need_worths
    refine (seq_nx (expr_ok ((call1 (t1 := t) rfl).trans (e_many n hn t)))).trans ?_
    refine (seq_nx ((if_no (shape_ok (by rw [List.length_map]; exact hl) t)).trans rfl)).trans ?_
    obtain ⟨G', t', e1, e2⟩ := loop_inv (pt := .nm 2) (items := ws.map .int) (I := fun i G t' => t' = t ∧ ∃ y, G = [.d (.int n), .d (.tuple (ws.map .int)), y])
      (body := sSeq (sIf (mOrB (mNotB (mTru (mIsi "int" (mVar 2)))) (mOrB (mTru (mIsi "bool" (mVar 2))) (mNotB (mBl (mChain (fCm iLe) (fCm iLe) (mNeg (mC (.int 100))) (mVar 2) (mC (.int 100))))))) (sSeq (sRaise "BadWorths" ["value"] (mCons (mVar 1) (mNil))) (sSkip)) (sSkip)) (sSkip))
      (fun i x G t' hx hI => by
        obtain ⟨rfl, y, rfl⟩ := hI
        obtain ⟨w, hm, rfl⟩ := List.mem_map.mp (List.mem_of_getElem? hx)
        obtain ⟨w1, w2⟩ := hw.le w hm
        refine ⟨[.d (.int n), .d (.tuple (ws.map .int)), .d (.int w)], [.d (.int n), .d (.tuple (ws.map .int)), .d (.int w)], t', rfl, ?_, rfl, _, rfl⟩
        refine (seq_nx (if_no ?_)).trans rfl
        simp [runM, argsG, Rv.arg, sSeq, sRet, sSet, sIf, sFor, sFrz, sExpr, sSkip, sApp, sRaise, mVar, mC, mBin, mCall, mCallK, mCallB, mCons, mNil, mTup, mLst, mAnd, mNot, mIsi, mChain, mIf, mNotB, mTru, mCmpB, mBl, mOrB, mAndB, mNeg, mRange1, rng1, mSeq, mZip, mSl, mPart, partI, Rs.bind, Rs.bindS, Rs.of, Rs.fz, Rv.fz, Rv.toD, Rv.truth, Rv.bl, Rv.sl, Rv.seq, Rv.items, Rv.tup, dats, f1, f2, fRead, fI, fCm, gCmp, iLt, iLe, iGt, iGe, gLen, gInt, gMin, gMax, gAbs, fAdd, fSub, fMul, fMod, fDiv, fCat, fCatT, fCatStr, isiOk, isiB, tyName, w1, w2])
      (G := [.d (.int n), .d (.tuple (ws.map .int)), .un]) (t := t) ⟨rfl, _, rfl⟩
    obtain ⟨rfl, y, rfl⟩ := e2
    refine (seq_nx (for_nx (items := ws.map .int) (t1 := t') rfl e1)).trans ?_
    rfl
  exact run_rt (G := [.d (.int n), .d (.tuple (ws.map .int))]) rfl h
end G
end

section
set_option Elab.async false
set_option linter.all false
set_option maxRecDepth 100000
set_option maxHeartbeats 4000000
set_option exponentiation.threshold 2000
namespace G
open PySem PySem.Spec PyProof.Rows L2 DL

theorem call3 {f : FM} {a b c : EM} {G : Gm} {t t1 t2 t3 : Option DS} {x y z : D} (h1 : a G t = .ok (.d x) t1) (h2 : b G t1 = .ok (.d y) t2) (h3 : c G t2 = .ok (.d z) t3) : mCall 3 f [] (mCons a (mCons b (mCons c mNil))) G t = f [.d x, .d y, .d z] t3 := by
  simp only [mCall, mCons, mNil, h1, h2, h3, Rs.bind, Rs.fz, Rv.fz, List.length_cons, List.length_nil, if_true, List.map_nil, List.append_nil]
theorem tru_ok {m : EM} {G : Gm} {t t1 : Option DS} {b : Bool} (h : m G t = .ok (.d (.bool b)) t1) : mNotB (mTru m) G t = .ok (!b) t1 := by
  simp only [mNotB, mTru, h, Rs.fz, Rs.bind, Rv.fz, Rv.truth, Rs.of]
theorem e_isc {n : Int} {cs : List Int} (hn : 2 ≤ n ∧ n ≤ 5) (hl : (cs.length : Int) = n) (hc : Cont cs) (t : Option DS) : f_is_content [.d (.int n), .d (.tuple (cs.map .int))] t = .ok (.d (.bool true)) t := by
  have h : m_is_content [.d (.int n), .d (.tuple (cs.map .int)), .un] t = .rt (.bool true) t := by
    unfold m_is_content
    refine (seq_nx (expr_ok ((call1 (t1 := t) rfl).trans (e_many n hn t)))).trans ?_
    refine (seq_nx ((if_no (shape_ok (by rw [List.length_map]; exact hl) t)).trans rfl)).trans ?_
    obtain ⟨G', t', e1, e2⟩ := loop_inv (pt := .nm 2) (items := cs.map .int) (I := fun i G t' => t' = t ∧ ∃ y, G = [.d (.int n), .d (.tuple (cs.map .int)), y])
      (body := sSeq (sIf (mNotB (mTru (mCall 3 f_is_from [] (mCons (mVar 2) (mCons (mC (.int 0)) (mCons (mC (.int 24)) (mNil))))))) (sSeq (sRet (mC (.bool false))) (sSkip)) (sSkip)) (sSkip))
      (fun i x G t' hx hI => by
        obtain ⟨rfl, y, rfl⟩ := hI
        obtain ⟨c, hm, rfl⟩ := List.mem_map.mp (List.mem_of_getElem? hx)
        obtain ⟨w1, w2⟩ := hc.le c hm
        refine ⟨[.d (.int n), .d (.tuple (cs.map .int)), .d (.int c)], [.d (.int n), .d (.tuple (cs.map .int)), .d (.int c)], t', rfl, ?_, rfl, _, rfl⟩
        have ef := e_from c 0 24 t'
        rw [decide_eq_true w1, decide_eq_true w2] at ef
        exact (seq_nx (if_no (tru_ok (b := true) ((call3 (t1 := t') (t2 := t') (t3 := t') rfl rfl rfl).trans ef)))).trans rfl)
      (G := [.d (.int n), .d (.tuple (cs.map .int)), .un]) (t := t) ⟨rfl, _, rfl⟩
    obtain ⟨rfl, y, rfl⟩ := e2
    refine (seq_nx (for_nx (items := cs.map .int) (t1 := t') rfl e1)).trans ?_
    rfl
  exact run_rt (G := [.d (.int n), .d (.tuple (cs.map .int))]) rfl h
theorem e_content {n : Int} {cs : List Int} (hn : 2 ≤ n ∧ n ≤ 5) (hl : (cs.length : Int) = n) (hc : Cont cs) (t : Option DS) : f_need_content [.d (.int n), .d (.tuple (cs.map .int))] t = .ok (.d (.tuple (cs.map .int))) t := by
  have h : m_need_content [.d (.int n), .d (.tuple (cs.map .int))] t = .rt (.tuple (cs.map .int)) t := by
    unfold m_need_content
    refine (seq_nx ((if_no (tru_ok (b := true) ((call2 (t1 := t) (t2 := t) rfl rfl).trans (e_isc hn hl hc t)))).trans rfl)).trans ?_
    rfl
  exact run_rt (G := [.d (.int n), .d (.tuple (cs.map .int))]) rfl h
theorem e_pat {n : Int} {cs ws : List Int} (hn : 2 ≤ n ∧ n ≤ 5) (hl : (cs.length : Int) = n) (hk : (ws.length : Int) = n) (hc : Cont cs) (hw : Wors ws) (t : Option DS) :
    f_product_at [.d (.int n), .d (.tuple (cs.map .int)), .d (.tuple (ws.map .int))] t = .ok (.d (.int (pv cs ws))) t := by
  have h : m_product_at [.d (.int n), .d (.tuple (cs.map .int)), .d (.tuple (ws.map .int))] t = .rt (.int (pv cs ws)) t := by
    unfold m_product_at
    refine (seq_nx (expr_ok ((call1 (t1 := t) rfl).trans (e_many n hn t)))).trans ?_
    refine (seq_nx (expr_ok ((call2 (t1 := t) (t2 := t) rfl rfl).trans (e_content hn hl hc t)))).trans ?_
    refine (seq_nx (expr_ok ((call2 (t1 := t) (t2 := t) rfl rfl).trans (e_worths hn hk hw t)))).trans ?_
    exact ret_ok ((call2 (f := f_product_of) (t1 := t) (t2 := t) rfl rfl).trans (e_prod (x := .tuple (cs.map .int)) (y := .tuple (ws.map .int)) rfl rfl hc hw (by omega) t))
  exact run_rt (G := [.d (.int n), .d (.tuple (cs.map .int)), .d (.tuple (ws.map .int))]) rfl h
theorem e_esum {n : Int} {cs ws : List Int} (hn : 2 ≤ n ∧ n ≤ 4) (hl : (cs.length : Int) = n) (hk : (ws.length : Int) = n) (hc : Cont cs) (hw : Wors ws) (u : Bool) (t : Option DS) :
    f_even_sum [.d (.int n), .d (.tuple (cs.map .int)), .d (.tuple (ws.map .int)), .d (.bool u)] t = .ok (.d (.int (sumV (if u then ddI [] (rowsL cs) else rowsL cs) ws))) t := by
  have hn5 : 2 ≤ n ∧ n ≤ 5 := by omega
  have h : m_even_sum [.d (.int n), .d (.tuple (cs.map .int)), .d (.tuple (ws.map .int)), .d (.bool u)] t = .rt (.int (sumV (if u then ddI [] (rowsL cs) else rowsL cs) ws)) t := by
    unfold m_even_sum
    refine (seq_nx (expr_ok ((call1 (t1 := t) rfl).trans (e_many n hn5 t)))).trans ?_
    refine (seq_nx (expr_ok ((call2 (t1 := t) (t2 := t) rfl rfl).trans (e_content hn5 hl hc t)))).trans ?_
    refine (seq_nx (expr_ok ((call2 (t1 := t) (t2 := t) rfl rfl).trans (e_worths hn5 hk hw t)))).trans ?_
    exact ret_ok ((call3 (f := f_orders_sum) (t1 := t) (t2 := t) (t3 := t) rfl rfl rfl).trans (e_osum hc hw (by omega) (by omega) u t))
  exact run_rt (G := [.d (.int n), .d (.tuple (cs.map .int)), .d (.tuple (ws.map .int)), .d (.bool u)]) rfl h
end G
end

section
set_option Elab.async false
set_option linter.all false
set_option maxRecDepth 100000
set_option maxHeartbeats 4000000
set_option exponentiation.threshold 2000
namespace G
open PySem PySem.Spec PyProof.Rows L2 DL

theorem expr_ex {m : EM} {G : Gm} {c : Str} {fs : List (Str × D)} {t t1 : Option DS} (h : m G t = .ex c fs t1) : sExpr m G t = .ex c fs G t1 := by
  simp only [sExpr, h, Rs.bindS]
/-- the odd numbers of variables -/
def OddN (x : D) : Prop := x = .int 1 ∨ x = .int 6 ∨ x = .bool true ∨ x = .str "2" ∨ x = .none
theorem bad_many {x : D} (h : OddN x) (t : Option DS) : f_need_many [.d x] t = .ex "BadMany" [("value", x)] t := by
  rcases h with rfl | rfl | rfl | rfl | rfl <;> rfl
section
variable {x : D} (h : OddN x) (t : Option DS)
include h
theorem bm_worths (v : D) : f_need_worths [.d x, .d v] t = .ex "BadMany" [("value", x)] t :=
  run_ex (G := [.d x, .d v]) (m := m_need_worths) rfl (seq_ex (expr_ex ((call1 (t1 := t) rfl).trans (bad_many h t))))
theorem bm_pat (u v : D) : f_product_at [.d x, .d u, .d v] t = .ex "BadMany" [("value", x)] t :=
  run_ex (G := [.d x, .d u, .d v]) (m := m_product_at) rfl (seq_ex (expr_ex ((call1 (t1 := t) rfl).trans (bad_many h t))))
theorem bm_esum (u v b : D) : f_even_sum [.d x, .d u, .d v, .d b] t = .ex "BadMany" [("value", x)] t :=
  run_ex (G := [.d x, .d u, .d v, .d b]) (m := m_even_sum) rfl (seq_ex (expr_ex ((call1 (t1 := t) rfl).trans (bad_many h t))))
theorem bm_test (v : D) : f_test_worths [.d x, .d v] t = .ex "BadMany" [("value", x)] t :=
  run_ex (G := [.d x, .d v]) (m := m_test_worths) rfl (seq_ex (expr_ex ((call1 (t1 := t) rfl).trans (bad_many h t))))
end
end G
end

section
set_option Elab.async false
set_option linter.all false
set_option maxRecDepth 100000
set_option maxHeartbeats 4000000
set_option exponentiation.threshold 2000
namespace G
open PySem PySem.Spec PyProof.Rows L2 DL

abbrev hds : List Hd := [⟨"BadMany", some 6, sSeq (sSet 5 (mLst (mCons (mC (.str "BadMany")) (mCons (mXf ft 6 "value") (mNil))))) (sSkip)⟩, ⟨"BadContent", some 6, sSeq (sSet 5 (mLst (mCons (mC (.str "BadContent")) (mCons (mXf ft 6 "value") (mNil))))) (sSkip)⟩, ⟨"BadWorths", some 6, sSeq (sSet 5 (mLst (mCons (mC (.str "BadWorths")) (mCons (mXf ft 6 "value") (mNil))))) (sSkip)⟩, ⟨"BadTotal", some 6, sSeq (sSet 5 (mLst (mCons (mC (.str "BadTotal")) (mCons (mXf ft 6 "value") (mNil))))) (sSkip)⟩]
def Caught (c : Str) : Prop := c = "BadMany" ∨ c = "BadContent" ∨ c = "BadWorths" ∨ c = "BadTotal"
theorem handled {f n C W T x : D} {c : Str} (hc : Caught c) (t : Option DS) : handleM tab c [("value", x)] [.d f, .d n, .d C, .d W, .d T, .un, .un] t hds = .nx [.d f, .d n, .d C, .d W, .d T, .l [.str c, x], .un] t := by
  rcases hc with rfl | rfl | rfl | rfl <;> rfl
theorem asked_ex {f n C W T x : D} {c : Str} (hc : Caught c) {body : SM} {t t1 : Option DS} (hb : body [.d f, .d n, .d C, .d W, .d T, .un, .un] t = .ex c [("value", x)] [.d f, .d n, .d C, .d W, .d T, .un, .un] t1) :
    sSeq (sTry tab body hds) (sSeq (sFrz 5 (sRet (mVar 5))) (sSkip)) [.d f, .d n, .d C, .d W, .d T, .un, .un] t = .rt (.list [.str c, x]) t1 := by
  have e : sTry tab body hds [.d f, .d n, .d C, .d W, .d T, .un, .un] t = .nx [.d f, .d n, .d C, .d W, .d T, .l [.str c, x], .un] t1 := by
    unfold sTry
    rw [hb]
    exact handled hc t1
  exact (seq_nx e).trans rfl
end G
end

section
set_option Elab.async false
set_option linter.all false
set_option maxRecDepth 100000
set_option maxHeartbeats 4000000
set_option exponentiation.threshold 2000
namespace G
open PySem PySem.Spec PyProof.Rows L2 DL

theorem told_ex {x : D} {call : EM} {G : Gm} {c : Str} {fs : List (Str × D)} {t t1 : Option DS} (h : call G t = .ex c fs t1) : sSet 5 (mLst (mCons (mC x) (mCons call mNil))) G t = .ex c fs G t1 := by
  simp only [sSet, mLst, mCons, mC, h, Rs.bind, Rs.fz, Rv.fz, Rs.bindS]
theorem call3d {f : FM} {a b c : EM} {d : D} {G : Gm} {t t1 t2 t3 : Option DS} {x y z : D} (h1 : a G t = .ok (.d x) t1) (h2 : b G t1 = .ok (.d y) t2) (h3 : c G t2 = .ok (.d z) t3) : mCall 4 f [d] (mCons a (mCons b (mCons c mNil))) G t = f [.d x, .d y, .d z, .d d] t3 := by
  simp only [mCall, mCons, mNil, h1, h2, h3, Rs.bind, Rs.fz, Rv.fz, List.length_cons, List.length_nil, if_true, List.map_nil, List.map_cons, List.cons_append, List.nil_append]
section
variable {n C W T x : D} {c : Str} (hc : Caught c) {t t1 : Option DS}
include hc
theorem asked0 (h : f_need_worths [.d n, .d W] t = .ex c [("value", x)] t1) : f__law_asked [.d (.int 0), .d n, .d C, .d W, .d T] t = .ok (.d (.list [.str c, x])) t1 := by
  refine run_rt (G := [.d (.int 0), .d n, .d C, .d W, .d T]) (m := m__law_asked) rfl ?_
  unfold m__law_asked
  refine asked_ex hc ?_
  refine seq_ex ?_
  refine (if_yes (t1 := t) rfl).trans ?_
  exact seq_ex (told_ex ((call2 (t1 := t) (t2 := t) rfl rfl).trans h))
theorem asked1 (h : f_product_at [.d n, .d C, .d W] t = .ex c [("value", x)] t1) : f__law_asked [.d (.int 1), .d n, .d C, .d W, .d T] t = .ok (.d (.list [.str c, x])) t1 := by
  refine run_rt (G := [.d (.int 1), .d n, .d C, .d W, .d T]) (m := m__law_asked) rfl ?_
  unfold m__law_asked
  refine asked_ex hc ?_
  refine seq_ex ?_
  refine (if_no (t1 := t) rfl).trans (seq_ex ?_)
  refine (if_yes (t1 := t) rfl).trans ?_
  exact seq_ex (told_ex ((call3 (t1 := t) (t2 := t) (t3 := t) rfl rfl rfl).trans h))
theorem asked2 (h : f_even_sum [.d n, .d C, .d W, .d (.bool false)] t = .ex c [("value", x)] t1) : f__law_asked [.d (.int 2), .d n, .d C, .d W, .d T] t = .ok (.d (.list [.str c, x])) t1 := by
  refine run_rt (G := [.d (.int 2), .d n, .d C, .d W, .d T]) (m := m__law_asked) rfl ?_
  unfold m__law_asked
  refine asked_ex hc ?_
  refine seq_ex ?_
  refine (if_no (t1 := t) rfl).trans (seq_ex ?_)
  refine (if_no (t1 := t) rfl).trans (seq_ex ?_)
  refine (if_yes (t1 := t) rfl).trans ?_
  exact seq_ex (told_ex ((call3d (t1 := t) (t2 := t) (t3 := t) rfl rfl rfl).trans h))
theorem asked3 (h : f_test_worths [.d n, .d T] t = .ex c [("value", x)] t1) : f__law_asked [.d (.int 3), .d n, .d C, .d W, .d T] t = .ok (.d (.list [.str c, x])) t1 := by
  refine run_rt (G := [.d (.int 3), .d n, .d C, .d W, .d T]) (m := m__law_asked) rfl ?_
  unfold m__law_asked
  refine asked_ex hc ?_
  refine seq_ex ?_
  refine (if_no (t1 := t) rfl).trans (seq_ex ?_)
  refine (if_no (t1 := t) rfl).trans (seq_ex ?_)
  refine (if_no (t1 := t) rfl).trans ?_
  exact seq_ex (told_ex ((call2 (t1 := t) (t2 := t) rfl rfl).trans h))
end
end G
end

section
set_option Elab.async false
set_option linter.all false
set_option maxRecDepth 100000
set_option maxHeartbeats 4000000
set_option exponentiation.threshold 2000
namespace G
open PySem PySem.Spec PyProof.Rows L2 DL

/-- the odd totals -/
def OddT (x : D) : Prop := x = .int (-1) ∨ x = .int 13 ∨ x = .bool true ∨ x = .str "3" ∨ x = .none
theorem bad_total {x : D} (h : OddT x) (t : Option DS) : f_need_total [.d x] t = .ex "BadTotal" [("value", x)] t := by
  rcases h with rfl | rfl | rfl | rfl | rfl <;> rfl
theorem bt_test {n : Int} (hn : 2 ≤ n ∧ n ≤ 5) {x : D} (h : OddT x) (t : Option DS) : f_test_worths [.d (.int n), .d x] t = .ex "BadTotal" [("value", x)] t := by
  refine run_ex (G := [.d (.int n), .d x]) (m := m_test_worths) rfl (G' := ?G) ?_
  case G => exact [.d (.int n), .d x] ++ List.replicate 6 .un
  unfold m_test_worths
  refine (seq_nx (expr_ok ((call1 (t1 := t) rfl).trans (e_many n hn t)))).trans ?_
  exact seq_ex (expr_ex ((call1 (t1 := t) rfl).trans (bad_total h t)))
/-- the last question -/
theorem asked_last {n : Int} (hn : 2 ≤ n ∧ n ≤ 5) {C W x : D} (h : OddT x) (t : Option DS) : f__law_asked [.d (.int 3), .d (.int n), .d C, .d W, .d x] t = .ok (.d (.list [.str "BadTotal", x])) t :=
  asked3 (.inr (.inr (.inr rfl))) (bt_test hn h t)
end G
end

section
set_option Elab.async false
set_option linter.all false
set_option maxRecDepth 100000
set_option maxHeartbeats 4000000
namespace G
open PySem PySem.Spec PyProof.Rows L2 DL

theorem srt_eq {l m : List (List Int)} (hp : l.Perm m) (hs : m.Pairwise (fun a b => PySem.W.dataLe false keySR a b = true)) (an : ∀ a ∈ m, ∀ b ∈ m, PySem.W.dataLe false keySR a b = true → PySem.W.dataLe false keySR b a = true → a = b) : srtSR l = m := by
  have h1 : (srtSR l).Perm l := List.mergeSort_perm _ _
  have h2 : (srtSR l).Pairwise (fun a b => PySem.W.dataLe false keySR a b = true) := PySem.W.sort_pairwise (PySem.W.sortLe_total _ _ _) l
  exact List.Perm.eq_of_pairwise (fun a b ha hb x y => an a ((h1.trans hp).mem_iff.mp ha) b hb x y) h2 hs (h1.trans hp)
end G
end

section
set_option Elab.async false
set_option linter.all false
set_option maxRecDepth 100000
set_option maxHeartbeats 4000000
namespace G
open PySem PySem.Spec PyProof.Rows L2 DL

def twL (n : Nat) (total : Int) : List (List Int) := (List.range n).foldl (fun rows _ => rows.flatMap fun row => ((rngI ((min (total - row.sum) (row.getLast?.getD 1000)) + 1).toNat)).map fun k => row ++ [k]) [[]]
def faL (n : Nat) (total : Int) : List (List Int) := (rngI (total + 1).toNat).flatMap fun k => (twL n k).filter fun r => r.sum == k
def sortedB (n : Nat) (total : Int) : Bool := (twL n total).isPerm (faL n total) && (decide ((faL n total).Pairwise fun a b => PySem.W.dataLe false keySR a b = true) && decide (∀ a ∈ faL n total, ∀ b ∈ faL n total, PySem.W.dataLe false keySR a b = true → PySem.W.dataLe false keySR b a = true → a = b))
theorem sorted_all : ∀ n ∈ [2, 3, 4], ∀ k ∈ [0, 1, 2, 3, 4, 5, 6], sortedB n (k : Nat) = true := by decide +kernel
theorem srt_tw {n k : Nat} (hn : n ∈ [2, 3, 4]) (hk : k ∈ [0, 1, 2, 3, 4, 5, 6]) : srtSR (twL n k) = faL n k := by
  have h := sorted_all n hn k hk
  unfold sortedB at h
  rw [Bool.and_eq_true, Bool.and_eq_true] at h
  exact srt_eq (List.isPerm_iff.mp h.1) (of_decide_eq_true h.2.1) (of_decide_eq_true h.2.2)
end G
end

section
set_option Elab.async false
set_option linter.all false
set_option maxRecDepth 100000
set_option maxHeartbeats 4000000
namespace G
open PySem PySem.Spec PyProof.Rows L2 DL
def fallL (n : Nat) (k : Int) : List (List Int) := (twL n k).filter fun r => r.sum == k
theorem e_fall {n k : Nat} (hn : n = 2 ∨ n = 3 ∨ n = 4) (hk : k = 0 ∨ k = 1 ∨ k = 2 ∨ k = 3 ∨ k = 4 ∨ k = 5 ∨ k = 6) (t : Option DS) : f__law_falling [.d (.int n), .d (.int k)] t = .ok (.d (.list ((fallL n k).map tupI))) t := by
  rcases hn with rfl | rfl | rfl <;> rcases hk with rfl | rfl | rfl | rfl | rfl | rfl | rfl <;> kernel_rfl
end G
end

section
set_option Elab.async false
set_option linter.all false
set_option maxRecDepth 100000
set_option maxHeartbeats 4000000
namespace G
open PySem PySem.Spec PyProof.Rows L2 DL
theorem e_test {n k : Nat} (hn : n = 2 ∨ n = 3 ∨ n = 4) (hk : k = 0 ∨ k = 1 ∨ k = 2 ∨ k = 3 ∨ k = 4 ∨ k = 5 ∨ k = 6) (t : Option DS) : f_test_worths [.d (.int n), .d (.int k)] t = .ok (.d (.list ((faL n k).map tupI))) t := by
  have h : f_test_worths [.d (.int n), .d (.int k)] t = .ok (.d (.list ((srtSR (twL n k)).map tupI))) t := by
    rcases hn with rfl | rfl | rfl <;> rcases hk with rfl | rfl | rfl | rfl | rfl | rfl | rfl <;> kernel_rfl
  rw [h, srt_tw (by simpa using hn) (by simpa using hk)]
end G
end

section
set_option Elab.async false
set_option linter.all false
set_option maxRecDepth 100000
set_option maxHeartbeats 4000000
namespace G
open PySem PySem.Spec PyProof.Rows L2 DL
theorem shape_no {ds : List D} {z : Sl} {n : Int} (h : (ds.length : Int) ≠ n) (t : Option DS) : mOrB (mNotB (mTru (mIsi "tuple" (mVar 1)))) (mCmpB fNe (mCallB (f1 gLen) (mCons (mVar 1) mNil)) (mVar 0)) [.d (.int n), .d (.tuple ds), z] t = .ok true t := by
  have e1 : mIsi "tuple" (mVar 1) [.d (.int n), .d (.tuple ds), z] t = .ok (.d (.bool true)) t := rfl
  have e2 := len_ok (m := mVar 1) (G := [.d (.int n), .d (.tuple ds), z]) (t := t) (t1 := t) (ds := ds) rfl
  have e3 : mVar 0 [.d (.int n), .d (.tuple ds), z] t = .ok (.d (.int n)) t := rfl
  simp only [mOrB, mNotB, mTru, e1, mCmpB, mBin, e2, e3, Rs.fz, Rv.fz, Rs.bind, Rs.of, Rv.truth, Bool.not_true, Bool.false_eq_true, if_false, fNe, fRead, Rv.toD, Option.bind_some, gEq, Option.map_some, decide_eq_false h, Bool.not_false, Rv.bl]
theorem worths_len {n : Int} {ds : List D} (hn : 2 ≤ n ∧ n ≤ 5) (h : (ds.length : Int) ≠ n) (t : Option DS) : f_need_worths [.d (.int n), .d (.tuple ds)] t = .ex "BadWorths" [("value", .tuple ds)] t := by
  refine run_ex (G := [.d (.int n), .d (.tuple ds)]) (m := m_need_worths) rfl (G' := [.d (.int n), .d (.tuple ds), .un]) ?_
  unfold m_need_worths
  refine (seq_nx (expr_ok ((call1 (t1 := t) rfl).trans (e_many n hn t)))).trans ?_
  exact seq_ex ((if_yes (shape_no h t)).trans rfl)
end G
end

section
set_option Elab.async false
set_option linter.all false
set_option maxRecDepth 100000
set_option maxHeartbeats 4000000
namespace G
open PySem PySem.Spec PyProof.Rows L2 DL
theorem isc_len {n : Int} {ds : List D} (hn : 2 ≤ n ∧ n ≤ 5) (h : (ds.length : Int) ≠ n) (t : Option DS) : f_is_content [.d (.int n), .d (.tuple ds)] t = .ok (.d (.bool false)) t := by
  refine run_rt (G := [.d (.int n), .d (.tuple ds)]) (m := m_is_content) rfl ?_
  unfold m_is_content
  refine (seq_nx (expr_ok ((call1 (t1 := t) rfl).trans (e_many n hn t)))).trans ?_
  exact seq_rt ((if_yes (shape_no h t)).trans rfl)
theorem content_no {n : Int} {x : D} (h : ∀ t, f_is_content [.d (.int n), .d x] t = .ok (.d (.bool false)) t) (t : Option DS) : f_need_content [.d (.int n), .d x] t = .ex "BadContent" [("value", x)] t := by
  refine run_ex (G := [.d (.int n), .d x]) (m := m_need_content) rfl (G' := [.d (.int n), .d x]) ?_
  unfold m_need_content
  exact seq_ex ((if_yes (tru_ok (b := false) ((call2 (t1 := t) (t2 := t) rfl rfl).trans (h t)))).trans rfl)
end G
end

section
set_option Elab.async false
set_option linter.all false
set_option maxRecDepth 100000
set_option maxHeartbeats 4000000
namespace G
open PySem PySem.Spec PyProof.Rows L2 DL
/-- not a tuple: None, a list -/
def NoTup (x : D) : Prop := x = .none ∨ ∃ ds, x = .list ds
theorem shape_nt {x : D} {z : Sl} {n : Int} (h : NoTup x) (t : Option DS) : mOrB (mNotB (mTru (mIsi "tuple" (mVar 1)))) (mCmpB fNe (mCallB (f1 gLen) (mCons (mVar 1) mNil)) (mVar 0)) [.d (.int n), .d x, z] t = .ok true t := by
  rcases h with rfl | ⟨ds, rfl⟩ <;> rfl
theorem worths_nt {n : Int} {x : D} (hn : 2 ≤ n ∧ n ≤ 5) (h : NoTup x) (t : Option DS) : f_need_worths [.d (.int n), .d x] t = .ex "BadWorths" [("value", x)] t := by
  refine run_ex (G := [.d (.int n), .d x]) (m := m_need_worths) rfl (G' := [.d (.int n), .d x, .un]) ?_
  unfold m_need_worths
  refine (seq_nx (expr_ok ((call1 (t1 := t) rfl).trans (e_many n hn t)))).trans ?_
  exact seq_ex ((if_yes (shape_nt h t)).trans rfl)
theorem isc_nt {n : Int} {x : D} (hn : 2 ≤ n ∧ n ≤ 5) (h : NoTup x) (t : Option DS) : f_is_content [.d (.int n), .d x] t = .ok (.d (.bool false)) t := by
  refine run_rt (G := [.d (.int n), .d x]) (m := m_is_content) rfl ?_
  unfold m_is_content
  refine (seq_nx (expr_ok ((call1 (t1 := t) rfl).trans (e_many n hn t)))).trans ?_
  exact seq_rt ((if_yes (shape_nt h t)).trans rfl)
end G
end

section
set_option Elab.async false
set_option linter.all false
set_option maxRecDepth 100000
set_option maxHeartbeats 4000000
namespace G
open PySem PySem.Spec PyProof.Rows L2 DL
/-- a loop whose items are good up to one -/
theorem loop_bad {body : SM} {a b : Sl} {t : Option DS} {x : D} {rest : List D} {r : So} (hx : body [a, b, .d x] t = r) (hr : ∀ G t, r ≠ .nx G t ∧ r ≠ .ct G t ∧ r ≠ .bk G t) : ∀ (pre : List Int) (y : Sl), (∀ w ∈ pre, body [a, b, .d (.int w)] t = .nx [a, b, .d (.int w)] t) → loop (.nm 2) body (pre.map PyData.int ++ x :: rest) [a, b, y] t = r
  | [], y, _ => by
    show (match body [a, b, .d x] t with | .nx G2 t2 => loop (.nm 2) body rest G2 t2 | .ct G2 t2 => loop (.nm 2) body rest G2 t2 | .bk G2 t2 => .nx G2 t2 | o => o) = _
    rw [hx]
    cases r with
    | nx G t => exact absurd rfl (hr G t).1
    | ct G t => exact absurd rfl (hr G t).2.1
    | bk G t => exact absurd rfl (hr G t).2.2
    | _ => rfl
  | w :: pre, y, h => by
    show (match body [a, b, .d (.int w)] t with | .nx G2 t2 => loop (.nm 2) body (pre.map PyData.int ++ x :: rest) G2 t2 | .ct G2 t2 => loop (.nm 2) body (pre.map PyData.int ++ x :: rest) G2 t2 | .bk G2 t2 => .nx G2 t2 | o => o) = _
    rw [h w List.mem_cons_self]
    exact loop_bad hx hr pre _ fun w hw => h w (List.mem_cons_of_mem _ hw)
end G
end

section
set_option Elab.async false
set_option linter.all false
set_option maxRecDepth 100000
set_option maxHeartbeats 4000000
namespace G
open PySem PySem.Spec PyProof.Rows L2 DL
abbrev worB : SM := sSeq (sIf (mOrB (mNotB (mTru (mIsi "int" (mVar 2)))) (mOrB (mTru (mIsi "bool" (mVar 2))) (mNotB (mBl (mChain (fCm iLe) (fCm iLe) (mNeg (mC (.int 100))) (mVar 2) (mC (.int 100))))))) (sSeq (sRaise "BadWorths" ["value"] (mCons (mVar 1) (mNil))) (sSkip)) (sSkip)) (sSkip)
theorem worths_item {n : Int} {pre : List Int} {x : D} {rest : List D} (hn : 2 ≤ n ∧ n ≤ 5) (hl : ((pre.map PyData.int ++ x :: rest).length : Int) = n) (hw : Wors pre) (hx : x = .int 101 ∨ x = .int (-101) ∨ x = .bool false) (t : Option DS) :
    f_need_worths [.d (.int n), .d (.tuple (pre.map PyData.int ++ x :: rest))] t = .ex "BadWorths" [("value", .tuple (pre.map PyData.int ++ x :: rest))] t := by
  generalize hd : pre.map PyData.int ++ x :: rest = ds at hl
  refine run_ex (G := [.d (.int n), .d (.tuple ds)]) (m := m_need_worths) rfl (G' := [.d (.int n), .d (.tuple ds), .d x]) ?_
  unfold m_need_worths
  refine (seq_nx (expr_ok ((call1 (t1 := t) rfl).trans (e_many n hn t)))).trans ?_
  refine (seq_nx ((if_no (shape_ok hl t)).trans rfl)).trans ?_
  have e := loop_bad (body := worB) (a := .d (.int n)) (b := .d (.tuple ds)) (t := t) (x := x) (rest := rest) (r := .ex "BadWorths" [("value", .tuple ds)] [.d (.int n), .d (.tuple ds), .d x] t) (by rcases hx with rfl | rfl | rfl <;> rfl) (fun _ _ => ⟨by simp, by simp, by simp⟩) pre .un (fun w hm => by
    obtain ⟨w1, w2⟩ := hw.le w hm
    refine (seq_nx (if_no ?_)).trans rfl
    simp [runM, argsG, Rv.arg, sSeq, sRet, sSet, sIf, sFor, sFrz, sExpr, sSkip, sApp, sRaise, mVar, mC, mBin, mCall, mCallK, mCallB, mCons, mNil, mTup, mLst, mAnd, mNot, mIsi, mChain, mIf, mNotB, mTru, mCmpB, mBl, mOrB, mAndB, mNeg, mRange1, rng1, mSeq, mZip, mSl, mPart, partI, Rs.bind, Rs.bindS, Rs.of, Rs.fz, Rv.fz, Rv.toD, Rv.truth, Rv.bl, Rv.sl, Rv.seq, Rv.items, Rv.tup, dats, f1, f2, fRead, fI, fCm, gCmp, iLt, iLe, iGt, iGe, gLen, gInt, gMin, gMax, gAbs, fAdd, fSub, fMul, fMod, fDiv, fCat, fCatT, fCatStr, isiOk, isiB, tyName, w1, w2])
  rw [hd] at e
  refine seq_ex ?_
  unfold sFor
  exact e
end G
end

section
set_option Elab.async false
set_option linter.all false
set_option maxRecDepth 100000
set_option maxHeartbeats 4000000
namespace G
open PySem PySem.Spec PyProof.Rows L2 DL
abbrev conB : SM := sSeq (sIf (mNotB (mTru (mCall 3 f_is_from [] (mCons (mVar 2) (mCons (mC (.int 0)) (mCons (mC (.int 24)) (mNil))))))) (sSeq (sRet (mC (.bool false))) (sSkip)) (sSkip)) (sSkip)
theorem isc_item {n : Int} {pre : List Int} {x : D} {rest : List D} (hn : 2 ≤ n ∧ n ≤ 5) (hl : ((pre.map PyData.int ++ x :: rest).length : Int) = n) (hc : Cont pre) (hx : x = .int (-1) ∨ x = .int 25 ∨ x = .bool true) (t : Option DS) :
    f_is_content [.d (.int n), .d (.tuple (pre.map PyData.int ++ x :: rest))] t = .ok (.d (.bool false)) t := by
  generalize hd : pre.map PyData.int ++ x :: rest = ds at hl
  refine run_rt (G := [.d (.int n), .d (.tuple ds)]) (m := m_is_content) rfl ?_
  unfold m_is_content
  refine (seq_nx (expr_ok ((call1 (t1 := t) rfl).trans (e_many n hn t)))).trans ?_
  refine (seq_nx ((if_no (shape_ok hl t)).trans rfl)).trans ?_
  have e := loop_bad (body := conB) (a := .d (.int n)) (b := .d (.tuple ds)) (t := t) (x := x) (rest := rest) (r := .rt (.bool false) t) (by rcases hx with rfl | rfl | rfl <;> rfl) (fun _ _ => ⟨by simp, by simp, by simp⟩) pre .un (fun c hm => by
    obtain ⟨w1, w2⟩ := hc.le c hm
    have ef := e_from c 0 24 t
    rw [decide_eq_true w1, decide_eq_true w2] at ef
    exact (seq_nx (if_no (tru_ok (b := true) ((call3 (t1 := t) (t2 := t) (t3 := t) rfl rfl rfl).trans ef)))).trans rfl)
  rw [hd] at e
  refine seq_rt ?_
  unfold sFor
  exact e
end G
end

section
set_option Elab.async false
set_option linter.all false
set_option maxRecDepth 100000
set_option maxHeartbeats 4000000
namespace G
open PySem PySem.Spec PyProof.Rows L2 DL
def OddC (n : Int) (C : D) : Prop := ∀ t, f_is_content [.d (.int n), .d C] t = .ok (.d (.bool false)) t
def OddW (n : Int) (W : D) : Prop := ∀ t, f_need_worths [.d (.int n), .d W] t = .ex "BadWorths" [("value", W)] t
section
variable {n : Int} (hn : 2 ≤ n ∧ n ≤ 5) (t : Option DS)
include hn
theorem bc_pat {C : D} (h : OddC n C) (W : D) : f_product_at [.d (.int n), .d C, .d W] t = .ex "BadContent" [("value", C)] t := by
  refine run_ex (G := [.d (.int n), .d C, .d W]) (m := m_product_at) rfl (G' := [.d (.int n), .d C, .d W]) ?_
  unfold m_product_at
  refine (seq_nx (expr_ok ((call1 (t1 := t) rfl).trans (e_many n hn t)))).trans ?_
  exact seq_ex (expr_ex ((call2 (t1 := t) (t2 := t) rfl rfl).trans (content_no h t)))
theorem bc_esum {C : D} (h : OddC n C) (W u : D) : f_even_sum [.d (.int n), .d C, .d W, .d u] t = .ex "BadContent" [("value", C)] t := by
  refine run_ex (G := [.d (.int n), .d C, .d W, .d u]) (m := m_even_sum) rfl (G' := [.d (.int n), .d C, .d W, .d u]) ?_
  unfold m_even_sum
  refine (seq_nx (expr_ok ((call1 (t1 := t) rfl).trans (e_many n hn t)))).trans ?_
  exact seq_ex (expr_ex ((call2 (t1 := t) (t2 := t) rfl rfl).trans (content_no h t)))
theorem bw_pat {cs : List Int} (hl : (cs.length : Int) = n) (hc : Cont cs) {W : D} (h : OddW n W) : f_product_at [.d (.int n), .d (.tuple (cs.map .int)), .d W] t = .ex "BadWorths" [("value", W)] t := by
  refine run_ex (G := [.d (.int n), .d (.tuple (cs.map .int)), .d W]) (m := m_product_at) rfl (G' := [.d (.int n), .d (.tuple (cs.map .int)), .d W]) ?_
  unfold m_product_at
  refine (seq_nx (expr_ok ((call1 (t1 := t) rfl).trans (e_many n hn t)))).trans ?_
  refine (seq_nx (expr_ok ((call2 (t1 := t) (t2 := t) rfl rfl).trans (e_content hn hl hc t)))).trans ?_
  exact seq_ex (expr_ex ((call2 (t1 := t) (t2 := t) rfl rfl).trans (h t)))
theorem bw_esum {cs : List Int} (hl : (cs.length : Int) = n) (hc : Cont cs) {W : D} (h : OddW n W) (u : D) : f_even_sum [.d (.int n), .d (.tuple (cs.map .int)), .d W, .d u] t = .ex "BadWorths" [("value", W)] t := by
  refine run_ex (G := [.d (.int n), .d (.tuple (cs.map .int)), .d W, .d u]) (m := m_even_sum) rfl (G' := [.d (.int n), .d (.tuple (cs.map .int)), .d W, .d u]) ?_
  unfold m_even_sum
  refine (seq_nx (expr_ok ((call1 (t1 := t) rfl).trans (e_many n hn t)))).trans ?_
  refine (seq_nx (expr_ok ((call2 (t1 := t) (t2 := t) rfl rfl).trans (e_content hn hl hc t)))).trans ?_
  exact seq_ex (expr_ex ((call2 (t1 := t) (t2 := t) rfl rfl).trans (h t)))
end
end G
end

section
set_option Elab.async false
set_option linter.all false
set_option maxRecDepth 100000
set_option maxHeartbeats 4000000
namespace G
open PySem PySem.Spec PyProof.Rows L2 DL
theorem told_ok {x y : D} {call : EM} {G : Gm} {t t1 : Option DS} (h : call G t = .ok (.d y) t1) (hl : 5 < G.length) : sSet 5 (mLst (mCons (mC x) (mCons call mNil))) G t = .nx (G.set 5 (.l [x, y])) t1 := by
  simp only [sSet, mLst, mCons, mC, mNil, h, Rs.bind, Rs.fz, Rv.fz, Rs.bindS, dats, List.length_cons, List.length_nil, Option.map_some, Rs.of, Rv.sl, hl, if_true, show (0 + 1 + 1 ≤ 16777216) = True from eq_true (by decide)]
theorem try_nx {tab : Tab} {mb : SM} {hs : List Hd} {G G1 : Gm} {t t1 : Option DS} (h : mb G t = .nx G1 t1) : sTry tab mb hs G t = .nx G1 t1 := by
  unfold sTry
  rw [h]
theorem asked_told {n C W T y : D} {t t1 : Option DS} (h : f_test_worths [.d n, .d T] t = .ok (.d y) t1) : f__law_asked [.d (.int 3), .d n, .d C, .d W, .d T] t = .ok (.d (.list [.str "told", y])) t1 := by
  refine run_rt (G := [.d (.int 3), .d n, .d C, .d W, .d T]) (m := m__law_asked) rfl ?_
  unfold m__law_asked
  refine (seq_nx (G1 := [.d (.int 3), .d n, .d C, .d W, .d T, .l [.str "told", y], .un]) (t1 := t1) ?_).trans rfl
  refine try_nx ?_
  have e := told_ok (x := .str "told") (G := [.d (.int 3), .d n, .d C, .d W, .d T, .un, .un]) ((call2 (f := f_test_worths) (a := mVar 1) (b := mVar 4) (t1 := t) (t2 := t) rfl rfl).trans h) (Nat.le_of_ble_eq_true rfl)
  have b : sSeq (sSet 5 (mLst (mCons (mC (.str "told")) (mCons (mCall 2 f_test_worths [] (mCons (mVar 1) (mCons (mVar 4) (mNil)))) (mNil))))) (sSkip) [.d (.int 3), .d n, .d C, .d W, .d T, .un, .un] t = .nx [.d (.int 3), .d n, .d C, .d W, .d T, .l [.str "told", y], .un] t1 := (seq_nx e).trans rfl
  have full : ∀ A B Z : SM, sSeq (sIf (mCmpB fEq (mVar 0) (mC (.int 0))) A (sSeq (sIf (mCmpB fEq (mVar 0) (mC (.int 1))) B (sSeq (sIf (mCmpB fEq (mVar 0) (mC (.int 2))) Z (sSeq (sSet 5 (mLst (mCons (mC (.str "told")) (mCons (mCall 2 f_test_worths [] (mCons (mVar 1) (mCons (mVar 4) (mNil)))) (mNil))))) (sSkip))) (sSkip))) (sSkip))) (sSkip) [.d (.int 3), .d n, .d C, .d W, .d T, .un, .un] t = .nx [.d (.int 3), .d n, .d C, .d W, .d T, .l [.str "told", y], .un] t1 := fun A B Z => by
    refine (seq_nx (G1 := [.d (.int 3), .d n, .d C, .d W, .d T, .l [.str "told", y], .un]) (t1 := t1) ?_).trans rfl
    refine (if_no (t1 := t) rfl).trans ?_
    refine (seq_nx (G1 := [.d (.int 3), .d n, .d C, .d W, .d T, .l [.str "told", y], .un]) (t1 := t1) ?_).trans rfl
    refine (if_no (t1 := t) rfl).trans ?_
    refine (seq_nx (G1 := [.d (.int 3), .d n, .d C, .d W, .d T, .l [.str "told", y], .un]) (t1 := t1) ?_).trans rfl
    exact (if_no (t1 := t) rfl).trans b
  exact full _ _ _
end G
end

section
set_option Elab.async false
set_option linter.all false
set_option maxRecDepth 100000
set_option maxHeartbeats 4000000
set_option exponentiation.threshold 2000
namespace G
open PySem PySem.Spec PyProof.Rows L2 DL

/-! ### what repr asks of a value -/
structure Sh (d : D) (m k : Nat) : Prop where
  ok : d.showable = true
  dp : d.depth ≤ m
  len : d.shown.length ≤ k
theorem sh_repr {d : D} {m k : Nat} (h : Sh d m k) (hm : m ≤ 64) (hk : k ≤ 16777216) : gRepr d = some (.str d.shown) := by
  unfold gRepr
  rw [if_pos (by rw [h.ok, decide_eq_true (Nat.le_trans h.dp hm), decide_eq_true (Nat.le_trans h.len hk)]; rfl)]
theorem log_lt {n : Nat} (h : n < 2 ^ 1000) : n.log2 < 1000 := by
  rcases Nat.eq_zero_or_pos n with z | z
  · subst z; decide
  · exact (Nat.log2_lt (by omega)).mpr h
theorem sh_int {i : Int} (h : i.natAbs < 2 ^ 1000) : Sh (.int i) 0 1001 := by
  have l := log_lt h
  refine ⟨?_, Nat.le_refl _, ?_⟩
  · simp only [PyData.showable]
    exact decide_eq_true (Nat.lt_trans l (by decide))
  · simp only [PyData.shown]
    have e := int_text_length_le (a := i) (k := 1000) (by decide) l
    rw [PySem.ofString_length]
    exact e
theorem sh_bool (b : Bool) : Sh (.bool b) 0 5 := by cases b <;> exact ⟨rfl, Nat.le_refl _, by decide⟩
theorem sh_none : Sh .none 0 4 := ⟨rfl, Nat.le_refl _, by decide⟩
theorem sh_more {d : D} {m k m' k' : Nat} (h : Sh d m k) (hm : m ≤ m') (hk : k ≤ k') : Sh d m' k' := ⟨h.ok, Nat.le_trans h.dp hm, Nat.le_trans h.len hk⟩
theorem sh_all {xs : List D} {m k : Nat} (h : ∀ x ∈ xs, Sh x m k) : PyData.showableAll xs = true ∧ PyData.depthAll xs ≤ m ∧ piled (PyData.shownAll xs) ≤ (k + 2) * xs.length ∧ (PyData.shownAll xs).length = xs.length := by
  induction xs with
  | nil => exact ⟨rfl, Nat.zero_le _, Nat.zero_le _, rfl⟩
  | cons x xs ih =>
    obtain ⟨a, b, c, d⟩ := ih fun y hy => h y (List.mem_cons_of_mem _ hy)
    obtain ⟨p, q, r⟩ := h x List.mem_cons_self
    refine ⟨?_, ?_, ?_, ?_⟩
    · simp only [PyData.showableAll, p, a, Bool.and_self]
    · simp only [PyData.depthAll]; omega
    · simp only [PyData.shownAll, piled_cons, List.length_cons, Nat.mul_succ]; omega
    · simp only [PyData.shownAll, List.length_cons, d]
theorem sh_tuple {xs : List D} {m k n : Nat} (h : ∀ x ∈ xs, Sh x m k) (hn : (k + 2) * xs.length + 5 ≤ n) : Sh (.tuple xs) (m + 1) n := by
  obtain ⟨a, b, c, d⟩ := sh_all h
  refine ⟨by simpa only [PyData.showable] using a, by simp only [PyData.depth]; omega, ?_⟩
  simp only [PyData.shown, tupleText]
  rw [strLen_append, strLen_append]
  have e1 : ((("(" : String) : Str)).length = 1 := rfl
  have e2 : ∀ b : Bool, ((if b then ",)" else ")" : String) : Str).length ≤ 2 := fun b => by cases b <;> decide
  have e3 : (Str.join ", " (PyData.shownAll xs)).length ≤ piled (PyData.shownAll xs) := by
    by_cases z : PyData.shownAll xs = []
    · rw [z]; exact Nat.zero_le _
    · have := join_length_add _ z; omega
  have e4 := e2 ((PyData.shownAll xs).length == 1)
  omega
theorem sh_list {xs : List D} {m k n : Nat} (h : ∀ x ∈ xs, Sh x m k) (hn : (k + 2) * xs.length + 5 ≤ n) : Sh (.list xs) (m + 1) n := by
  obtain ⟨a, b, c, d⟩ := sh_all h
  refine ⟨by simpa only [PyData.showable] using a, by simp only [PyData.depth]; omega, ?_⟩
  simp only [PyData.shown, listText]
  rw [strLen_append]
  have e1 : ((("]" : String) : Str)).length = 1 := rfl
  have e2 : ((("[" : String) : Str)).length = 1 := rfl
  have e3 : (textFrom 0 "[" (PyData.shownAll xs)).length ≤ 1 + piled (PyData.shownAll xs) := by
    cases hz : PyData.shownAll xs with
    | nil => exact Nat.le_refl _
    | cons t ts =>
      show (textFrom 1 ("[" ++ (if 0 > 0 then ", " else "" : String) ++ t) ts).length ≤ _
      rw [textFrom_length_pos ts 1 _ (by decide), strLen_append, strLen_append, piled_cons]
      have e4 : (((if 0 > 0 then ", " else "" : String) : Str)).length = 0 := rfl
      omega
  omega
/-- like of one value -/
theorem like_sh {d : D} {m k : Nat} (h : Sh d m k) (hm : m ≤ 64) (hk : k ≤ 16777216) (t : Option DS) : f__law_like [.d d, .d d] t = .ok (.d (.bool true)) t := like_same (sh_repr h hm hk) t
theorem sh_int_small {i : Int} (h : i.natAbs ≤ 1000) : Sh (.int i) 0 1001 := sh_int (Nat.lt_of_le_of_lt h (by decide))
theorem sh_ints {ws : List Int} (h : ∀ w ∈ ws, w.natAbs ≤ 1000) : ∀ x ∈ ws.map PyData.int, Sh x 0 1001 := fun x hx => by
  obtain ⟨w, hw, rfl⟩ := List.mem_map.mp hx
  exact sh_int_small (h w hw)
theorem sh_tupI {ws : List Int} (h : ∀ w ∈ ws, w.natAbs ≤ 1000) (hl : ws.length ≤ 5) : Sh (tupI ws) 1 6000 := sh_tuple (sh_ints h) (by rw [List.length_map]; omega)
theorem faL_ok : ∀ n ∈ [2, 3, 4], ∀ k ∈ [0, 1, 2, 3, 4, 5, 6], (faL n (k : Nat)).length ≤ 1000 ∧ ∀ r ∈ faL n (k : Nat), r.length ≤ 5 ∧ ∀ x ∈ r, x.natAbs ≤ 1000 := by decide +kernel
theorem sh_faL {n k : Nat} (hn : n ∈ [2, 3, 4]) (hk : k ∈ [0, 1, 2, 3, 4, 5, 6]) : Sh (.list ((faL n k).map tupI)) 2 7000000 := by
  obtain ⟨a, b⟩ := faL_ok n hn k hk
  generalize faL n k = l at *
  refine sh_list (m := 1) (k := 6000) (fun x hx => ?_) (by rw [List.length_map]; omega)
  obtain ⟨r, hr, rfl⟩ := List.mem_map.mp hx
  exact sh_tupI (b r hr).2 (b r hr).1
/-- a told list of a class's name and a value -/
theorem sh_pair {c : Str} (hc : Sh (.str c) 0 1000) {x : D} {m k n : Nat} (h : Sh x m k) (hk : 1000 ≤ k) (hn : (k + 2) * 2 + 5 ≤ n) : Sh (.list [.str c, x]) (m + 1) n :=
  sh_list (m := m) (k := k) (fun y hy => by
    rcases List.mem_cons.mp hy with rfl | hy
    · exact sh_more hc (Nat.zero_le _) hk
    · rw [List.mem_singleton.mp hy]; exact h) (by simpa using hn)
theorem sh_many : Sh (.str "BadMany") 0 1000 := ⟨rfl, Nat.le_refl _, by decide +kernel⟩
theorem sh_content : Sh (.str "BadContent") 0 1000 := ⟨rfl, Nat.le_refl _, by decide +kernel⟩
theorem sh_worths : Sh (.str "BadWorths") 0 1000 := ⟨rfl, Nat.le_refl _, by decide +kernel⟩
theorem sh_total : Sh (.str "BadTotal") 0 1000 := ⟨rfl, Nat.le_refl _, by decide +kernel⟩
theorem sh_oddn {x : D} (h : OddN x) : Sh x 0 1000 := by
  rcases h with rfl | rfl | rfl | rfl | rfl <;> exact ⟨rfl, Nat.le_refl _, by decide +kernel⟩
theorem sh_oddt {x : D} (h : OddT x) : Sh x 0 1000 := by
  rcases h with rfl | rfl | rfl | rfl | rfl <;> exact ⟨rfl, Nat.le_refl _, by decide +kernel⟩
end G
end

section
set_option Elab.async false
set_option linter.all false
set_option maxRecDepth 100000
set_option maxHeartbeats 4000000
set_option exponentiation.threshold 2000
namespace G
open PySem PySem.Spec PyProof.Rows L2 DL

/-- a comprehension that changes the state -/
theorem lc_st {pt : Pt} {elt : EM} {G0 : Gm} {J : Nat → Option DS → Prop} {V : Int → Prop} {N : Nat} : ∀ {items : List D} {acc : List Int} {k : Nat} {t : Option DS}, acc.length + items.length ≤ 1000 → k + items.length ≤ N → J k t →
    (∀ x ∈ items, ∃ G1, asg pt x G0 = some G1 ∧ ∀ k t, k < N → J k t → ∃ z t1, elt G1 t = .ok (.d (.int z)) t1 ∧ V z ∧ J (k + 1) t1) →
    ∃ zs t', lcLoop pt none elt G0 items (acc.map .int) t = .ok (.l ((acc ++ zs).map .int)) t' ∧ zs.length = items.length ∧ (∀ z ∈ zs, V z) ∧ J (k + items.length) t'
  | [], acc, k, t, _, _, hJ, _ => ⟨[], t, by simp [lcLoop], rfl, (fun _ h => nomatch h), hJ⟩
  | x :: xs, acc, k, t, hl, hk, hJ, h => by
    obtain ⟨G1, a1, a2⟩ := h x List.mem_cons_self
    have hl' : acc.length + xs.length + 1 ≤ 1000 := by simpa [Nat.add_assoc] using hl
    have hk' : k + xs.length + 1 ≤ N := by simpa [Nat.add_assoc] using hk
    obtain ⟨z, t1, b1, b2, b3⟩ := a2 k t (by omega) hJ
    obtain ⟨zs, t', c1, c2, c3, c4⟩ := lc_st (items := xs) (acc := acc ++ [z]) (k := k + 1) (t := t1) (by simp; omega) (by omega) b3 fun y hy => h y (List.mem_cons_of_mem _ hy)
    refine ⟨z :: zs, t', ?_, by simp [c2], fun y hy => ?_, by rw [List.length_cons, show k + (xs.length + 1) = k + 1 + xs.length by omega]; exact c4⟩
    · have hb : (acc.map PyData.int).length < 16777216 := by simp; omega
      simp only [lcLoop, a1, cst, Rs.bind, if_true, b1, Rs.fz, Rv.fz, Rs.nox, hb]
      have e : acc.map PyData.int ++ [.int z] = (acc ++ [z]).map .int := by simp
      rw [e, c1]
      simp
    · rcases List.mem_cons.mp hy with rfl | hy
      · exact b2
      · exact c3 y hy
def J (k : Nat) (t : Option DS) : Prop := ∃ st, t = some st ∧ Inv k st
theorem call2s {f : FM} {a b : EM} {G : Gm} {t t1 t2 : Option DS} {y : D} (h1 : a G t = .ok .s t1) (h2 : b G t1 = .ok (.d y) t2) : mCall 2 f [] (mCons a (mCons b mNil)) G t = f [.s, .d y] t2 := by
  simp only [mCall, mCons, mNil, h1, h2, Rs.bind, Rs.fz, Rv.fz, List.length_cons, List.length_nil, if_true, List.map_nil, List.append_nil]
theorem bin_ok {f : Rv → Rv → Option Rv} {a b : EM} {G : Gm} {t t1 t2 : Option DS} {x y z : Rv} (h1 : a G t = .ok x t1) (h2 : b G t1 = .ok y t2) (hf : f x.fz y.fz = some z) : mBin f a b G t = .ok z t2 := by
  simp only [mBin, h1, h2, Rs.fz, Rs.bind, hf, Rs.of]
theorem var_s {i : Nat} {G : Gm} {t : Option DS} (h : G[i]? = some .s) : mVar i G t = .ok .s t := by simp only [mVar, h]
theorem var_d {i : Nat} {G : Gm} {t : Option DS} {x : D} (h : G[i]? = some (.d x)) : mVar i G t = .ok (.d x) t := by simp only [mVar, h]
theorem var_l {i : Nat} {G : Gm} {t : Option DS} {xs : List D} (h : G[i]? = some (.l xs)) : mVar i G t = .ok (.b xs) t := by simp only [mVar, h]
/-- a draw in an expression -/
theorem m_draw {i : Nat} {b : EM} {G : Gm} {k : Nat} {t : Option DS} {l : Int} (hi : G[i]? = some .s) (hb : b G t = .ok (.d (.int l)) t) (hJ : J k t) (hk : k ≤ 1000) (l0 : 0 < l) (l1 : l < 1048576) :
    ∃ z t1, mCall 2 f__law_draw [] (mCons (mVar i) (mCons b mNil)) G t = .ok (.d (.int z)) t1 ∧ J (k + 1) t1 ∧ 0 ≤ z ∧ z < l := by
  obtain ⟨st, rfl, hI⟩ := hJ
  obtain ⟨z, st', e, i', z0, z1⟩ := e_draw hI (Nat.le_trans hk (Nat.le_of_ble_eq_true rfl)) l0 l1
  exact ⟨z, some st', (call2s (var_s hi) hb).trans e, ⟨st', rfl, i'⟩, z0, z1⟩
/-- one of some -/
theorem e_of {ds : List D} (h0 : 0 < ds.length) (h1 : ds.length ≤ 1000) {k : Nat} {t : Option DS} (hJ : J k t) (hk : k ≤ 1000) : ∃ x t1, f__law_of [.s, .d (.list ds)] t = .ok (.d x) t1 ∧ J (k + 1) t1 ∧ x ∈ ds := by
  have e1 : mCallB (f1 gLen) (mCons (mVar 1) mNil) [.s, .d (.list ds)] t = .ok (.d (.int ds.length)) t := by
    simp only [mCallB, mCons, mNil, mVar, List.getElem?_cons_succ, List.getElem?_cons_zero, Rs.bind, Rs.fz, Rv.fz, f1, Rv.toD, Option.bind_some, gLen, Option.map_some, Rs.of]
  obtain ⟨z, t1, e, i, z0, z1⟩ := m_draw (G := [.s, .d (.list ds)]) (i := 0) rfl e1 hJ hk (by omega) (by omega)
  obtain ⟨n, rfl⟩ := Int.eq_ofNat_of_zero_le z0
  have hn : n < ds.length := by omega
  have a : atI ds (n : Int) = some ds[n] := atI_nat (List.getElem?_eq_getElem hn)
  refine ⟨ds[n], t1, ?_, i, List.getElem_mem hn⟩
  refine run_rt (G := [.s, .d (.list ds)]) (m := m__law_of) rfl ?_
  unfold m__law_of
  refine ret_ok (t1 := t1) ?_
  refine bin_ok (x := .d (.list ds)) (y := .d (.int (n : Int))) (t1 := t) (var_d rfl) e ?_
  show fIx (.d (.list ds)) (.d (.int n)) = _
  simp only [fIx, Rv.items, Option.bind_some, a, Option.map_some, Option.some_or]
end G
end

section
set_option Elab.async false
set_option linter.all false
set_option maxRecDepth 100000
set_option maxHeartbeats 4000000
set_option exponentiation.threshold 2000
namespace G
open PySem PySem.Spec PyProof.Rows L2 DL

abbrev worE : EM := mCallB (f2 gMax) (mCons (mVar 2) (mCons (mBin fAdd (mBin fSub (mCall 2 f__law_draw [] (mCons (mVar 0) (mCons (mBin fSub (mBin fMul (mC (.int 2)) (mVar 3)) (mC (.int 1))) (mNil)))) (mVar 3)) (mC (.int 1))) (mNil)))
theorem add_ii {i j : Int} : fAdd (.d (.int i)) (.d (.int j)) = some (.d (.int (i + j))) := rfl
theorem sub_ii {i j : Int} : fSub (.d (.int i)) (.d (.int j)) = some (.d (.int (i - j))) := rfl
theorem max2_ok {a b : EM} {G : Gm} {t t1 t2 : Option DS} {i j : Int} (h1 : a G t = .ok (.d (.int i)) t1) (h2 : b G t1 = .ok (.d (.int j)) t2) : mCallB (f2 gMax) (mCons a (mCons b mNil)) G t = .ok (.d (.int (if j > i then j else i))) t2 := by
  simp only [mCallB, mCons, mNil, h1, h2, Rs.bind, Rs.fz, Rv.fz, f2, fRead, Rv.toD, Option.bind_some, gMax, Option.map_some, Rs.of]
theorem wor_elt {q : Int} (hq : q = 3 ∨ q = 12 ∨ q = 101) {n x : Sl} {k : Nat} {t : Option DS} (hJ : J k t) (hk : k ≤ 1000) :
    ∃ z t1, worE [.s, n, .d (.int (-100)), .d (.int q), x] t = .ok (.d (.int z)) t1 ∧ (-100 ≤ z ∧ z ≤ 100) ∧ J (k + 1) t1 := by
  have el : mBin fSub (mBin fMul (mC (.int 2)) (mVar 3)) (mC (.int 1)) [.s, n, .d (.int (-100)), .d (.int q), x] t = .ok (.d (.int (2 * q - 1))) t := by
    refine bin_ok (bin_mul (t1 := t) (t2 := t) (i := 2) (j := q) rfl rfl (mulOk_of (by decide) (by omega))) rfl rfl
  obtain ⟨z, t1, e, i, z0, z1⟩ := m_draw (i := 0) rfl el hJ hk (by omega) (by omega)
  refine ⟨if z - q + 1 > -100 then z - q + 1 else -100, t1, ?_, ?_, i⟩
  · exact max2_ok (t1 := t) rfl (bin_ok (bin_ok e rfl sub_ii) rfl add_ii)
  · split <;> omega
theorem e_lworths {n : Int} (hn : 2 ≤ n ∧ n ≤ 4) {k : Nat} {t : Option DS} (hJ : J k t) (hk : k ≤ 900) :
    ∃ ws t', f__law_worths [.s, .d (.int n), .d (.int (-100))] t = .ok (.d (.tuple (ws.map .int))) t' ∧ (ws.length : Int) = n ∧ Wors ws ∧ J (k + 5) t' := by
  obtain ⟨m, rfl⟩ := Int.eq_ofNat_of_zero_le (show 0 ≤ n by omega)
  have hm : m ≤ 4 := by omega
  obtain ⟨z, t1, e, i, z0, z1⟩ := m_draw (G := [.s, .d (.int m), .d (.int (-100)), .un, .un]) (i := 0) (b := mC (.int 3)) (l := 3) rfl rfl hJ (by omega) (by decide) (by decide)
  have e1 : ∃ q, (q = 3 ∨ q = 12 ∨ q = 101) ∧ mBin fIx (mLst (mCons (mC (.int 3)) (mCons (mC (.int 12)) (mCons (mC (.int 101)) (mNil))))) (mCall 2 f__law_draw [] (mCons (mVar 0) (mCons (mC (.int 3)) (mNil)))) [.s, .d (.int m), .d (.int (-100)), .un, .un] t = .ok (.d (.int q)) t1 := by
    have h3 : z = 0 ∨ z = 1 ∨ z = 2 := by omega
    have hlst : mLst (mCons (mC (.int 3)) (mCons (mC (.int 12)) (mCons (mC (.int 101)) (mNil)))) [.s, .d (.int m), .d (.int (-100)), .un, .un] t = .ok (.l [.int 3, .int 12, .int 101]) t := rfl
    rcases h3 with rfl | rfl | rfl
    · exact ⟨3, .inl rfl, bin_ok hlst e rfl⟩
    · exact ⟨12, .inr (.inl rfl), bin_ok hlst e rfl⟩
    · exact ⟨101, .inr (.inr rfl), bin_ok hlst e rfl⟩
  obtain ⟨q, hq, eq⟩ := e1
  obtain ⟨ws, t', c1, c2, c3, c4⟩ := lc_st (pt := .nm 4) (elt := worE) (G0 := [.s, .d (.int m), .d (.int (-100)), .d (.int q), .un]) (J := J) (V := fun z => -100 ≤ z ∧ z ≤ 100) (N := 1000) (items := rangeD 0 m) (acc := []) (k := k + 1) (t := t1)
    (by simp [rangeD_len]; omega) (by rw [rangeD_len]; omega) i (fun x hx => ⟨[.s, .d (.int m), .d (.int (-100)), .d (.int q), .d x], rfl, fun k t hk hJ => wor_elt hq hJ (by omega)⟩)
  rw [rangeD_len] at c2 c4
  have lc : mLc (mRange1 (mVar 1)) (.nm 4) none worE [4] [.s, .d (.int m), .d (.int (-100)), .d (.int q), .un] t1 = .ok (.l (ws.map .int)) t' := by
    unfold mLc
    rw [if_pos (by decide), range_ok (n := m) (t := t1) rfl (by omega)]
    exact c1
  refine ⟨ws, t', ?_, by rw [c2], ⟨c3⟩, ?_⟩
  · refine run_rt (G := [.s, .d (.int m), .d (.int (-100))]) (m := m__law_worths) rfl ?_
    unfold m__law_worths
    refine (seq_nx (set_nx eq (Nat.le_of_ble_eq_true rfl))).trans ?_
    exact ret_ok (tup_ok lc)
  · obtain ⟨st, rfl, hI⟩ := c4
    exact ⟨st, rfl, inv_more hI (by omega)⟩
/-! ### slices -/
theorem sl_from1 {m : EM} {G : Gm} {t : Option DS} {x : D} {xs : List D} (h : m G t = .ok (.d (.tuple (x :: xs))) t) : mSl m (some (mC (.int 1))) none G t = .ok (.d (.tuple xs)) t := by
  have s1 : ∀ n : Nat, HT.sIx (n + 1) 0 (some 1) = 1 := fun n => by unfold HT.sIx; simp
  have s2 : ∀ n : Nat, HT.sIx n n none = n := fun n => by unfold HT.sIx; simp
  have e : fSl (.d (.tuple (x :: xs))) (some 1) none = some (.d (.tuple xs)) := by
    simp only [fSl, Rv.items, Rv.tup, List.length_cons, s1, s2, Nat.add_sub_cancel, List.drop_succ_cons, List.drop_zero, List.take_length]
  simp only [mSl, mPart, mC, partI, h, Rs.fz, Rv.fz, Rs.bind, e, Rs.of]
theorem sl_to1 {m : EM} {G : Gm} {t : Option DS} {x : D} {xs : List D} (h : m G t = .ok (.d (.tuple (xs ++ [x]))) t) : mSl m none (some (mNeg (mC (.int 1)))) G t = .ok (.d (.tuple xs)) t := by
  have s1 : ∀ n : Nat, HT.sIx (n + 1) (n + 1) (some (-1)) = n := fun n => by unfold HT.sIx; simp; omega
  have s2 : ∀ n : Nat, HT.sIx n 0 none = 0 := fun n => by unfold HT.sIx; simp
  have e : fSl (.d (.tuple (xs ++ [x]))) none (some (-1)) = some (.d (.tuple xs)) := by
    simp only [fSl, Rv.items, Rv.tup, List.length_append, List.length_cons, List.length_nil, Nat.zero_add, s1, s2, Nat.sub_zero, List.drop_zero, List.take_left]
  simp only [mSl, mPart, mNeg, mC, partI, h, Rs.fz, Rv.fz, Rs.bind, e, Rs.of]
end G
end

section
set_option Elab.async false
set_option linter.all false
set_option maxRecDepth 100000
set_option maxHeartbeats 4000000
set_option exponentiation.threshold 2000
namespace G
open PySem PySem.Spec PyProof.Rows L2 DL

theorem cat_tt {a b : List D} (h : a.length + b.length ≤ 1000) : fAdd (.d (.tuple a)) (.d (.tuple b)) = some (.d (.tuple (a ++ b))) := by
  have z : a.length + b.length ≤ 16777216 := by omega
  simp only [fAdd, fI, fCat, fCatT, Rv.items, Rv.tup, Option.bind_none, Option.bind_some, Option.none_or, if_pos z, Option.some_or]
theorem list_ok {m : EM} {G : Gm} {t t1 : Option DS} {ds : List D} (h : m G t = .ok (.d (.tuple ds)) t1) : mCallB fList (mCons m mNil) G t = .ok (.l ds) t1 := by
  simp only [mCallB, mCons, mNil, h, Rs.bind, Rs.fz, Rv.fz, fList, Rv.items, Rv.tup, Option.map_none, Option.map_some, Option.none_or, Rs.of]
theorem neg_ok {i : Int} {G : Gm} {t : Option DS} : mNeg (mC (.int i)) G t = .ok (.d (.int (-i))) t := rfl
theorem one_ok {m : EM} {x : D} {G : Gm} {t : Option DS} (h : m G t = .ok (.d x) t) : mTup (mCons m mNil) G t = .ok (.d (.tuple [x])) t := by
  simp only [mTup, mCons, mNil, h, Rs.bind, Rs.fz, Rv.fz, dats, List.length_cons, List.length_nil, Option.map_some, Rs.of, if_pos (show (0 + 1 ≤ 16777216) by decide)]
theorem cons_d {m : EM} {ms : AM} {G : Gm} {t t1 t2 : Option DS} {x : D} {rs : List Rv} (h : m G t = .ok (.d x) t1) (h2 : ms G t1 = .ok rs t2) : mCons m ms G t = .ok (.d x :: rs) t2 := by
  simp only [mCons, h, h2, Rs.bind, Rs.fz, Rv.fz]
theorem cons_l {m : EM} {ms : AM} {G : Gm} {t t1 t2 : Option DS} {x : List D} {rs : List Rv} (h : m G t = .ok (.l x) t1) (h2 : ms G t1 = .ok rs t2) : mCons m ms G t = .ok (.d (.list x) :: rs) t2 := by
  simp only [mCons, h, h2, Rs.bind, Rs.fz, Rv.fz]
theorem nil_ok {G : Gm} {t : Option DS} : mNil G t = .ok [] t := rfl
theorem lst_ok {ms : AM} {G : Gm} {t t1 : Option DS} {ds : List D} (h : ms G t = .ok (ds.map .d) t1) (hl : ds.length ≤ 1000) : mLst ms G t = .ok (.l ds) t1 := by
  have e : dats (ds.map .d) = some ds := by
    clear h hl
    induction ds with
    | nil => rfl
    | cons x xs ih => simp [dats, ih]
  have z : (ds.map Rv.d).length ≤ 16777216 := by rw [List.length_map]; omega
  simp only [mLst, h, Rs.bind, if_pos z, e, Option.map_some, Rs.of]
/-- the seven odd forms -/
def odds (ns : List Int) (a : Int) (x y : Int) (b : Bool) : List D := [.tuple (ns.map PyData.int ++ [.int a]), .tuple (ns.tail.map .int), .tuple ([.int x] ++ ns.tail.map PyData.int), .tuple (ns.dropLast.map PyData.int ++ [.int y]), .list (ns.map .int), .none, .tuple ([.bool b] ++ ns.tail.map PyData.int)]
theorem odds_ok {ns : List Int} (h0 : 2 ≤ ns.length) (h1 : ns.length ≤ 4) {a x y : Int} {mx my : EM} {b : Bool} {i : Nat} {G : Gm} {t : Option DS} (hi : G[i]? = some (.d (.tuple (ns.map .int)))) (hx : mx G t = .ok (.d (.int x)) t) (hy : my G t = .ok (.d (.int y)) t) :
    mLst (mCons (mBin fAdd (mVar i) (mTup (mCons (mC (.int a)) (mNil)))) (mCons (mSl (mVar i) (some (mC (.int 1))) none) (mCons (mBin fAdd (mTup (mCons mx (mNil))) (mSl (mVar i) (some (mC (.int 1))) none)) (mCons (mBin fAdd (mSl (mVar i) none (some (mNeg (mC (.int 1))))) (mTup (mCons my (mNil)))) (mCons (mCallB fList (mCons (mVar i) (mNil))) (mCons (mC .none) (mCons (mBin fAdd (mTup (mCons (mC (.bool b)) (mNil))) (mSl (mVar i) (some (mC (.int 1))) none)) (mNil)))))))) G t = .ok (.l (odds ns a x y b)) t := by
  have v := var_d hi (t := t)
  have tl : mSl (mVar i) (some (mC (.int 1))) none G t = .ok (.d (.tuple (ns.tail.map .int))) t := by
    cases ns with
    | nil => exact absurd h0 (by decide)
    | cons c cs => exact sl_from1 v
  have il : mSl (mVar i) none (some (mNeg (mC (.int 1)))) G t = .ok (.d (.tuple (ns.dropLast.map .int))) t := by
    have hne : ns ≠ [] := fun z => by rw [z] at h0; exact absurd h0 (by decide)
    have e := List.dropLast_concat_getLast hne
    have e2 : ns.map PyData.int = ns.dropLast.map PyData.int ++ [.int (ns.getLast hne)] := by
      conv => lhs; rw [← e]
      rw [List.map_append, List.map_cons, List.map_nil]
    rw [e2] at v
    exact sl_to1 v
  have lt : ns.tail.length ≤ 4 := by rw [List.length_tail]; omega
  have ld : ns.dropLast.length ≤ 4 := by rw [List.length_dropLast]; omega
  refine lst_ok ?_ (Nat.le_of_ble_eq_true rfl)
  refine cons_d (bin_ok v (one_ok rfl) (cat_tt (by rw [List.length_map, List.length_singleton]; omega))) ?_
  refine cons_d tl ?_
  refine cons_d (bin_ok (one_ok hx) tl (cat_tt (by rw [List.length_map, List.length_singleton]; omega))) ?_
  refine cons_d (bin_ok il (one_ok hy) (cat_tt (by rw [List.length_map, List.length_singleton]; omega))) ?_
  refine cons_l (list_ok v) ?_
  refine cons_d (x := .none) rfl ?_
  exact cons_d (bin_ok (one_ok rfl) tl (cat_tt (by rw [List.length_map, List.length_singleton]; omega))) nil_ok
theorem tail_mem {ns : List Int} : ∀ z ∈ ns.tail, z ∈ ns := fun z h => List.mem_of_mem_tail h
theorem init_mem {ns : List Int} : ∀ z ∈ ns.dropLast, z ∈ ns := fun z h => (List.dropLast_sublist ns).subset h
theorem sh_odds {ns : List Int} (h1 : ns.length ≤ 4) (hs : ∀ w ∈ ns, w.natAbs ≤ 1000) {a x y : Int} {b : Bool} (ha : a.natAbs ≤ 1000) (hx : x.natAbs ≤ 1000) (hy : y.natAbs ≤ 1000) : ∀ z ∈ odds ns a x y b, Sh z 1 10000 := by
  have lt : ns.tail.length ≤ 4 := by rw [List.length_tail]; omega
  have ld : ns.dropLast.length ≤ 4 := by rw [List.length_dropLast]; omega
  have sb := sh_more (sh_bool b) (Nat.le_refl 0) (show 5 ≤ 1001 by decide)
  have s1 := sh_ints hs
  have s2 := sh_ints (ws := ns.tail) fun w h => hs w (tail_mem w h)
  have s3 := sh_ints (ws := ns.dropLast) fun w h => hs w (init_mem w h)
  have si : ∀ {i : Int}, i.natAbs ≤ 1000 → ∀ z ∈ [PyData.int i], Sh z 0 1001 := fun h z hz => by rw [List.mem_singleton.mp hz]; exact sh_int_small h
  have ap : ∀ {p q : List D}, (∀ z ∈ p, Sh z 0 1001) → (∀ z ∈ q, Sh z 0 1001) → ∀ z ∈ p ++ q, Sh z 0 1001 := fun hp hq z hz => by
    rcases List.mem_append.mp hz with u | u
    · exact hp z u
    · exact hq z u
  intro z hz
  simp only [odds, List.mem_cons, List.not_mem_nil, or_false] at hz
  rcases hz with rfl | rfl | rfl | rfl | rfl | rfl | rfl
  · exact sh_tuple (m := 0) (k := 1001) (ap s1 (si ha)) (by rw [List.length_append, List.length_map, List.length_singleton]; omega)
  · exact sh_tuple (m := 0) (k := 1001) s2 (by rw [List.length_map]; omega)
  · exact sh_tuple (m := 0) (k := 1001) (ap (si hx) s2) (by rw [List.length_append, List.length_map, List.length_singleton]; omega)
  · exact sh_tuple (m := 0) (k := 1001) (ap s3 (si hy)) (by rw [List.length_append, List.length_map, List.length_singleton]; omega)
  · exact sh_list (m := 0) (k := 1001) s1 (by rw [List.length_map]; omega)
  · exact sh_more sh_none (Nat.zero_le _) (by decide)
  · exact sh_tuple (m := 0) (k := 1001) (ap (fun z hz => by rw [List.mem_singleton.mp hz]; exact sb) s2) (by rw [List.length_append, List.length_map, List.length_singleton]; omega)
theorem oddc_all {n : Int} (hn : 2 ≤ n ∧ n ≤ 5) {cs : List Int} (hl : (cs.length : Int) = n) (hc : Cont cs) : ∀ z ∈ odds cs 0 (-1) 25 true, OddC n z := by
  have lt : (cs.tail.length : Int) = n - 1 := by rw [List.length_tail]; omega
  have ld : (cs.dropLast.length : Int) = n - 1 := by rw [List.length_dropLast]; omega
  have ci : Cont cs.dropLast := ⟨fun c h => hc.le c (init_mem c h)⟩
  intro z hz t
  simp only [odds, List.mem_cons, List.not_mem_nil, or_false] at hz
  rcases hz with rfl | rfl | rfl | rfl | rfl | rfl | rfl
  · exact isc_len hn (by rw [List.length_append, List.length_map, List.length_singleton]; omega) t
  · exact isc_len hn (by rw [List.length_map]; omega) t
  · exact isc_item (pre := []) (rest := cs.tail.map .int) hn (by rw [List.length_append, List.length_cons, List.length_map, List.length_map, List.length_nil]; omega) ⟨fun _ h => nomatch h⟩ (.inl rfl) t
  · exact isc_item (pre := cs.dropLast) (rest := []) hn (by rw [List.length_append, List.length_cons, List.length_map, List.length_nil]; omega) ci (.inr (.inl rfl)) t
  · exact isc_nt hn (.inr ⟨_, rfl⟩) t
  · exact isc_nt hn (.inl rfl) t
  · exact isc_item (pre := []) (rest := cs.tail.map .int) hn (by rw [List.length_append, List.length_cons, List.length_map, List.length_map, List.length_nil]; omega) ⟨fun _ h => nomatch h⟩ (.inr (.inr rfl)) t
theorem oddw_all {n : Int} (hn : 2 ≤ n ∧ n ≤ 5) {ws : List Int} (hl : (ws.length : Int) = n) (hw : Wors ws) : ∀ z ∈ odds ws 1 101 (-101) false, OddW n z := by
  have lt : (ws.tail.length : Int) = n - 1 := by rw [List.length_tail]; omega
  have ld : (ws.dropLast.length : Int) = n - 1 := by rw [List.length_dropLast]; omega
  have ci : Wors ws.dropLast := ⟨fun c h => hw.le c (init_mem c h)⟩
  intro z hz t
  simp only [odds, List.mem_cons, List.not_mem_nil, or_false] at hz
  rcases hz with rfl | rfl | rfl | rfl | rfl | rfl | rfl
  · exact worths_len hn (by rw [List.length_append, List.length_map, List.length_singleton]; omega) t
  · exact worths_len hn (by rw [List.length_map]; omega) t
  · exact worths_item (pre := []) (rest := ws.tail.map .int) hn (by rw [List.length_append, List.length_cons, List.length_map, List.length_map, List.length_nil]; omega) ⟨fun _ h => nomatch h⟩ (.inl rfl) t
  · exact worths_item (pre := ws.dropLast) (rest := []) hn (by rw [List.length_append, List.length_cons, List.length_map, List.length_nil]; omega) ci (.inr (.inl rfl)) t
  · exact worths_nt hn (.inr ⟨_, rfl⟩) t
  · exact worths_nt hn (.inl rfl) t
  · exact worths_item (pre := []) (rest := ws.tail.map .int) hn (by rw [List.length_append, List.length_cons, List.length_map, List.length_map, List.length_nil]; omega) ⟨fun _ h => nomatch h⟩ (.inr (.inr rfl)) t
end G
end

section
set_option Elab.async false
set_option linter.all false
set_option maxRecDepth 100000
set_option maxHeartbeats 4000000
set_option exponentiation.threshold 2000
namespace G
open PySem PySem.Spec PyProof.Rows L2 DL

theorem call2sl {f : FM} {a b : EM} {G : Gm} {t t1 t2 : Option DS} {y : List D} (h1 : a G t = .ok .s t1) (h2 : b G t1 = .ok (.l y) t2) : mCall 2 f [] (mCons a (mCons b mNil)) G t = f [.s, .d (.list y)] t2 := by
  simp only [mCall, mCons, mNil, h1, h2, Rs.bind, Rs.fz, Rv.fz, List.length_cons, List.length_nil, if_true, List.map_nil, List.append_nil]
theorem call5 {f : FM} {a b c d e : EM} {G : Gm} {t t1 t2 t3 t4 t5 : Option DS} {x y z u v : D} (h1 : a G t = .ok (.d x) t1) (h2 : b G t1 = .ok (.d y) t2) (h3 : c G t2 = .ok (.d z) t3) (h4 : d G t3 = .ok (.d u) t4) (h5 : e G t4 = .ok (.d v) t5) : mCall 5 f [] (mCons a (mCons b (mCons c (mCons d (mCons e mNil))))) G t = f [.d x, .d y, .d z, .d u, .d v] t5 := by
  simp only [mCall, mCons, mNil, h1, h2, h3, h4, h5, Rs.bind, Rs.fz, Rv.fz, List.length_cons, List.length_nil, if_true, List.map_nil, List.append_nil]
/-- two alike things in a test -/
theorem like_t {a b : EM} {G : Gm} {t t1 t2 : Option DS} {d : D} {r : Rv} {m k : Nat} (h1 : a G t = .ok (.d d) t1) (h2 : b G t1 = .ok r t2) (hr : r.fz = .d d) (h : Sh d m k) (hm : m ≤ 64) (hk : k ≤ 16777216) :
    mCall 2 f__law_like [] (mCons a (mCons b mNil)) G t = .ok (.d (.bool true)) t2 := by
  have e : mCall 2 f__law_like [] (mCons a (mCons b mNil)) G t = f__law_like [.d d, .d d] t2 := by
    have f2 : (b G t1).fz = .ok (.d d) t2 := by rw [h2]; show Rs.ok r.fz t2 = _; rw [hr]
    have f1 : (a G t).fz = .ok (.d d) t1 := by rw [h1]; rfl
    simp only [mCall, mCons, mNil, f1, f2, Rs.bind, List.length_cons, List.length_nil, if_true, List.map_nil, List.append_nil]
  rw [e, like_sh h hm hk]
theorem like_no {a b : EM} {G : Gm} {t t1 t2 : Option DS} {d : D} {r : Rv} {m k : Nat} (h1 : a G t = .ok (.d d) t1) (h2 : b G t1 = .ok r t2) (hr : r.fz = .d d) (h : Sh d m k) (hm : m ≤ 64) (hk : k ≤ 16777216) :
    mNotB (mTru (mCall 2 f__law_like [] (mCons a (mCons b mNil)))) G t = .ok false t2 := tru_ok (b := true) (like_t h1 h2 hr h hm hk)
/-- a test that is not met, and what follows -/
theorem sif_no {c : BM} {a rest : SM} {G : Gm} {t t1 : Option DS} (h : c G t = .ok false t1) : sSeq (sIf c a sSkip) rest G t = rest G t1 := (seq_nx ((if_no h).trans rfl))
theorem and_yes {a b : BM} {G : Gm} {t t1 : Option DS} (h : a G t = .ok true t1) : mAndB a b G t = b G t1 := by simp only [mAndB, h, Rs.bind, if_true]
theorem and_no {a b : BM} {G : Gm} {t t1 : Option DS} (h : a G t = .ok false t1) : mAndB a b G t = .ok false t1 := by simp only [mAndB, h, Rs.bind, Bool.false_eq_true, if_false]
theorem or_no {a b : BM} {G : Gm} {t t1 : Option DS} (h : a G t = .ok false t1) : mOrB a b G t = b G t1 := by simp only [mOrB, h, Rs.bind, Bool.false_eq_true, if_false]
/-- a list of a word and a thing -/
theorem pair_l {x : D} {i : Nat} {y : D} {G : Gm} {t : Option DS} (h : G[i]? = some (.d y)) : mLst (mCons (mC x) (mCons (mVar i) mNil)) G t = .ok (.l [x, y]) t :=
  lst_ok (ds := [x, y]) (cons_d rfl (cons_d (var_d h) nil_ok)) (Nat.le_of_ble_eq_true rfl)
abbrev caught0 : Caught "BadMany" := .inl rfl
section
variable {n : Int} {m : Nat} {cs ws : List Int} {N C W T : D} (hm : m = 2 ∨ m = 3 ∨ m = 4) (hn : n = (m : Int)) (hc : (cs.length : Int) = n) (hcs : Cont cs) (oN : OddN N) (oC : OddC n C) (oW : OddW n W) (sN : Sh N 0 1000) (sC : Sh C 1 10000) (sW : Sh W 1 10000) (t : Option DS)
include hm hn
theorem n25 : 2 ≤ n ∧ n ≤ 5 := by omega
theorem told0 : ∃ y, f_test_worths [.d (.int n), .d (.int 0)] t = .ok (.d y) t := ⟨_, by rw [hn]; exact e_test (k := 0) hm (.inl rfl) t⟩
include oN in
theorem ask_n (f : Int) (hf : f = 0 ∨ f = 1 ∨ f = 2 ∨ f = 3) : f__law_asked [.d (.int f), .d N, .d C, .d W, .d T] t = .ok (.d (.list [.str "BadMany", N])) t := by
  have c0 : Caught "BadMany" := .inl rfl
  rcases hf with rfl | rfl | rfl | rfl
  · exact asked0 c0 (bm_worths oN t W)
  · exact asked1 c0 (bm_pat oN t C W)
  · exact asked2 c0 (bm_esum oN t C W _)
  · exact asked3 c0 (bm_test oN t T)
include oC oW in
theorem ask_c (f : Int) (hf : f = 0 ∨ f = 1 ∨ f = 2 ∨ f = 3) : ∃ y, f__law_asked [.d (.int f), .d (.int n), .d C, .d W, .d (.int 0)] t = .ok (.d y) t ∧ (f = 1 ∨ f = 2 → y = .list [.str "BadContent", C]) := by
  have hn5 := n25 hm hn
  have c1 : Caught "BadContent" := .inr (.inl rfl)
  have c2 : Caught "BadWorths" := .inr (.inr (.inl rfl))
  rcases hf with rfl | rfl | rfl | rfl
  · exact ⟨_, asked0 c2 (oW t), fun z => absurd z (by decide)⟩
  · exact ⟨_, asked1 c1 (bc_pat hn5 t oC W), fun _ => rfl⟩
  · exact ⟨_, asked2 c1 (bc_esum hn5 t oC W _), fun _ => rfl⟩
  · obtain ⟨y, e⟩ := told0 hm hn t
    exact ⟨_, asked_told e, fun z => absurd z (by decide)⟩
include hc hcs oW in
theorem ask_w (f : Int) (hf : f = 0 ∨ f = 1 ∨ f = 2 ∨ f = 3) : ∃ y, f__law_asked [.d (.int f), .d (.int n), .d (.tuple (cs.map .int)), .d W, .d (.int 0)] t = .ok (.d y) t ∧ (f < 3 → y = .list [.str "BadWorths", W]) := by
  have hn5 := n25 hm hn
  have c2 : Caught "BadWorths" := .inr (.inr (.inl rfl))
  rcases hf with rfl | rfl | rfl | rfl
  · exact ⟨_, asked0 c2 (oW t), fun _ => rfl⟩
  · exact ⟨_, asked1 c2 (bw_pat hn5 t hc hcs oW), fun _ => rfl⟩
  · exact ⟨_, asked2 c2 (bw_esum hn5 t hc hcs oW _), fun _ => rfl⟩
  · obtain ⟨y, e⟩ := told0 hm hn t
    exact ⟨_, asked_told e, fun z => absurd z (by decide)⟩
end
end G
end

section
set_option Elab.async false
set_option linter.all false
set_option maxRecDepth 100000
set_option maxHeartbeats 4000000
set_option exponentiation.threshold 2000
namespace G
open PySem PySem.Spec PyProof.Rows L2 DL

theorem frz_d {i : Nat} {m : SM} {G : Gm} {t : Option DS} {x : D} (hG : G[i]? = some (.d x)) : sFrz i m G t = m G t := by simp only [sFrz, hG]
abbrev askB : SM := sSeq (sIf (mNotB (mTru (mCall 2 f__law_like [] (mCons (mCall 5 f__law_asked [] (mCons (mVar 14) (mCons (mVar 10) (mCons (mVar 11) (mCons (mVar 12) (mCons (mVar 13) (mNil))))))) (mCons (mLst (mCons (mC (.str "BadMany")) (mCons (mVar 10) (mNil)))) (mNil)))))) (sSeq (sRet (mC (.bool false))) (sSkip)) (sSkip)) (sSeq (sSet 15 (mCall 5 f__law_asked [] (mCons (mVar 14) (mCons (mVar 2) (mCons (mVar 11) (mCons (mVar 12) (mCons (mC (.int 0)) (mNil)))))))) (sSeq (sIf (mAndB (mCmpB fIn (mVar 14) (mTup (mCons (mC (.int 1)) (mCons (mC (.int 2)) (mNil))))) (mNotB (mTru (mCall 2 f__law_like [] (mCons (mVar 15) (mCons (mLst (mCons (mC (.str "BadContent")) (mCons (mVar 11) (mNil)))) (mNil))))))) (sSeq (sRet (mC (.bool false))) (sSkip)) (sSkip)) (sSeq (sFrz 4 (sSet 15 (mCall 5 f__law_asked [] (mCons (mVar 14) (mCons (mVar 2) (mCons (mVar 4) (mCons (mVar 12) (mCons (mC (.int 0)) (mNil))))))))) (sSeq (sIf (mAndB (mCmpB (fCm iLt) (mVar 14) (mC (.int 3))) (mNotB (mTru (mCall 2 f__law_like [] (mCons (mVar 15) (mCons (mLst (mCons (mC (.str "BadWorths")) (mCons (mVar 12) (mNil)))) (mNil))))))) (sSeq (sRet (mC (.bool false))) (sSkip)) (sSkip)) (sSkip)))))
section
variable {n : Int} {m : Nat} {cs ws : List Int} {N C W T : D} (hm : m = 2 ∨ m = 3 ∨ m = 4) (hn : n = (m : Int)) (hc : (cs.length : Int) = n) (hcs : Cont cs) (oN : OddN N) (oC : OddC n C) (oW : OddW n W) (sC : Sh C 1 10000) (sW : Sh W 1 10000) (t : Option DS)
include hm hn hc hcs oN oC oW sC sW
theorem ask_body {s0 s1 s3 s5 s6 s7 s8 s9 s15 s16 : Sl} (f : Int) (hf : f = 0 ∨ f = 1 ∨ f = 2 ∨ f = 3) :
    ∃ y, askB [s0, s1, .d (.int n), s3, .d (.tuple (cs.map .int)), s5, s6, s7, s8, s9, .d N, .d C, .d W, .d T, .d (.int f), s15, s16] t = .nx [s0, s1, .d (.int n), s3, .d (.tuple (cs.map .int)), s5, s6, s7, s8, s9, .d N, .d C, .d W, .d T, .d (.int f), .d y, s16] t := by
  have a1 := ask_n (n := n) (m := m) (C := C) (W := W) (T := T) hm hn oN t f hf
  obtain ⟨y2, a2, b2⟩ := ask_c hm hn oC oW t f hf
  obtain ⟨y3, a3, b3⟩ := ask_w hm hn hc hcs oW t f hf
  refine ⟨y3, ?_⟩
  refine (sif_no (t1 := t) (like_no (t1 := t) ((call5 (t1 := t) (t2 := t) (t3 := t) (t4 := t) (t5 := t) rfl rfl rfl rfl rfl).trans a1) (pair_l rfl) rfl (sh_pair sh_many (sh_oddn oN) (Nat.le_refl _) (Nat.le_refl _)) (by decide) (by decide))).trans ?_
  refine (seq_nx (set_nx ((call5 (t1 := t) (t2 := t) (t3 := t) (t4 := t) (t5 := t) rfl rfl rfl rfl rfl).trans a2) (Nat.le_of_ble_eq_true rfl))).trans ?_
  have s3' : Sh (.list [.str "BadContent", C]) 2 30000 := sh_pair sh_content sC (by decide) (by decide)
  have s4' : Sh (.list [.str "BadWorths", W]) 2 30000 := sh_pair sh_worths sW (by decide) (by decide)
  refine (sif_no (t1 := t) ?_).trans ?_
  · rcases hf with rfl | rfl | rfl | rfl
    · exact and_no rfl
    · rw [b2 (.inl rfl)]
      exact (and_yes (t1 := t) rfl).trans (like_no (t1 := t) (var_d rfl) (pair_l rfl) rfl s3' (by decide) (by decide))
    · rw [b2 (.inr rfl)]
      exact (and_yes (t1 := t) rfl).trans (like_no (t1 := t) (var_d rfl) (pair_l rfl) rfl s3' (by decide) (by decide))
    · exact and_no rfl
  · refine (seq_nx ((frz_d (x := .tuple (cs.map .int)) rfl).trans (set_nx ((call5 (f := f__law_asked) (t1 := t) (t2 := t) (t3 := t) (t4 := t) (t5 := t) rfl rfl rfl rfl rfl).trans a3) (Nat.le_of_ble_eq_true rfl)))).trans ?_
    refine (sif_no (t1 := t) ?_).trans rfl
    rcases hf with rfl | rfl | rfl | rfl
    · rw [b3 (by decide)]
      exact (and_yes (t1 := t) rfl).trans (like_no (t1 := t) (var_d rfl) (pair_l rfl) rfl s4' (by decide) (by decide))
    · rw [b3 (by decide)]
      exact (and_yes (t1 := t) rfl).trans (like_no (t1 := t) (var_d rfl) (pair_l rfl) rfl s4' (by decide) (by decide))
    · rw [b3 (by decide)]
      exact (and_yes (t1 := t) rfl).trans (like_no (t1 := t) (var_d rfl) (pair_l rfl) rfl s4' (by decide) (by decide))
    · exact and_no rfl
theorem ask_loop {s0 s1 s3 s5 s6 s7 s8 s9 s14 s15 s16 : Sl} :
    ∃ y z, sFor (mRange1 (mC (.int 4))) (.nm 14) askB [s0, s1, .d (.int n), s3, .d (.tuple (cs.map .int)), s5, s6, s7, s8, s9, .d N, .d C, .d W, .d T, s14, s15, s16] t = .nx [s0, s1, .d (.int n), s3, .d (.tuple (cs.map .int)), s5, s6, s7, s8, s9, .d N, .d C, .d W, .d T, y, z, s16] t := by
  obtain ⟨G', t', e1, e2⟩ := loop_inv (pt := .nm 14) (body := askB) (items := rangeD 0 4) (I := fun i G t' => t' = t ∧ ∃ y z, G = [s0, s1, .d (.int n), s3, .d (.tuple (cs.map .int)), s5, s6, s7, s8, s9, .d N, .d C, .d W, .d T, y, z, s16])
    (fun i x G t' hx hI => by
      obtain ⟨rfl, y, z, rfl⟩ := hI
      have hmem : x ∈ [PyData.int 0, PyData.int 1, PyData.int 2, PyData.int 3] := List.mem_of_getElem? hx
      have hx' : ∃ f : Int, x = .int f ∧ (f = 0 ∨ f = 1 ∨ f = 2 ∨ f = 3) := by
        simp only [List.mem_cons, List.not_mem_nil, or_false] at hmem
        rcases hmem with rfl | rfl | rfl | rfl
        · exact ⟨0, rfl, .inl rfl⟩
        · exact ⟨1, rfl, .inr (.inl rfl)⟩
        · exact ⟨2, rfl, .inr (.inr (.inl rfl))⟩
        · exact ⟨3, rfl, .inr (.inr (.inr rfl))⟩
      obtain ⟨f, rfl, hf⟩ := hx'
      obtain ⟨y', e⟩ := ask_body hm hn hc hcs oN oC oW sC sW t' (T := T) (s0 := s0) (s1 := s1) (s3 := s3) (s5 := s5) (s6 := s6) (s7 := s7) (s8 := s8) (s9 := s9) (s15 := z) (s16 := s16) f hf
      exact ⟨[s0, s1, .d (.int n), s3, .d (.tuple (cs.map .int)), s5, s6, s7, s8, s9, .d N, .d C, .d W, .d T, .d (.int f), z, s16], _, t', rfl, e, rfl, _, _, rfl⟩)
    (G := [s0, s1, .d (.int n), s3, .d (.tuple (cs.map .int)), s5, s6, s7, s8, s9, .d N, .d C, .d W, .d T, s14, s15, s16]) (t := t) ⟨rfl, _, _, rfl⟩
  obtain ⟨rfl, y, z, rfl⟩ := e2
  exact ⟨y, z, for_nx (t1 := t') rfl e1⟩
end
/-! ### what is due of test_worths -/
theorem rngI_succ (i : Nat) : rngI (i + 1) = rngI i ++ [(i : Int)] := by simp [rngI, List.range_succ]
theorem cat_bl {a b : List D} (h : a.length + b.length ≤ 16777216) : fAdd (.b a) (.d (.list b)) = some (.l (a ++ b)) := by
  simp only [fAdd, fI, fCat, fCatT, Rv.items, Rv.tup, Option.bind_some, Option.none_or, if_pos h, Option.some_or]
theorem fall_le : ∀ n ∈ [2, 3, 4], ∀ i ∈ [0, 1, 2, 3, 4, 5, 6, 7], ((rngI i).flatMap (fallL n)).length ≤ 1000 ∧ (fallL n (i : Nat)).length ≤ 1000 := by decide +kernel
abbrev dueB : SM := sSeq (sSet 8 (mBin fAdd (mVar 8) (mCall 2 f__law_falling [] (mCons (mVar 2) (mCons (mVar 9) (mNil)))))) (sSkip)
theorem due_loop {m k : Nat} (hm : m = 2 ∨ m = 3 ∨ m = 4) (hk : k ≤ 6) {s0 s1 s3 s4 s5 s6 s9 s10 s11 s12 s13 s14 s15 s16 : Sl} (t : Option DS) :
    ∃ y, sFor (mRange1 (mBin fAdd (mVar 7) (mC (.int 1)))) (.nm 9) dueB [s0, s1, .d (.int (m : Int)), s3, s4, s5, s6, .d (.int (k : Int)), .l [], s9, s10, s11, s12, s13, s14, s15, s16] t = .nx [s0, s1, .d (.int (m : Int)), s3, s4, s5, s6, .d (.int (k : Int)), .l ((faL m k).map tupI), y, s10, s11, s12, s13, s14, s15, s16] t := by
  obtain ⟨G', t', e1, e2⟩ := loop_inv (pt := .nm 9) (body := dueB) (items := rangeD 0 (k + 1)) (I := fun i G t' => t' = t ∧ ∃ y, G = [s0, s1, .d (.int (m : Int)), s3, s4, s5, s6, .d (.int (k : Int)), .l (((rngI i).flatMap (fallL m)).map tupI), y, s10, s11, s12, s13, s14, s15, s16])
    (fun i x G t' hx hI => by
      obtain ⟨rfl, y, rfl⟩ := hI
      have hi : i < k + 1 := by
        rcases Nat.lt_or_ge i (k + 1) with z | z
        · exact z
        · rw [List.getElem?_eq_none (by rw [rangeD_len]; exact z)] at hx; cases hx
      have hx' : x = .int (i : Int) := by
        unfold rangeD at hx
        rw [List.getElem?_map, List.getElem?_range hi] at hx
        simp at hx
        exact hx.symm
      subst hx'
      refine ⟨_, _, t', rfl, ?_, rfl, .d (.int (i : Int)), rfl⟩
      have ef := e_fall (n := m) (k := i) hm (by omega) t'
      obtain ⟨l1, l2⟩ := fall_le m (by simpa using hm) i (by simp; omega)
      have e := bin_ok (f := fAdd) (a := mVar 8) (b := mCall 2 f__law_falling [] (mCons (mVar 2) (mCons (mVar 9) (mNil)))) (G := [s0, s1, .d (.int (m : Int)), s3, s4, s5, s6, .d (.int (k : Int)), .l (((rngI i).flatMap (fallL m)).map tupI), .d (.int (i : Int)), s10, s11, s12, s13, s14, s15, s16]) (t := t') (t1 := t') (var_l rfl) ((call2 (t1 := t') (t2 := t') rfl rfl).trans ef) (cat_bl (by rw [List.length_map, List.length_map]; omega))
      rw [rngI_succ, List.flatMap_append, List.map_append, List.flatMap_singleton]
      exact (seq_nx (set_l e (Nat.le_of_ble_eq_true rfl))).trans rfl)
    (G := [s0, s1, .d (.int (m : Int)), s3, s4, s5, s6, .d (.int (k : Int)), .l [], s9, s10, s11, s12, s13, s14, s15, s16]) (t := t) ⟨rfl, _, rfl⟩
  obtain ⟨rfl, y, rfl⟩ := e2
  refine ⟨y, for_nx (items := rangeD 0 (k + 1)) (t1 := t') (range_ok (n := k + 1) ?_ (by omega)) ?_⟩
  · exact bin_ok (var_d rfl) rfl add_ii
  · rw [e1, rangeD_len]
    have h : (rngI (k + 1)).flatMap (fallL m) = faL m k := by
      unfold faL fallL
      rw [show ((k : Int) + 1).toNat = k + 1 by omega]
    rw [h]
end G
end

section
set_option Elab.async false
set_option linter.all false
set_option maxRecDepth 100000
set_option maxHeartbeats 4000000
set_option exponentiation.threshold 2000
namespace G
open PySem PySem.Spec PyProof.Rows L2 DL

theorem sum_le {B : Nat} : ∀ {l : List Int}, (∀ x ∈ l, x.natAbs ≤ B) → l.sum.natAbs ≤ l.length * B
  | [], _ => by simp
  | x :: l, h => by
    have a := sum_le fun y hy => h y (List.mem_cons_of_mem _ hy)
    have b := h x List.mem_cons_self
    have c := Int.natAbs_add_le x l.sum
    rw [List.sum_cons, List.length_cons, Nat.succ_mul]
    omega
theorem big_ok : 24 * 128 ^ 120 < 2 ^ 1000 := by decide +kernel
theorem one_big : 128 ^ 120 < 2 ^ 1000 := by decide +kernel
theorem sumV_lt {nss : List (List Int)} {ws : List Int} (hn : ∀ r ∈ nss, Cont r ∧ r.length ≤ 5) (hw : Wors ws) (hl : nss.length ≤ 24) : (sumV nss ws).natAbs < 2 ^ 1000 := by
  have a : (sumV nss ws).natAbs ≤ nss.length * 128 ^ 120 := by
    unfold sumV
    have z := sum_le (B := 128 ^ 120) (l := nss.map fun r => pv r ws) fun x hx => by
      obtain ⟨r, hr, rfl⟩ := List.mem_map.mp hx
      exact pv_le (hn r hr).1 hw (hn r hr).2
    rw [List.length_map] at z
    exact z
  have b := big_ok
  have c : nss.length * 128 ^ 120 ≤ 24 * 128 ^ 120 := Nat.mul_le_mul_right _ hl
  generalize 128 ^ 120 = B at *
  generalize 2 ^ 1000 = X at *
  omega
theorem ex_nx {a b : SM} {G G1 : Gm} {t t1 : Option DS} {x : D} (h : a G t = .nx G1 t1) (k : ∃ t', b G1 t1 = .rt x t') : ∃ t', sSeq a b G t = .rt x t' := by
  obtain ⟨t', e⟩ := k
  exact ⟨t', (seq_nx h).trans e⟩
theorem ex_if {c : BM} {a b : SM} {G : Gm} {t t1 : Option DS} {x : D} (h : c G t = .ok false t1) (k : ∃ t', b G t1 = .rt x t') : ∃ t', sSeq (sIf c a sSkip) b G t = .rt x t' := by
  obtain ⟨t', e⟩ := k
  exact ⟨t', (sif_no h).trans e⟩
theorem ex_iff {i : Nat} {x y : D} {c : BM} {a b : SM} {G : Gm} {t t1 : Option DS} (hG : G[i]? = some (.d y)) (h : c G t = .ok false t1) (k : ∃ t', b G t1 = .rt x t') : ∃ t', sSeq (sFrz i (sIf c a sSkip)) b G t = .rt x t' :=
  ex_nx ((frz_d hG).trans ((if_no h).trans rfl)) k
theorem set_s {i : Nat} {m : EM} {G : Gm} {t t1 : Option DS} (h : m G t = .ok .s t1) (hi : i < G.length) : sSet i m G t = .nx (G.set i .s) t1 := by
  simp only [sSet, h, Rs.bindS, Rv.sl, hi, if_true]
theorem cmp_eq {a b : EM} {G : Gm} {t t1 t2 : Option DS} {i j : Int} (h1 : a G t = .ok (.d (.int i)) t1) (h2 : b G t1 = .ok (.d (.int j)) t2) : mCmpB fEq a b G t = .ok (decide (i = j)) t2 := by
  simp only [mCmpB, mBin, h1, h2, Rs.fz, Rv.fz, Rs.bind, fEq, fRead, Rv.toD, Option.bind_some, gEq, Option.map_some, Rs.of, Rv.bl]
theorem tup_b {m : EM} {G : Gm} {t t1 : Option DS} {xs : List D} (h : m G t = .ok (.b xs) t1) : mCallB fTuple (mCons m mNil) G t = .ok (.d (.tuple xs)) t1 := by
  simp only [mCallB, mCons, mNil, h, Rs.bind, Rs.fz, Rv.fz, fTuple, Rv.items, Rv.tup, Option.map_some, Option.some_or, Rs.of]
theorem call3s {f : FM} {a b c : EM} {G : Gm} {t t1 t2 t3 : Option DS} {y z : D} (h1 : a G t = .ok .s t1) (h2 : b G t1 = .ok (.d y) t2) (h3 : c G t2 = .ok (.d z) t3) : mCall 3 f [] (mCons a (mCons b (mCons c mNil))) G t = f [.s, .d y, .d z] t3 := by
  simp only [mCall, mCons, mNil, h1, h2, h3, Rs.bind, Rs.fz, Rv.fz, List.length_cons, List.length_nil, if_true, List.map_nil, List.append_nil]
theorem callk {f : FM} {a b c d : EM} {G : Gm} {t t1 t2 t3 t4 : Option DS} {x y z u : D} (h1 : a G t = .ok (.d x) t1) (h2 : b G t1 = .ok (.d y) t2) (h3 : c G t2 = .ok (.d z) t3) (h4 : d G t3 = .ok (.d u) t4) : mCallK 3 1 f (mCons a (mCons b (mCons c mNil))) (mCons d mNil) G t = f [.d x, .d y, .d z, .d u] t4 := by
  simp only [mCallK, mCons, mNil, h1, h2, h3, h4, Rs.bind, Rs.fz, Rv.fz, List.length_cons, List.length_nil, and_self, if_true, List.cons_append, List.nil_append]
theorem rng_lt {cs : List Int} {k : Int} (h0 : 0 ≤ k) (h1 : k < cs.length) : ∃ v ∈ cs, fIx (.b (cs.map .int)) (.d (.int k)) = some (.d (.int v)) := by
  have hn : k.toNat < cs.length := by omega
  refine ⟨cs.getD k.toNat 0, ?_, ?_⟩
  · rw [List.getD_eq_getElem?_getD, List.getElem?_eq_getElem hn]
    exact List.getElem_mem hn
  · simp only [fIx, Rv.items, Option.bind_some, atI_cs h0 h1, Option.map_some, Option.some_or]
/-- content[draw] = content[draw], perhaps -/
theorem put_step {m : Nat} (hm : m = 2 ∨ m = 3 ∨ m = 4) {cs : List Int} (hl : cs.length = m) (hc : Cont cs) {s0 s3 : Sl} {k : Nat} {t : Option DS} (hJ : J k t) (hk : k ≤ 900) :
    ∃ cs' t', sIf (mCmpB fEq (mCall 2 f__law_draw [] (mCons (mVar 1) (mCons (mC (.int 2)) (mNil)))) (mC (.int 0))) (sSeq (sPut 4 (mCall 2 f__law_draw [] (mCons (mVar 1) (mCons (mVar 2) (mNil)))) (mBin fIx (mVar 4) (mCall 2 f__law_draw [] (mCons (mVar 1) (mCons (mVar 2) (mNil)))))) (sSkip)) (sSkip)
      [s0, .s, .d (.int (m : Int)), s3, .l (cs.map .int), .un, .un, .un, .un, .un, .un, .un, .un, .un, .un, .un, .un] t = .nx [s0, .s, .d (.int (m : Int)), s3, .l (cs'.map .int), .un, .un, .un, .un, .un, .un, .un, .un, .un, .un, .un, .un] t' ∧ cs'.length = m ∧ Cont cs' ∧ J (k + 3) t' := by
  have more : ∀ {j t}, J j t → j ≤ k + 3 → J (k + 3) t := fun ⟨st, e, i⟩ h => ⟨st, e, inv_more i h⟩
  obtain ⟨z, t1, e, i, z0, z1⟩ := m_draw (i := 1) (b := mC (.int 2)) (l := 2) (G := [s0, .s, .d (.int (m : Int)), s3, .l (cs.map .int), .un, .un, .un, .un, .un, .un, .un, .un, .un, .un, .un, .un]) rfl rfl hJ (by omega) (by decide) (by decide)
  have ec := cmp_eq (b := mC (.int 0)) (j := 0) e rfl
  by_cases hz : z = 0
  · rw [decide_eq_true hz] at ec
    obtain ⟨u, t2, e2, i2, u0, u1⟩ := m_draw (i := 1) (b := mVar 2) (l := (m : Int)) (G := [s0, .s, .d (.int (m : Int)), s3, .l (cs.map .int), .un, .un, .un, .un, .un, .un, .un, .un, .un, .un, .un, .un]) rfl rfl i (by omega) (by omega) (by omega)
    obtain ⟨w, t3, e3, i3, w0, w1⟩ := m_draw (i := 1) (b := mVar 2) (l := (m : Int)) (G := [s0, .s, .d (.int (m : Int)), s3, .l (cs.map .int), .un, .un, .un, .un, .un, .un, .un, .un, .un, .un, .un, .un]) rfl rfl i2 (by omega) (by omega) (by omega)
    obtain ⟨v, hv, ev⟩ := rng_lt (cs := cs) u0 (by omega)
    have e4 := bin_ok (f := fIx) (a := mVar 4) (G := [s0, .s, .d (.int (m : Int)), s3, .l (cs.map .int), .un, .un, .un, .un, .un, .un, .un, .un, .un, .un, .un, .un]) (t := t1) (t1 := t1) (var_l rfl) e2 ev
    have ix : ixN (cs.map PyData.int).length w = some w.toNat := by
      unfold ixN
      rw [List.length_map, if_pos w0, if_pos (by omega)]
    refine ⟨cs.set w.toNat v, t3, ?_, by rw [List.length_set, hl], ⟨fun c h => ?_⟩, more i3 (by omega)⟩
    · refine (if_yes ec).trans ?_
      refine (seq_nx (G1 := [s0, .s, .d (.int (m : Int)), s3, .l ((cs.set w.toNat v).map .int), .un, .un, .un, .un, .un, .un, .un, .un, .un, .un, .un, .un]) (t1 := t3) ?_).trans rfl
      simp only [sPut, e4, e3, Rs.fz, Rv.fz, Rs.bind, Rs.bindS, List.getElem?_cons_succ, List.getElem?_cons_zero, ix]
      rw [List.map_set]
      rfl
    · rcases List.mem_or_eq_of_mem_set h with h | rfl
      · exact hc.le c h
      · exact hc.le _ hv
  · rw [decide_eq_false hz] at ec
    exact ⟨cs, t1, (if_no ec).trans rfl, hl, hc, more i (by omega)⟩
end G
end

section
set_option Elab.async false
set_option linter.all false
set_option maxRecDepth 100000
set_option maxHeartbeats 4000000
set_option exponentiation.threshold 2000
namespace G
open PySem PySem.Spec PyProof.Rows L2 DL

theorem wors_small {ws : List Int} (hw : Wors ws) : ∀ w ∈ ws, w.natAbs ≤ 1000 := fun w h => by have := hw.le w h; omega
theorem cont_small {ws : List Int} (hw : Cont ws) : ∀ w ∈ ws, w.natAbs ≤ 1000 := fun w h => by have := hw.le w h; omega
theorem e_law (ns : List Int) (h : ns.length ≤ 63) : ∃ t', f_law [.d (.list (ns.map .int))] none = .ok (.d (.bool true)) t' := by
  obtain ⟨eb, ib⟩ := e_begin ns h
  have J0 : J 0 (some (begSt ns)) := ⟨_, rfl, ib⟩
  generalize some (begSt ns) = t0 at *
  generalize hs0 : PyData.list (ns.map .int) = d0 at *
  suffices key : ∃ t', m_law [.d d0, .un, .un, .un, .un, .un, .un, .un, .un, .un, .un, .un, .un, .un, .un, .un, .un] none = .rt (.bool true) t' by
    obtain ⟨t', e⟩ := key
    exact ⟨t', run_rt (G := [.d d0]) rfl e⟩
  unfold m_law
  refine ex_nx (G1 := [.d d0, .s, .un, .un, .un, .un, .un, .un, .un, .un, .un, .un, .un, .un, .un, .un, .un]) (set_s ((call1 (t1 := none) rfl).trans eb) (Nat.le_of_ble_eq_true rfl)) ?_
  obtain ⟨z, t1, e1, J1, z0, z1⟩ := m_draw (i := 1) (b := mC (.int 3)) (l := 3) (G := [.d d0, .s, .un, .un, .un, .un, .un, .un, .un, .un, .un, .un, .un, .un, .un, .un, .un]) rfl rfl J0 (by decide) (by decide) (by decide)
  have e1' := bin_ok (f := fAdd) (a := mC (.int 2)) (t := t0) (t1 := t0) rfl e1 add_ii
  obtain ⟨m, hmz⟩ := Int.eq_ofNat_of_zero_le (show 0 ≤ 2 + z by omega)
  have hm : m = 2 ∨ m = 3 ∨ m = 4 := by omega
  rw [hmz] at e1'
  have n25 : 2 ≤ (m : Int) ∧ (m : Int) ≤ 5 := by omega
  have n24 : 2 ≤ (m : Int) ∧ (m : Int) ≤ 4 := by omega
  have hm4 : m ≤ 4 := by omega
  refine ex_nx (G1 := [.d d0, .s, .d (.int (m : Int)), .un, .un, .un, .un, .un, .un, .un, .un, .un, .un, .un, .un, .un, .un]) (set_nx e1' (Nat.le_of_ble_eq_true rfl)) ?_
  obtain ⟨lim, hlim, e2⟩ : ∃ lim : Int, (lim = 25 ∨ lim = 7) ∧ mIf (mCmpB fEq (mVar 2) (mC (.int 2))) (mC (.int 25)) (mC (.int 7)) [.d d0, .s, .d (.int (m : Int)), .un, .un, .un, .un, .un, .un, .un, .un, .un, .un, .un, .un, .un, .un] t1 = .ok (.d (.int lim)) t1 := by
    rcases hm with rfl | rfl | rfl
    · exact ⟨25, .inl rfl, rfl⟩
    · exact ⟨7, .inr rfl, rfl⟩
    · exact ⟨7, .inr rfl, rfl⟩
  refine ex_nx (G1 := [.d d0, .s, .d (.int (m : Int)), .d (.int lim), .un, .un, .un, .un, .un, .un, .un, .un, .un, .un, .un, .un, .un]) (set_nx e2 (Nat.le_of_ble_eq_true rfl)) ?_
  obtain ⟨cs0, t2, c1, c2, c3, J2⟩ := lc_st (pt := .nm 16) (elt := mCall 2 f__law_draw [] (mCons (mVar 1) (mCons (mVar 3) (mNil)))) (G0 := [.d d0, .s, .d (.int (m : Int)), .d (.int lim), .un, .un, .un, .un, .un, .un, .un, .un, .un, .un, .un, .un, .un]) (J := J) (V := fun z => 0 ≤ z ∧ z ≤ 24) (N := 100) (items := rangeD 0 m) (acc := []) (k := 0 + 1) (t := t1)
    (by rw [rangeD_len, List.length_nil]; omega) (by rw [rangeD_len]; omega) J1 (fun x hx => ⟨[.d d0, .s, .d (.int (m : Int)), .d (.int lim), .un, .un, .un, .un, .un, .un, .un, .un, .un, .un, .un, .un, .d x], rfl, fun k t hk hJ => by
      obtain ⟨z, t1, e, i, z0, z1⟩ := m_draw (i := 1) (b := mVar 3) (l := lim) (G := [.d d0, .s, .d (.int (m : Int)), .d (.int lim), .un, .un, .un, .un, .un, .un, .un, .un, .un, .un, .un, .un, .d x]) rfl rfl hJ (by omega) (by omega) (by omega)
      exact ⟨z, t1, e, ⟨z0, by omega⟩, i⟩⟩)
  rw [rangeD_len] at c2 J2
  have hc0 : Cont cs0 := ⟨c3⟩
  have lc : mLc (mRange1 (mVar 2)) (.nm 16) none (mCall 2 f__law_draw [] (mCons (mVar 1) (mCons (mVar 3) (mNil)))) [16] [.d d0, .s, .d (.int (m : Int)), .d (.int lim), .un, .un, .un, .un, .un, .un, .un, .un, .un, .un, .un, .un, .un] t1 = .ok (.l (cs0.map .int)) t2 := by
    unfold mLc
    rw [if_pos (by decide), range_ok (n := m) (t := t1) rfl (by omega)]
    exact c1
  refine ex_nx (G1 := [.d d0, .s, .d (.int (m : Int)), .d (.int lim), .l (cs0.map .int), .un, .un, .un, .un, .un, .un, .un, .un, .un, .un, .un, .un]) (set_l lc (Nat.le_of_ble_eq_true rfl)) ?_
  obtain ⟨cs, t3, ep, hl, hc, J3⟩ := put_step hm c2 hc0 (s0 := .d d0) (s3 := .d (.int lim)) J2 (by omega)
  refine ex_nx ep ?_
  refine ex_nx (G1 := [.d d0, .s, .d (.int (m : Int)), .d (.int lim), .d (.tuple (cs.map .int)), .un, .un, .un, .un, .un, .un, .un, .un, .un, .un, .un, .un]) (set_nx (tup_b (t1 := t3) (var_l rfl)) (Nat.le_of_ble_eq_true rfl)) ?_
  have hl' : (cs.length : Int) = m := by omega
  obtain ⟨ws, t4, ew, hwl, hw, J4⟩ := e_lworths n24 J3 (by omega)
  refine ex_nx (G1 := [.d d0, .s, .d (.int (m : Int)), .d (.int lim), .d (.tuple (cs.map .int)), .d (.tuple (ws.map .int)), .un, .un, .un, .un, .un, .un, .un, .un, .un, .un, .un]) (set_nx ((call3s (t1 := t3) (t2 := t3) (var_s rfl) rfl neg_ok).trans ew) (Nat.le_of_ble_eq_true rfl)) ?_
  have shW : Sh (.tuple (ws.map .int)) 1 6000 := sh_tupI (wors_small hw) (by omega)
  have hwn : ws.length ≤ 4 := by omega
  -- need_worths
  refine ex_if (t1 := t4) (like_no (t1 := t4) ((call2 (t1 := t4) (t2 := t4) rfl rfl).trans (e_worths n25 hwl hw t4)) (var_d rfl) rfl shW (by decide) (by decide)) ?_
  -- product_at
  have bp : (pv cs ws).natAbs < 2 ^ 1000 := Nat.lt_of_le_of_lt (pv_le hc hw (by omega)) one_big
  have shP := sh_int bp
  have epr := e_prod (x := .tuple (cs.map .int)) (y := .tuple (ws.map .int)) rfl rfl hc hw (by omega) t4
  have epa := e_pat n25 hl' hwl hc hw t4
  clear bp
  generalize pv cs ws = vp at *
  refine ex_iff (t1 := t4) rfl (like_no (t1 := t4) ((call3 (t1 := t4) (t2 := t4) (t3 := t4) rfl rfl rfl).trans epa) ((call2 (t1 := t4) (t2 := t4) rfl rfl).trans epr) rfl shP (by decide) (by decide)) ?_
  -- even_sum
  obtain ⟨r24, roks⟩ := rowsL_ok hc (by omega) (by omega)
  have roks' : ∀ r ∈ rowsL cs, Cont r ∧ r.length ≤ 5 := fun r hr => ⟨(roks r hr).1, by rw [(roks r hr).2]; omega⟩
  have shE := sh_int (sumV_lt roks' hw r24)
  have eev := e_even hc hw (by omega) (by omega) t4
  rw [evenV_eq] at eev
  have es0 := e_esum n24 hl' hwl hc hw false t4
  have es1 := e_esum n24 hl' hwl hc hw true t4
  have dl := @ddI_le ⟨[]⟩ (rowsL cs) []
  have shU := sh_int (sumV_lt (nss := ddI [] (rowsL cs)) (fun r hr => by
    rcases ddI_mem _ _ r hr with z | z
    · cases z
    · exact roks' r z) hw (by simp at dl; omega))
  have eun := e_unlike hc hw (by omega) (by omega) t4
  simp only [Bool.false_eq_true, if_false, if_true] at es0 es1
  generalize sumV (ddI [] (rowsL cs)) ws = vu at *
  generalize sumV (rowsL cs) ws = vs at *
  refine ex_nx (G1 := [.d d0, .s, .d (.int (m : Int)), .d (.int lim), .d (.tuple (cs.map .int)), .d (.tuple (ws.map .int)), .d (.int vs), .un, .un, .un, .un, .un, .un, .un, .un, .un, .un]) ((frz_d (x := .tuple (cs.map .int)) rfl).trans (set_nx ((call2 (t1 := t4) (t2 := t4) rfl rfl).trans eev) (Nat.le_of_ble_eq_true rfl))) ?_
  refine ex_iff (t1 := t4) (y := .tuple (cs.map .int)) rfl ((or_no (like_no (t1 := t4) ((call3d (t1 := t4) (t2 := t4) (t3 := t4) rfl rfl rfl).trans es0) (var_d rfl) rfl shE (by decide) (by decide))).trans
    (like_no (t1 := t4) ((callk (t1 := t4) (t2 := t4) (t3 := t4) (t4 := t4) rfl rfl rfl rfl).trans es0) (var_d rfl) rfl shE (by decide) (by decide))) ?_
  refine ex_iff (t1 := t4) (y := .tuple (cs.map .int)) rfl (like_no (t1 := t4) ((callk (t1 := t4) (t2 := t4) (t3 := t4) (t4 := t4) rfl rfl rfl rfl).trans es1) ((call2 (t1 := t4) (t2 := t4) rfl rfl).trans eun) rfl shU (by decide) (by decide)) ?_
  -- total
  obtain ⟨z7, t5, e7, J5, z70, z71⟩ := m_draw (i := 1) (b := mC (.int 7)) (l := 7) (G := [.d d0, .s, .d (.int (m : Int)), .d (.int lim), .d (.tuple (cs.map .int)), .d (.tuple (ws.map .int)), .d (.int vs), .un, .un, .un, .un, .un, .un, .un, .un, .un, .un]) rfl rfl J4 (by omega) (by decide) (by decide)
  obtain ⟨k, rfl⟩ := Int.eq_ofNat_of_zero_le z70
  have hk : k ≤ 6 := by omega
  refine ex_nx (G1 := [.d d0, .s, .d (.int (m : Int)), .d (.int lim), .d (.tuple (cs.map .int)), .d (.tuple (ws.map .int)), .d (.int vs), .d (.int (k : Int)), .un, .un, .un, .un, .un, .un, .un, .un, .un]) (set_nx e7 (Nat.le_of_ble_eq_true rfl)) ?_
  refine ex_nx (t1 := t5) (G1 := [.d d0, .s, .d (.int (m : Int)), .d (.int lim), .d (.tuple (cs.map .int)), .d (.tuple (ws.map .int)), .d (.int vs), .d (.int (k : Int)), .l [], .un, .un, .un, .un, .un, .un, .un, .un]) rfl ?_
  obtain ⟨y9, edue⟩ := due_loop hm hk (s0 := .d d0) (s1 := .s) (s3 := .d (.int lim)) (s4 := .d (.tuple (cs.map .int))) (s5 := .d (.tuple (ws.map .int))) (s6 := .d (.int vs)) (s9 := .un) (s10 := .un) (s11 := .un) (s12 := .un) (s13 := .un) (s14 := .un) (s15 := .un) (s16 := .un) t5
  refine ex_nx edue ?_
  have ete := e_test hm (show k = 0 ∨ k = 1 ∨ k = 2 ∨ k = 3 ∨ k = 4 ∨ k = 5 ∨ k = 6 by omega) t5
  have shF := sh_faL (n := m) (k := k) (by simpa using hm) (by simp; omega)
  generalize (faL m k).map tupI = due at *
  refine ex_nx (t1 := t5) (G1 := [.d d0, .s, .d (.int (m : Int)), .d (.int lim), .d (.tuple (cs.map .int)), .d (.tuple (ws.map .int)), .d (.int vs), .d (.int (k : Int)), .d (.list due), y9, .un, .un, .un, .un, .un, .un, .un]) ((if_no (G := [.d d0, .s, .d (.int (m : Int)), .d (.int lim), .d (.tuple (cs.map .int)), .d (.tuple (ws.map .int)), .d (.int vs), .d (.int (k : Int)), .d (.list due), y9, .un, .un, .un, .un, .un, .un, .un]) (t := t5) (t1 := t5) (like_no (t1 := t5) ((call2 (t1 := t5) (t2 := t5) rfl rfl).trans ete) (var_d rfl) rfl shF (by decide) (by decide))).trans rfl) ?_
  -- the odd things
  obtain ⟨oN, t6, e10, J6, m10⟩ := e_of (ds := [.int 1, .int 6, .bool true, .str "2", .none]) (by decide) (by decide) J5 (by omega)
  have hN : OddN oN := by
    simp only [List.mem_cons, List.not_mem_nil, or_false] at m10
    exact m10
  refine ex_nx (G1 := [.d d0, .s, .d (.int (m : Int)), .d (.int lim), .d (.tuple (cs.map .int)), .d (.tuple (ws.map .int)), .d (.int vs), .d (.int (k : Int)), .d (.list due), y9, .d oN, .un, .un, .un, .un, .un, .un]) (set_nx ((call2sl (t1 := t5) (t2 := t5) (var_s rfl) (lst_ok (ds := [.int 1, .int 6, .bool true, .str "2", .none]) rfl (by decide))).trans e10) (Nat.le_of_ble_eq_true rfl)) ?_
  obtain ⟨oC, t7, e11, J7, m11⟩ := e_of (ds := odds cs 0 (-1) 25 true) (Nat.le_of_ble_eq_true rfl) (Nat.le_of_ble_eq_true rfl) J6 (by omega)
  have hC := oddc_all n25 hl' hc oC m11
  have sC := sh_odds (by omega) (cont_small hc) (by decide) (by decide) (by decide) oC m11
  refine ex_nx (G1 := [.d d0, .s, .d (.int (m : Int)), .d (.int lim), .d (.tuple (cs.map .int)), .d (.tuple (ws.map .int)), .d (.int vs), .d (.int (k : Int)), .d (.list due), y9, .d oN, .d oC, .un, .un, .un, .un, .un]) (set_nx ((call2sl (t1 := t6) (t2 := t6) (var_s rfl) (odds_ok (by omega) (by omega) rfl neg_ok rfl)).trans e11) (Nat.le_of_ble_eq_true rfl)) ?_
  obtain ⟨oW, t8, e12, J8, m12⟩ := e_of (ds := odds ws 1 101 (-101) false) (Nat.le_of_ble_eq_true rfl) (Nat.le_of_ble_eq_true rfl) J7 (by omega)
  have hW := oddw_all n25 hwl hw oW m12
  have sW := sh_odds hwn (wors_small hw) (by decide) (by decide) (by decide) oW m12
  refine ex_nx (G1 := [.d d0, .s, .d (.int (m : Int)), .d (.int lim), .d (.tuple (cs.map .int)), .d (.tuple (ws.map .int)), .d (.int vs), .d (.int (k : Int)), .d (.list due), y9, .d oN, .d oC, .d oW, .un, .un, .un, .un]) (set_nx ((call2sl (t1 := t7) (t2 := t7) (var_s rfl) (odds_ok (by omega) hwn rfl rfl neg_ok)).trans e12) (Nat.le_of_ble_eq_true rfl)) ?_
  obtain ⟨oT, t9, e13, J9, m13⟩ := e_of (ds := [.int (-1), .int 13, .bool true, .str "3", .none]) (by decide) (by decide) J8 (by omega)
  have hT : OddT oT := by
    simp only [List.mem_cons, List.not_mem_nil, or_false] at m13
    exact m13
  refine ex_nx (G1 := [.d d0, .s, .d (.int (m : Int)), .d (.int lim), .d (.tuple (cs.map .int)), .d (.tuple (ws.map .int)), .d (.int vs), .d (.int (k : Int)), .d (.list due), y9, .d oN, .d oC, .d oW, .d oT, .un, .un, .un]) (set_nx ((call2sl (t1 := t8) (t2 := t8) (var_s rfl) (lst_ok (ds := [.int (-1), .int 13, .bool true, .str "3", .none]) rfl (by decide))).trans e13) (Nat.le_of_ble_eq_true rfl)) ?_
  obtain ⟨y14, y15, eask⟩ := ask_loop hm rfl hl' hc hN hC hW sC sW t9 (T := oT) (s0 := .d d0) (s1 := .s) (s3 := .d (.int lim)) (s5 := .d (.tuple (ws.map .int))) (s6 := .d (.int vs)) (s7 := .d (.int (k : Int))) (s8 := .d (.list due)) (s9 := y9) (s14 := .un) (s15 := .un) (s16 := .un)
  refine ex_nx eask ?_
  refine ⟨t9, ?_⟩
  refine seq_rt ((frz_d (x := .tuple (cs.map .int)) rfl).trans ?_)
  have el := asked_last n25 (C := .tuple (cs.map .int)) (W := .tuple (ws.map .int)) hT t9
  have fin := like_t (a := mCall 5 f__law_asked [] (mCons (mC (.int 3)) (mCons (mVar 2) (mCons (mVar 4) (mCons (mVar 5) (mCons (mVar 13) (mNil))))))) (b := mLst (mCons (mC (.str "BadTotal")) (mCons (mVar 13) (mNil)))) (G := [.d d0, .s, .d (.int (m : Int)), .d (.int lim), .d (.tuple (cs.map .int)), .d (.tuple (ws.map .int)), .d (.int vs), .d (.int (k : Int)), .d (.list due), y9, .d oN, .d oC, .d oW, .d oT, y14, y15, .un]) (t := t9) (t1 := t9) (t2 := t9) ((call5 (t1 := t9) (t2 := t9) (t3 := t9) (t4 := t9) (t5 := t9) rfl rfl rfl rfl rfl).trans el) (pair_l rfl) rfl (sh_pair sh_total (sh_oddt hT) (Nat.le_refl _) (Nat.le_refl _)) (by decide) (by decide)
  simp only [sRet, fin, Rs.fz, Rs.bind, Rv.fz, Rs.bindS]
end G
end

section
set_option Elab.async false
set_option linter.all false
set_option maxRecDepth 100000
set_option maxHeartbeats 0
open PySem PySem.W PySem.Calls PyProof.Rows
theorem G.holds (law : ∀ (_ : DL.Tbs) (ns : List Int), ns.length ≤ 63 → ∃ t', G.f_law [.d (.list (ns.map .int))] none = .ok (.d (.bool true)) t') : PySem.Challenge.rw_unithouse_k52_products_and_orders.Holds := by
  w_on; o_law
  refine HandSHeadRun.head_any (r := G.R) (q := view G.R.prog [39]) (H := G.hk) (ob := G.ob) (M := 2400) (loose := G.loose) (d := HandSHeadRun.topDef G.R.prog 39) (kwd := []) DL.obT_eq
    (by kernel_rfl) (fun s => by kernel_rfl) G.run (by kernel_rfl) (by kernel_rfl) (by kernel_rfl) (by rfl) (by first | assumption | decide +kernel) (by decide +kernel) ⟨rfl, rfl, rfl, rfl, rfl, by decide +kernel⟩ ?hw ?hc
  case hw => w_witness2
  case hc =>
    exact DL.walkC (l := PySem.Challenge.rw_unithouse_k52_products_and_orders) (n := 63) (k := 8) (z := "_law_script") (i := 26) (f := G.f_law) rfl (by decide) (by kernel_rfl) ⟨rfl, by decide, by decide⟩ (by kernel_rfl) rfl (List.mem_of_getElem? (i := 46) rfl)
      (fun _ _ _ _ _ _ us hl => match us, hl with | [_], _ => rfl) law (fun I w K mg base fd T F => G.g_law T F)
end

theorem PySem.Challenge.cw_unithouse_k52_products_and_orders_holds : PySem.Challenge.rw_unithouse_k52_products_and_orders.Holds :=
  G.holds fun _ ns h => G.e_law ns h
