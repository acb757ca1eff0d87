import PyProof.Rows.All
import Wide.All
import OpenK.AllK
import Wide.FinOn
import KE.KStateDown
import Lean
import HandS.ForMost
import HandS.Exc
import HandS.TryOnly
import HandS.ExcOwn
import HandS.WordsExc
import HandS.Lambda
import HandS.Wide
import HandS.WideBits
import HandS.TupMul
import HandS.TupAny
import HandS.Flow
import HandS.IsInst
import HandS.Deep
import HandS.Conv
import HandS.SortRule
import HandS.SortInts
import HandS.Head0
import HandS.Head1
import HandS.Head2
import HandS.HeadEnd
import HandS.HeadHook1
import HandS.HeadHook2
import HandS.HeadHook3
import HandS.HeadHook4
import HandS.HeadWalk
import HandS.EndTab
import HandS.Defaults
import HandS.Text
import HandS.More
import KE.SortData
import KE.DataMinMax
import HandS.Walk
import HandS.TupLe
import HandS.TupSets
import KE.KeyNested
import KE.KDictCopyH
import HandS.Zip
import PySem.Challenge.RW_denselines_k20_whole_kinds
set_option Elab.async false
set_option linter.all false
set_option maxRecDepth 100000
section
namespace Py
open PySem PySem.Spec PyProof.Rows L2 LamX

/-! ### data -/
inductive D where
  | non | bl (b : Bool) | int (i : Int) | str (x : Str) | tup (l : List D) | lst (l : List D) | dic (ks : List Key) (vs : List D) | scr (l : List Int)

mutual
def Rep (K : PySem.W.Frag) (H : Hp) : D → V → Prop
  | .non, v => v = .non
  | .bl b, v => v = .bl b
  | .int i, v => v = .int i
  | .str x, v => PyData.strOk x = true ∧ x.length ≤ sizeLine ∧ v = .str x
  | .tup l, v => l.length ≤ sizeLine ∧ ∃ a xs, v = .ref a ∧ SqT K H a xs ∧ Reps K H l xs
  | .lst l, v => l.length ≤ sizeLine ∧ ∃ a xs, v = .ref a ∧ H a = some (.lst xs) ∧ Reps K H l xs
  | .dic ks vs, v => ∃ a kvs, v = .ref a ∧ H a = some (.dK kvs) ∧ kvs.map (·.1) = ks ∧ Reps K H vs (kvs.map (·.2))
  | .scr l, v => l.length ≤ sizeLine ∧ ∃ a, v = .ref a ∧ SqL K H a (l.map V.int)
def Reps (K : PySem.W.Frag) (H : Hp) : List D → List V → Prop
  | [], vs => vs = []
  | d :: ds, vs => ∃ v r, vs = v :: r ∧ Rep K H d v ∧ Reps K H ds r
end

/-- what a result is: shared, fresh (a list, a dict that none else has), borrowed (the list, the dict of a name) -/
inductive Md where | sh | fr | bo
  deriving DecidableEq

def hide (H : Hp) (Z : Addr → Bool) : Hp := fun a => if Z a then none else H a
def FreshAt (H : Hp) (a : Addr) : Prop := H a = none ∨ ∃ ps, H a = some (.tbl ps)
def Zs (Z : Addr → Bool) (a : Addr) : Addr → Bool := fun b => Z b || decide (b = a)

def OwnAt (K : PySem.W.Frag) (G H : Hp) (a : Addr) : D → Prop
  | .lst l => l.length ≤ sizeLine ∧ ∃ xs, H a = some (.lst xs) ∧ Reps K G l xs
  | .dic ks vs => ∃ kvs, H a = some (.dK kvs) ∧ kvs.map (·.1) = ks ∧ Reps K G vs (kvs.map (·.2))
  | _ => False
def RepB (K : PySem.W.Frag) (G H : Hp) : D → V → Prop
  | .lst l, v => ∃ a, v = .ref a ∧ OwnAt K G H a (.lst l)
  | .dic ks vs, v => ∃ a, v = .ref a ∧ OwnAt K G H a (.dic ks vs)
  | d, v => Rep K G d v
def RepV (K : PySem.W.Frag) (Z : Addr → Bool) (H H' : Hp) (m : Md) (d : D) (v : V) : Prop :=
  match m with
  | .sh => Rep K (hide H' Z) d v
  | .fr => ∃ a, v = .ref a ∧ FreshAt H a ∧ OwnAt K (hide H' (Zs Z a)) H' a d
  | .bo => RepB K (hide H' Z) H' d v
def RepBs (K : PySem.W.Frag) (G H : Hp) : List D → List V → Prop
  | [], vs => vs = []
  | d :: ds, vs => ∃ v r, vs = v :: r ∧ RepB K G H d v ∧ RepBs K G H ds r

/-! ### heaps that grow -/
abbrev Tb := List (Addr × Str)
structure Ext (T : Tb) (H H' : Hp) : Prop where
  ext : ExtN H H'
  tabs : Tabs T H'
theorem Ext.trans {T : Tb} {H H1 H2 : Hp} (a : Ext T H H1) (b : Ext T H1 H2) : Ext T H H2 := ⟨a.ext.trans b.ext, b.tabs⟩
theorem Ext.refl {T : Tb} {H : Hp} (t : Tabs T H) : Ext T H H := ⟨ExtN.refl H, t⟩
theorem FreshAt.back {H H' : Hp} {a : Addr} (e : ExtN H H') (f : FreshAt H' a) : FreshAt H a := by
  cases q : H a with
  | none => exact .inl q
  | some o =>
    by_cases t : ∃ ps, o = .tbl ps
    · obtain ⟨ps, rfl⟩ := t; exact .inr ⟨ps, q⟩
    · have z := e a o q fun ps h => t ⟨ps, h⟩
      rcases f with f | ⟨ps, f⟩
      · rw [f] at z; cases z
      · rw [f] at z; cases z; exact (t ⟨ps, rfl⟩).elim
theorem hide_of {H : Hp} {Z : Addr → Bool} {a : Addr} (h : Z a = false) : hide H Z a = H a := by unfold hide; rw [h]; rfl
theorem hide_some {H : Hp} {Z : Addr → Bool} {a : Addr} {o : HO} (h : hide H Z a = some o) : Z a = false ∧ H a = some o := by
  unfold hide at h
  cases q : Z a with
  | true => rw [q] at h; cases h
  | false => rw [q] at h; exact ⟨rfl, h⟩
theorem exHide {H H' : Hp} {Z : Addr → Bool} (e : ExtN H H') : ExtN (hide H Z) (hide H' Z) := fun b o h n => by
  obtain ⟨h1, h2⟩ := hide_some h
  rw [hide_of h1]; exact e b o h2 n
theorem exUnhide {H : Hp} {Z : Addr → Bool} : ExtN (hide H Z) H := fun b o h n => (hide_some h).2
theorem exLess {H : Hp} {Z Z' : Addr → Bool} (s : ∀ a, Z' a = true → Z a = true) : ExtN (hide H Z) (hide H Z') := fun b o h n => by
  obtain ⟨h1, h2⟩ := hide_some h
  cases q : Z' b with
  | true => rw [s b q] at h1; cases h1
  | false => rw [hide_of q]; exact h2
/-- an address that none has is hidden from none -/
theorem exZs {H : Hp} {Z : Addr → Bool} {a : Addr} (f : FreshAt H a) : ExtN (hide H Z) (hide H (Zs Z a)) := fun b o h n => by
  obtain ⟨h1, h2⟩ := hide_some h
  have ne : b ≠ a := fun e => by
    subst e
    rcases f with f | ⟨ps, f⟩
    · rw [f] at h2; cases h2
    · rw [f] at h2; cases h2; exact n ps rfl
  have z : Zs Z a b = false := by unfold Zs; rw [h1]; simp [ne]
  rw [hide_of z]; exact h2

theorem Rd.ext {H H' : Hp} {a : Addr} {u : HO} (e : ExtN H H') (n : ∀ ps, u ≠ .tbl ps) (r : Rd H a u) : Rd H' a u := by
  rcases r with r | ⟨o, r⟩
  · exact .inl (e a u r n)
  · exact .inr ⟨o, e a _ r fun ps => by intro h; cases h⟩
theorem SqT.ext {K : PySem.W.Frag} {H H' : Hp} {a : Addr} {xs : List V} (e : ExtN H H') (h : SqT K H a xs) : SqT K H' a xs := by
  rcases h with h | h
  · exact .inl (Rd.ext e (fun ps h => by cases h) h)
  · exact .inr h
theorem SqL.ext {K : PySem.W.Frag} {H H' : Hp} {a : Addr} {xs : List V} (e : ExtN H H') (h : SqL K H a xs) : SqL K H' a xs := by
  rcases h with h | h
  · exact .inl (Rd.ext e (fun ps h => by cases h) h)
  · exact .inr h
mutual
theorem Rep.ext {K : PySem.W.Frag} {H H' : Hp} (e : ExtN H H') : ∀ (d : D) (v : V), Rep K H d v → Rep K H' d v
  | .non, v, h => h
  | .bl b, v, h => h
  | .int i, v, h => h
  | .str x, v, h => h
  | .tup l, v, h => by
    obtain ⟨z, a, xs, e1, h1, h2⟩ := h
    exact ⟨z, a, xs, e1, SqT.ext e h1, Reps.ext e l xs h2⟩
  | .lst l, v, h => by
    obtain ⟨z, a, xs, e1, h1, h2⟩ := h
    exact ⟨z, a, xs, e1, e a _ h1 (fun ps q => by cases q), Reps.ext e l xs h2⟩
  | .dic ks vs, v, h => by
    obtain ⟨a, kvs, e1, h1, h3, h2⟩ := h
    exact ⟨a, kvs, e1, e a _ h1 (fun ps q => by cases q), h3, Reps.ext e vs _ h2⟩
  | .scr l, v, h => by
    obtain ⟨z, a, e1, h1⟩ := h
    exact ⟨z, a, e1, SqL.ext e h1⟩
theorem Reps.ext {K : PySem.W.Frag} {H H' : Hp} (e : ExtN H H') : ∀ (ds : List D) (vs : List V), Reps K H ds vs → Reps K H' ds vs
  | [], vs, h => h
  | d :: ds, vs, h => by
    obtain ⟨v, r, e1, h1, h2⟩ := h
    exact ⟨v, r, e1, Rep.ext e d v h1, Reps.ext e ds r h2⟩
end
theorem Reps.length {K : PySem.W.Frag} {H : Hp} : ∀ {ds : List D} {vs : List V}, Reps K H ds vs → vs.length = ds.length
  | [], vs, h => by rw [show vs = [] from h]; rfl
  | d :: ds, vs, h => by
    obtain ⟨v, r, e1, h1, h2⟩ := h
    rw [e1, List.length_cons, List.length_cons, Reps.length h2]
theorem Reps.append {K : PySem.W.Frag} {H : Hp} : ∀ {ds es : List D} {vs ws : List V}, Reps K H ds vs → Reps K H es ws → Reps K H (ds ++ es) (vs ++ ws)
  | [], es, vs, ws, h, h' => by rw [show vs = [] from h]; exact h'
  | d :: ds, es, vs, ws, h, h' => by
    obtain ⟨v, r, e1, h1, h2⟩ := h
    rw [e1]
    exact ⟨v, r ++ ws, rfl, h1, Reps.append h2 h'⟩
theorem Reps.get {K : PySem.W.Frag} {H : Hp} : ∀ {ds : List D} {vs : List V} {i : Nat} {d : D}, Reps K H ds vs → ds[i]? = some d → ∃ v, vs[i]? = some v ∧ Rep K H d v
  | [], vs, i, d, h, e => by simp at e
  | d0 :: ds, vs, 0, d, h, e => by
    obtain ⟨v, r, e1, h1, h2⟩ := h
    simp at e; subst e
    exact ⟨v, by rw [e1]; rfl, h1⟩
  | d0 :: ds, vs, i + 1, d, h, e => by
    obtain ⟨v, r, e1, h1, h2⟩ := h
    obtain ⟨u, q1, q2⟩ := Reps.get h2 (by simpa using e)
    exact ⟨u, by rw [e1]; simpa using q1, q2⟩
theorem Reps.getV {K : PySem.W.Frag} {H : Hp} : ∀ {ds : List D} {vs : List V} {i : Nat} {v : V}, Reps K H ds vs → vs[i]? = some v → ∃ d, ds[i]? = some d ∧ Rep K H d v := by
  intro ds vs i v h e
  have hl := h.length
  have hi : i < ds.length := by
    rw [← hl]
    by_cases q : i < vs.length
    · exact q
    · rw [List.getElem?_eq_none (by omega)] at e; cases e
  obtain ⟨u, q1, q2⟩ := h.get (i := i) (d := ds[i]) (by simp [hi])
  rw [e] at q1; cases q1
  exact ⟨ds[i], by simp [hi], q2⟩
theorem Reps.drop {K : PySem.W.Frag} {H : Hp} : ∀ {ds : List D} {vs : List V} (n : Nat), Reps K H ds vs → Reps K H (ds.drop n) (vs.drop n)
  | ds, vs, 0, h => h
  | [], vs, n + 1, h => by rw [show vs = [] from h]; rfl
  | d :: ds, vs, n + 1, h => by
    obtain ⟨v, r, e1, h1, h2⟩ := h
    rw [e1]; exact Reps.drop n h2
theorem Reps.take {K : PySem.W.Frag} {H : Hp} : ∀ {ds : List D} {vs : List V} (n : Nat), Reps K H ds vs → Reps K H (ds.take n) (vs.take n)
  | ds, vs, 0, h => by rw [List.take_zero, List.take_zero]; rfl
  | [], vs, n + 1, h => by rw [show vs = [] from h]; rfl
  | d :: ds, vs, n + 1, h => by
    obtain ⟨v, r, e1, h1, h2⟩ := h
    rw [e1]; exact ⟨v, r.take n, rfl, h1, Reps.take n h2⟩
theorem OwnAt.ext {K : PySem.W.Frag} {G G' H H' : Hp} {a : Addr} {d : D} (g : ExtN G G') (e : ExtN H H') (h : OwnAt K G H a d) : OwnAt K G' H' a d := by
  cases d with
  | lst l =>
    obtain ⟨z, xs, h1, h2⟩ := h
    exact ⟨z, xs, e a _ h1 (fun ps q => by cases q), Reps.ext g l xs h2⟩
  | dic ks vs =>
    obtain ⟨kvs, h1, h3, h2⟩ := h
    exact ⟨kvs, e a _ h1 (fun ps q => by cases q), h3, Reps.ext g vs _ h2⟩
  | _ => exact False.elim h
theorem RepB.ext {K : PySem.W.Frag} {G G' H H' : Hp} {v : V} {d : D} (g : ExtN G G') (e : ExtN H H') (h : RepB K G H d v) : RepB K G' H' d v := by
  cases d with
  | lst l =>
    obtain ⟨a, e1, h1⟩ := h
    exact ⟨a, e1, h1.ext g e⟩
  | dic ks vs =>
    obtain ⟨a, e1, h1⟩ := h
    exact ⟨a, e1, h1.ext g e⟩
  | non => exact Rep.ext g _ v h
  | bl b => exact Rep.ext g _ v h
  | int i => exact Rep.ext g _ v h
  | str x => exact Rep.ext g _ v h
  | tup l => exact Rep.ext g _ v h
  | scr l => exact Rep.ext g _ v h
theorem RepBs.ext {K : PySem.W.Frag} {G G' H H' : Hp} (g : ExtN G G') (e : ExtN H H') : ∀ {ds : List D} {vs : List V}, RepBs K G H ds vs → RepBs K G' H' ds vs
  | [], vs, h => h
  | d :: ds, vs, h => by
    obtain ⟨v, r, e1, h1, h2⟩ := h
    exact ⟨v, r, e1, h1.ext g e, h2.ext g e⟩
/-- a shared one as a borrowed one -/
theorem Rep.b {K : PySem.W.Frag} {G H : Hp} {v : V} {d : D} (e : ExtN G H) (h : Rep K G d v) : RepB K G H d v := by
  cases d with
  | lst l =>
    obtain ⟨z, a, xs, e1, h1, h2⟩ := h
    exact ⟨a, e1, z, xs, e a _ h1 (fun ps q => by cases q), h2⟩
  | dic ks vs =>
    obtain ⟨a, kvs, e1, h1, h3, h2⟩ := h
    exact ⟨a, e1, kvs, e a _ h1 (fun ps q => by cases q), h3, h2⟩
  | _ => exact h
theorem RepB.rep {K : PySem.W.Frag} {G H : Hp} {v : V} {d : D} (e : ExtN G H) (h : RepB K G H d v) : Rep K H d v := by
  cases d with
  | lst l =>
    obtain ⟨a, e1, z, xs, h1, h2⟩ := h
    exact ⟨z, a, xs, e1, h1, Reps.ext e _ _ h2⟩
  | dic ks vs =>
    obtain ⟨a, e1, kvs, h1, h3, h2⟩ := h
    exact ⟨a, kvs, e1, h1, h3, Reps.ext e _ _ h2⟩
  | non => exact Rep.ext e _ v h
  | bl b => exact Rep.ext e _ v h
  | int i => exact Rep.ext e _ v h
  | str x => exact Rep.ext e _ v h
  | tup l => exact Rep.ext e _ v h
  | scr l => exact Rep.ext e _ v h
theorem OwnAt.b {K : PySem.W.Frag} {G H : Hp} {a : Addr} {d : D} (h : OwnAt K G H a d) : RepB K G H d (.ref a) := by
  cases d with
  | lst l => exact ⟨a, rfl, h⟩
  | dic ks vs => exact ⟨a, rfl, h⟩
  | _ => exact False.elim h
theorem zs_sub {Z : Addr → Bool} {a : Addr} : ∀ b, Z b = true → Zs Z a b = true := fun b h => by unfold Zs; rw [h]; rfl
theorem zs_self {Z : Addr → Bool} {a : Addr} : Zs Z a a = true := by unfold Zs; simp
theorem RepV.b {K : PySem.W.Frag} {Z : Addr → Bool} {H H' : Hp} {m : Md} {d : D} {v : V} (h : RepV K Z H H' m d v) : RepB K (hide H' Z) H' d v := by
  cases m with
  | sh => exact Rep.b exUnhide h
  | fr =>
    obtain ⟨a, rfl, f, o⟩ := h
    exact OwnAt.b (o.ext (exLess zs_sub) (ExtN.refl _))
  | bo => exact h
/-- what may be kept -/
theorem RepV.sh {K : PySem.W.Frag} {Z : Addr → Bool} {H H' : Hp} {m : Md} {d : D} {v : V} (h : RepV K Z H H' m d v) (hm : m ≠ .bo) (hz : ∀ a, Z a = true → ¬ FreshAt H a) : Rep K (hide H' Z) d v := by
  cases m with
  | sh => exact h
  | fr =>
    obtain ⟨a, rfl, f, o⟩ := h
    have za : Z a = false := by
      cases q : Z a with
      | true => exact (hz a q f).elim
      | false => rfl
    have o2 := o.ext (G' := hide H' Z) (exLess zs_sub) (ExtN.refl _)
    cases d with
    | lst l =>
      obtain ⟨z, xs, h1, h2⟩ := o2
      exact ⟨z, a, xs, rfl, by rw [hide_of za]; exact h1, h2⟩
    | dic ks vs =>
      obtain ⟨kvs, h1, h3, h2⟩ := o2
      exact ⟨a, kvs, rfl, by rw [hide_of za]; exact h1, h3, h2⟩
    | _ => exact False.elim o
  | bo => exact (hm rfl).elim
theorem RepV.ext {K : PySem.W.Frag} {Z : Addr → Bool} {H H1 H2 : Hp} {m : Md} {d : D} {v : V} (h : RepV K Z H H1 m d v) (e : ExtN H1 H2) : RepV K Z H H2 m d v := by
  cases m with
  | sh => exact Rep.ext (exHide e) d v h
  | fr =>
    obtain ⟨a, rfl, f, o⟩ := h
    exact ⟨a, rfl, f, o.ext (exHide e) e⟩
  | bo => exact RepB.ext (exHide e) e h
theorem RepV.from {K : PySem.W.Frag} {Z : Addr → Bool} {H H1 H2 : Hp} {m : Md} {d : D} {v : V} (h : RepV K Z H1 H2 m d v) (e : ExtN H H1) : RepV K Z H H2 m d v := by
  cases m with
  | sh => exact h
  | fr =>
    obtain ⟨a, rfl, f, o⟩ := h
    exact ⟨a, rfl, f.back e, o⟩
  | bo => exact h

/-! ### results -/
inductive RR (α : Type) where
  | ok (a : α) | ex (c : Str) | bad
def RR.bind {α β : Type} (x : RR α) (f : α → RR β) : RR β := match x with
  | .ok a => f a
  | .ex c => .ex c
  | .bad => .bad
instance : Monad RR where
  pure := RR.ok
  bind := RR.bind
@[simp] theorem RR.bind_ok {α β : Type} (a : α) (f : α → RR β) : (RR.ok a >>= f) = f a := rfl
@[simp] theorem RR.bind_ex {α β : Type} (c : Str) (f : α → RR β) : ((RR.ex c : RR α) >>= f) = .ex c := rfl
@[simp] theorem RR.bind_bad {α β : Type} (f : α → RR β) : ((RR.bad : RR α) >>= f) = .bad := rfl
@[simp] theorem RR.pure_ok {α : Type} (a : α) : (pure a : RR α) = .ok a := rfl
def RR.of {α : Type} : Option α → RR α
  | some a => .ok a
  | none => .bad

/-! ### the names -/
abbrev Env := List (Option (Bool × D))
def SlotOk (K : PySem.W.Frag) (Z : Addr → Bool) (H : Hp) (s : Bool × D) (v : V) : Prop :=
  if s.1 = true then ∃ a, v = .ref a ∧ Z a = true ∧ OwnAt K (hide H Z) H a s.2 else Rep K (hide H Z) s.2 v
structure StE (K : PySem.W.Frag) (T : Tb) (Z : Addr → Bool) (σ : L2.St) (H : Hp) (ρ : Env) : Prop where
  slot : ∀ (i : Nat) (s : Bool × D), ρ[i]? = some (some s) → ∃ v, σ[i]? = some (some v) ∧ SlotOk K Z H s v
  dist : ∀ (i j : Nat) (a : Addr) (d e : D), ρ[i]? = some (some (true, d)) → ρ[j]? = some (some (true, e)) → σ[i]? = some (some (.ref a)) → σ[j]? = some (some (.ref a)) → i = j
  zdom : ∀ a, Z a = true → ¬ FreshAt H a
  tabs : Tabs T H
  len : ρ.length = σ.length
theorem SlotOk.ext {K : PySem.W.Frag} {Z : Addr → Bool} {H H' : Hp} {s : Bool × D} {v : V} (e : ExtN H H') (h : SlotOk K Z H s v) : SlotOk K Z H' s v := by
  obtain ⟨o, d⟩ := s
  cases o with
  | true =>
    obtain ⟨a, e1, z, h1⟩ := h
    exact ⟨a, e1, z, h1.ext (exHide e) e⟩
  | false => exact Rep.ext (exHide e) d v h
theorem StE.ext {K : PySem.W.Frag} {T : Tb} {Z : Addr → Bool} {σ : L2.St} {H H' : Hp} {ρ : Env} (h : StE K T Z σ H ρ) (e : Ext T H H') : StE K T Z σ H' ρ :=
  ⟨fun i s q => by
    obtain ⟨v, q1, q2⟩ := h.slot i s q
    exact ⟨v, q1, q2.ext e.ext⟩, h.dist, fun a z f => h.zdom a z (f.back e.ext), e.tabs, h.len⟩

/-- what is wanted behind an expression -/
def Post (K : PySem.W.Frag) (T : Tb) (Z : Addr → Bool) (W : WX) (σ : L2.St) (H : Hp) (m : Md) (Q : VK) : RR D → Prop
  | .ok d => ∀ v H', Ext T H H' → RepV K Z H H' m d v → Q v H'
  | .ex c => ∀ H', Ext T H H' → W (.ref (He.ga K c)) none σ H'
  | .bad => False
/-- .. of any kind -/
def PostX {α : Type} (K : PySem.W.Frag) (T : Tb) (W : WX) (σ : L2.St) (H : Hp) (Q : α → Hp → Prop) : RR α → Prop
  | .ok b => ∀ H', Ext T H H' → Q b H'
  | .ex c => ∀ H', Ext T H H' → W (.ref (He.ga K c)) none σ H'
  | .bad => False
def tD (K : PySem.W.Frag) (T : Tb) (W : WX) (m : Md) (f : Env → RR D) : TE := fun σ H Q => ∃ ρ Z, StE K T Z σ H ρ ∧ Post K T Z W σ H m Q (f ρ)
def tDT (K : PySem.W.Frag) (T : Tb) (W : WX) (f : Env → RR Bool) : TT := fun σ H Q => ∃ ρ Z, StE K T Z σ H ρ ∧ PostX K T W σ H Q (f ρ)
theorem Post.from {K : PySem.W.Frag} {T : Tb} {Z : Addr → Bool} {W : WX} {σ : L2.St} {H H1 : Hp} {m : Md} {Q : VK} {r : RR D} (h : Post K T Z W σ H m Q r) (e : Ext T H H1) : Post K T Z W σ H1 m Q r := by
  cases r with
  | ok d => exact fun v H' e' q => h v H' (e.trans e') (q.from e.ext)
  | ex c => exact fun H' e' => h H' (e.trans e')
  | bad => exact h
theorem PostX.from {α : Type} {K : PySem.W.Frag} {T : Tb} {W : WX} {σ : L2.St} {H H1 : Hp} {Q : α → Hp → Prop} {r : RR α} (h : PostX K T W σ H Q r) (e : Ext T H H1) : PostX K T W σ H1 Q r := by
  cases r with
  | ok d => exact fun H' e' => h H' (e.trans e')
  | ex c => exact fun H' e' => h H' (e.trans e')
  | bad => exact h
/-- one after another -/
theorem Post.then {K : PySem.W.Frag} {T : Tb} {Z : Addr → Bool} {W : WX} {σ : L2.St} {H : Hp} {m m' : Md} {Q Q' : VK} {x : RR D} {k : D → RR D} (h : Post K T Z W σ H m' Q' (x >>= k))
    (i : ∀ d v H1, x = .ok d → Ext T H H1 → RepV K Z H H1 m d v → Post K T Z W σ H1 m' Q' (k d) → Q v H1) : Post K T Z W σ H m Q x := by
  cases x with
  | ok d => exact fun v H1 e r => i d v H1 rfl e r (Post.from (r := k d) h e)
  | ex c => exact h
  | bad => exact h
theorem Post.thenX {α : Type} {K : PySem.W.Frag} {T : Tb} {Z : Addr → Bool} {W : WX} {σ : L2.St} {H : Hp} {m : Md} {Q : VK} {Q' : α → Hp → Prop} {x : RR D} {k : D → RR α} (h : PostX K T W σ H Q' (x >>= k))
    (i : ∀ d v H1, x = .ok d → Ext T H H1 → RepV K Z H H1 m d v → PostX K T W σ H1 Q' (k d) → Q v H1) : Post K T Z W σ H m Q x := by
  cases x with
  | ok d => exact fun v H1 e r => i d v H1 rfl e r (PostX.from (r := k d) h e)
  | ex c => exact h
  | bad => exact h
theorem PostX.then {α : Type} {K : PySem.W.Frag} {T : Tb} {Z : Addr → Bool} {W : WX} {σ : L2.St} {H : Hp} {m' : Md} {Q : α → Hp → Prop} {Q' : VK} {x : RR α} {k : α → RR D} (h : Post K T Z W σ H m' Q' (x >>= k))
    (i : ∀ d H1, x = .ok d → Ext T H H1 → Post K T Z W σ H1 m' Q' (k d) → Q d H1) : PostX K T W σ H Q x := by
  cases x with
  | ok d => exact fun H1 e => i d H1 rfl e (Post.from (r := k d) h e)
  | ex c => exact h
  | bad => exact h
theorem PostX.thenX {α β : Type} {K : PySem.W.Frag} {T : Tb} {W : WX} {σ : L2.St} {H : Hp} {Q : α → Hp → Prop} {Q' : β → Hp → Prop} {x : RR α} {k : α → RR β} (h : PostX K T W σ H Q' (x >>= k))
    (i : ∀ d H1, x = .ok d → Ext T H H1 → PostX K T W σ H1 Q' (k d) → Q d H1) : PostX K T W σ H Q x := by
  cases x with
  | ok d => exact fun H1 e => i d H1 rfl e (PostX.from (r := k d) h e)
  | ex c => exact h
  | bad => exact h

theorem peImp {X : Cx} {e : Expr} {t t' : TE} (h : PE X e t) (i : ∀ σ H Q, t' σ H Q → t σ H Q) : PE X e t' := ⟨fun pins s σ H Q I hw => h.run pins s σ H Q I (i σ H Q hw)⟩
theorem ptImp {X : Cx} {e : Expr} {t t' : TT} (h : PT X e t) (i : ∀ σ H Q, t' σ H Q → t σ H Q) : PT X e t' := ⟨fun pins s σ H Q I hw => h.run pins s σ H Q I (i σ H Q hw)⟩
theorem pwImp {X : Cx} {e : Expr} {t t' : TT} (h : PW X e t) (i : ∀ σ H Q, t' σ H Q → t σ H Q) : PW X e t' := ⟨fun wh pins s σ H Q I hw => h.run wh pins s σ H Q I (i σ H Q hw)⟩
theorem psImp {X : Cx} {e : Stmt} {t t' : TS} (h : PS X e t) (i : ∀ D σ H, t' D σ H → t D σ H) : PS X e t' := ⟨fun pins s σ H D I hw => h.run pins s σ H D I (i D σ H hw)⟩
end Py
end
section
set_option maxHeartbeats 1000000
namespace Py
open PySem PySem.Spec PyProof.Rows L2 LamX

/-! ### new objects -/
section
variable {K : PySem.W.Frag} {T : Tb} {Z : Addr → Bool} {H : Hp} {p : Addr} {o : HO}
theorem ext_new (t : Tabs T H) (n : H p = none) : Ext T H (upd H p o) := by
  have e : ∀ b u, H b = some u → upd H p o b = some u := fun b u h => by rw [upd_ne (ne_of_none h n)]; exact h
  exact ⟨ExtN.of e, t.ext e⟩
theorem z_new (hz : ∀ a, Z a = true → ¬ FreshAt H a) (n : H p = none) : Z p = false := by
  cases q : Z p with
  | true => exact (hz p q (.inl n)).elim
  | false => rfl
theorem rep_tup {l : List D} {xs : List V} (t : Tabs T H) (hz : ∀ a, Z a = true → ¬ FreshAt H a) (n : H p = none) (hl : l.length ≤ sizeLine) (r : Reps K (hide H Z) l xs) : Rep K (hide (upd H p (.tup xs)) Z) (.tup l) (.ref p) :=
  ⟨hl, p, xs, rfl, .inl (.inl (by rw [hide_of (z_new hz n)]; exact upd_same)), Reps.ext (exHide (ext_new t n).ext) l xs r⟩
theorem rep_lst {l : List D} {xs : List V} (t : Tabs T H) (hz : ∀ a, Z a = true → ¬ FreshAt H a) (n : H p = none) (hl : l.length ≤ sizeLine) (r : Reps K (hide H Z) l xs) : Rep K (hide (upd H p (.lst xs)) Z) (.lst l) (.ref p) :=
  ⟨hl, p, xs, rfl, by rw [hide_of (z_new hz n)]; exact upd_same, Reps.ext (exHide (ext_new t n).ext) l xs r⟩
theorem hide_zs {o : HO} : hide (upd H p o) (Zs Z p) = hide H (Zs Z p) := by
  funext b
  unfold hide
  by_cases h : b = p
  · subst h; rw [zs_self]; rfl
  · rw [upd_ne h]
theorem own_lst {l : List D} {xs : List V} (hl : l.length ≤ sizeLine) (n : FreshAt H p) (r : Reps K (hide H Z) l xs) : OwnAt K (hide (upd H p (.lst xs)) (Zs Z p)) (upd H p (.lst xs)) p (.lst l) :=
  ⟨hl, xs, upd_same, by rw [hide_zs]; exact Reps.ext (exZs n) l xs r⟩
theorem own_dic {ks : List Key} {vs : List D} {kvs : List (Key × V)} (n : FreshAt H p) (e : kvs.map (·.1) = ks) (r : Reps K (hide H Z) vs (kvs.map (·.2))) : OwnAt K (hide (upd H p (.dK kvs)) (Zs Z p)) (upd H p (.dK kvs)) p (.dic ks vs) :=
  ⟨kvs, upd_same, e, by rw [hide_zs]; exact Reps.ext (exZs n) vs _ r⟩
end

/-! ### operations on values -/
def rD2 (K : PySem.W.Frag) (T : Tb) (m : Md) (g : D → D → Option D) : R2 := fun x y H Q => ∃ (Z : Addr → Bool) (d e r : D), (∀ a, Z a = true → ¬ FreshAt H a) ∧ Tabs T H ∧ RepB K (hide H Z) H d x ∧ RepB K (hide H Z) H e y ∧ g d e = some r ∧
  ∀ v H', Ext T H H' → RepV K Z H H' m r v → Q v H'
def rDC (K : PySem.W.Frag) (T : Tb) (g : D → D → Option Bool) : R2 := fun x y H Q => ∃ (G : Hp) (d e : D) (k : Bool), ExtN G H ∧ Tabs T H ∧ RepB K G H d x ∧ RepB K G H e y ∧ g d e = some k ∧ Q (.bl k) H
def rDL (K : PySem.W.Frag) (T : Tb) (m : Md) (g : List D → Option D) : List V → Hp → VK → Prop := fun xs H Q => ∃ (Z : Addr → Bool) (ds : List D) (r : D), (∀ a, Z a = true → ¬ FreshAt H a) ∧ Tabs T H ∧ RepBs K (hide H Z) H ds xs ∧ g ds = some r ∧
  ∀ v H', Ext T H H' → RepV K Z H H' m r v → Q v H'
theorem opImp {X : Cx} {f : Value → Value → Sem Value} {r r' : R2} (h : OpR X f r) (i : ∀ x y H Q, r' x y H Q → r x y H Q) : OpR X f r' :=
  fun pins s σ H x y v u Q I rx ry q => h pins s σ H x y v u Q I rx ry (i x y H Q q)
theorem callImp {X : Cx} {f : Value} {r r' : List V → Hp → VK → Prop} (h : CallR X f r) (i : ∀ xs H Q, r' xs H Q → r xs H Q) : CallR X f r' :=
  fun pins s σ H xs us Q I rx q => h pins s σ H xs us Q I rx (i xs H Q q)

def lim : Nat := 16777216
theorem lim_eq : sizeLine = lim := sizeLine_eq

def addD : D → D → Option D
  | .int i, .int j => some (.int (i + j))
  | .str a, .str b => if a.length + b.length ≤ lim then some (.str (a ++ b)) else none
  | .tup a, .tup b => if a.length + b.length ≤ lim then some (.tup (a ++ b)) else none
  | .lst a, .lst b => if a.length + b.length ≤ lim then some (.lst (a ++ b)) else none
  | _, _ => none
theorem strOk_app {a b : Str} (ha : PyData.strOk a = true) (hb : PyData.strOk b = true) : PyData.strOk (a ++ b) = true := by
  show (a.cps ++ b.cps).all _ = true
  rw [Array.all_append]
  exact Bool.and_eq_true_iff.mpr ⟨ha, hb⟩
theorem len_app (a b : Str) : (a ++ b).length = a.length + b.length := by
  show (a.cps ++ b.cps).size = _
  rw [Array.size_append]; rfl
section
variable {X : Cx} {T : Tb}
theorem op_addD : OpR X (binaryOp .Add) (rD2 X.K T .sh addD) := by
  refine opImp (OpR.or op_add (OpR.or op_add_str (OpR.or op_catA op_cat))) fun x y H Q h => ?_
  obtain ⟨Z, d, e, r, hz, ht, hd, he, hg, hq⟩ := h
  cases d <;> cases e <;> simp only [addD, Option.some.injEq, reduceCtorEq] at hg
  · subst hg
    cases hd; cases he
    exact .inl ⟨_, _, rfl, rfl, hq _ H (Ext.refl ht) rfl⟩
  · split at hg
    · rename_i hl
      cases hg
      obtain ⟨o1, l1, rfl⟩ := hd
      obtain ⟨o2, l2, rfl⟩ := he
      refine .inr (.inl ⟨_, _, rfl, rfl, by rw [lim_eq]; exact hl, hq _ H (Ext.refl ht) ⟨strOk_app o1 o2, by rw [len_app, lim_eq]; exact hl, rfl⟩⟩)
    · cases hg
  · split at hg
    · rename_i hl
      cases hg
      obtain ⟨l1, a, xs, rfl, ha, ra⟩ := hd
      obtain ⟨l2, b, ys, rfl, hb, rb⟩ := he
      refine .inr (.inr (.inl ⟨a, b, xs, ys, rfl, rfl, SqT.ext exUnhide ha, SqT.ext exUnhide hb, by rw [ra.length, rb.length, lim_eq]; exact hl, fun e0 => ?_, fun _ e0 => ?_, fun _ _ p np => ?_⟩))
      · refine hq _ H (Ext.refl ht) ?_
        have z := ra.length
        rw [e0] at z
        have q := List.length_eq_zero_iff.mp z.symm
        rw [q]
        exact ⟨l2, b, ys, rfl, hb, rb⟩
      · refine hq _ H (Ext.refl ht) ?_
        have z := rb.length
        rw [e0] at z
        have q := List.length_eq_zero_iff.mp z.symm
        rw [q, List.append_nil]
        exact ⟨l1, a, xs, rfl, ha, ra⟩
      · exact hq _ _ (ext_new ht np) (rep_tup ht hz np (by rw [List.length_append, lim_eq]; exact hl) (ra.append rb))
    · cases hg
  · split at hg
    · rename_i hl
      cases hg
      obtain ⟨a, rfl, l1, xs, ha, ra⟩ := hd
      obtain ⟨b, rfl, l2, ys, hb, rb⟩ := he
      refine .inr (.inr (.inr ⟨a, b, xs, ys, rfl, rfl, ha, hb, by rw [ra.length, rb.length, lim_eq]; exact hl, fun p np => ?_⟩))
      exact hq _ _ (ext_new ht np) (rep_lst ht hz np (by rw [List.length_append, lim_eq]; exact hl) (ra.append rb))
    · cases hg
def subD : D → D → Option D
  | .int i, .int j => some (.int (i - j))
  | _, _ => none
theorem op_subD : OpR X (binaryOp .Sub) (rD2 X.K T .sh subD) := by
  refine opImp op_sub fun x y H Q h => ?_
  obtain ⟨Z, d, e, r, hz, ht, hd, he, hg, hq⟩ := h
  cases d <;> cases e <;> simp only [subD, Option.some.injEq, reduceCtorEq] at hg
  subst hg
  cases hd; cases he
  exact ⟨_, _, rfl, rfl, hq _ H (Ext.refl ht) rfl⟩
def mulOk (i j : Int) : Bool := decide (i.natAbs < 2 ^ 64) || decide (j.natAbs < 2 ^ 64) || (decide (i.natAbs < 2 ^ 1000) && decide (j.natAbs < 2 ^ 1000))
def mulD : D → D → Option D
  | .int i, .int j => if mulOk i j then some (.int (i * j)) else none
  | .lst a, .int k => if a.length * k.toNat ≤ lim ∧ k < 1000 ∧ -1000 < k then some (.lst (List.replicate k.toNat a).flatten) else none
  | .tup a, .int k => if a ≠ [] ∧ 2 ≤ k ∧ k ≤ 1000 ∧ a.length ≤ 1000 then some (.tup (List.replicate k.toNat a).flatten) else none
  | _, _ => none
theorem Reps.rep {K : PySem.W.Frag} {H : Hp} {l : List D} {xs : List V} (r : Reps K H l xs) : ∀ n, Reps K H (List.replicate n l).flatten (List.replicate n xs).flatten
  | 0 => rfl
  | n + 1 => by
    rw [List.replicate_succ, List.replicate_succ, List.flatten_cons, List.flatten_cons]
    exact r.append (Reps.rep r n)
theorem rep_len {α : Type} (l : List α) : ∀ n, (List.replicate n l).flatten.length = l.length * n
  | 0 => by simp
  | n + 1 => by rw [List.replicate_succ, List.flatten_cons, List.length_append, rep_len l n, Nat.mul_succ, Nat.add_comm]
theorem op_mulD : OpR X (binaryOp .Mult) (rD2 X.K T .sh mulD) := by
  refine opImp (OpR.or op_mul (OpR.or op_mulW (OpR.or op_rep op_repT))) fun x y H Q h => ?_
  obtain ⟨Z, d, e, r, hz, ht, hd, he, hg, hq⟩ := h
  cases d <;> cases e <;> simp only [mulD, Option.some.injEq, reduceCtorEq] at hg
  · split at hg
    · rename_i i j hl
      cases hg
      cases hd; cases he
      have fin := hq _ H (Ext.refl ht) rfl
      simp only [mulOk, Bool.or_eq_true, Bool.and_eq_true, decide_eq_true_eq] at hl
      rcases hl with (hl | hl) | hl
      · exact .inl ⟨i, j, rfl, rfl, .inl (by omega), fin⟩
      · exact .inl ⟨i, j, rfl, rfl, .inr (by omega), fin⟩
      · exact .inr (.inl ⟨i, j, rfl, rfl, wide_mul hl.1 hl.2 (by decide) (by decide) (by decide), fin⟩)
    · cases hg
  · split at hg
    · rename_i la k hl
      cases hg
      cases he
      obtain ⟨l1, a, xs, rfl, ha, ra⟩ := hd
      refine .inr (.inr (.inr ⟨a, k, xs, rfl, rfl, SqT.ext exUnhide ha, fun e0 => ?_, hl.2.1, hl.2.2.1, by rw [ra.length]; exact hl.2.2.2, fun p np => ?_⟩))
      · have z := ra.length
        rw [e0] at z
        exact hl.1 (List.length_eq_zero_iff.mp z.symm)
      · refine hq _ _ (ext_new ht np) (rep_tup ht hz np ?_ (ra.rep _))
        rw [rep_len, lim_eq]
        have h1 := hl.2.2.2
        have h2 : k.toNat ≤ 1000 := by omega
        calc la.length * k.toNat ≤ 1000 * 1000 := Nat.mul_le_mul h1 h2
          _ ≤ lim := by decide
    · cases hg
  · split at hg
    · rename_i la k hl
      cases hg
      cases he
      obtain ⟨a, rfl, l1, xs, ha, ra⟩ := hd
      refine .inr (.inr (.inl ⟨a, k, xs, rfl, rfl, ha, by omega, by omega, by rw [ra.length, lim_eq]; exact hl.1, fun p np => ?_⟩))
      exact hq _ _ (ext_new ht np) (rep_lst ht hz np (by rw [rep_len, lim_eq]; exact hl.1) (ra.rep _))
    · cases hg
def fdivD : D → D → Option D
  | .int i, .int j => if 0 < j ∧ j.natAbs < 2 ^ 1000 then some (.int (i / j)) else none
  | _, _ => none
theorem op_fdivD : OpR X (binaryOp .FloorDiv) (rD2 X.K T .sh fdivD) := by
  refine opImp op_fdivW fun x y H Q h => ?_
  obtain ⟨Z, d, e, r, hz, ht, hd, he, hg, hq⟩ := h
  cases d <;> cases e <;> simp only [fdivD, Option.some.injEq, reduceCtorEq] at hg
  split at hg
  · rename_i i j hl
    cases hg
    cases hd; cases he
    refine ⟨i, j, rfl, rfl, ⟨hl.1, ?_⟩, hq _ H (Ext.refl ht) rfl⟩
    exact Nat.lt_of_lt_of_le (PySem.Flt.log2_lt_of (by decide) hl.2) (by decide)
  · cases hg
def modD : D → D → Option D
  | .int i, .int j => if 0 < j then some (.int (i % j)) else none
  | _, _ => none
theorem op_modD : OpR X (binaryOp .Mod) (rD2 X.K T .sh modD) := by
  refine opImp op_mod fun x y H Q h => ?_
  obtain ⟨Z, d, e, r, hz, ht, hd, he, hg, hq⟩ := h
  cases d <;> cases e <;> simp only [modD, Option.some.injEq, reduceCtorEq] at hg
  split at hg
  · rename_i i j hl
    cases hg
    cases hd; cases he
    exact ⟨i, j, rfl, rfl, hl, hq _ H (Ext.refl ht) rfl⟩
  · cases hg
def powD : D → D → Option D
  | .int i, .int j => if 0 ≤ j ∧ j ≤ 1000 ∧ i.natAbs < 2 ^ 64 then some (.int (i ^ j.toNat)) else none
  | _, _ => none
theorem op_powD : OpR X (binaryOp .Pow) (rD2 X.K T .sh powD) := by
  refine opImp op_pow fun x y H Q h => ?_
  obtain ⟨Z, d, e, r, hz, ht, hd, he, hg, hq⟩ := h
  cases d <;> cases e <;> simp only [powD, Option.some.injEq, reduceCtorEq] at hg
  split at hg
  · rename_i i j hl
    cases hg
    cases hd; cases he
    exact ⟨i, j, rfl, rfl, ⟨hl.1, by omega, hl.2.2⟩, hq _ H (Ext.refl ht) rfl⟩
  · cases hg

inductive Bop where | add | sub | mul | fdiv | mod | pow
  deriving DecidableEq
def Bop.op : Bop → Operator
  | .add => .Add | .sub => .Sub | .mul => .Mult | .fdiv => .FloorDiv | .mod => .Mod | .pow => .Pow
def binD : Bop → D → D → Option D
  | .add => addD | .sub => subD | .mul => mulD | .fdiv => fdivD | .mod => modD | .pow => powD
theorem op_binD (o : Bop) : OpR X (binaryOp o.op) (rD2 X.K T .sh (binD o)) := by
  cases o
  · exact op_addD
  · exact op_subD
  · exact op_mulD
  · exact op_fdivD
  · exact op_modD
  · exact op_powD
end
end Py
end
section
set_option maxHeartbeats 1000000
namespace Py
open PySem PySem.Spec PyProof.Rows L2 LamX

/-! ### == -/
mutual
def toPy : D → PyData
  | .non => .none
  | .bl b => .bool b
  | .int i => .int i
  | .str x => .str x
  | .tup l => .tuple (toPys l)
  | .lst l => .list (toPys l)
  | .scr l => .list (l.map PyData.int)
  | .dic _ _ => .none
def toPys : List D → List PyData
  | [] => []
  | d :: ds => toPy d :: toPys ds
end
mutual
def nod : D → Bool
  | .tup l => nods l
  | .lst l => nods l
  | .dic _ _ => false
  | _ => true
def nods : List D → Bool
  | [] => true
  | d :: ds => nod d && nods ds
end
mutual
def dep : D → Nat
  | .tup l => deps l + 1
  | .lst l => deps l + 1
  | .scr _ => 2
  | _ => 1
def deps : List D → Nat
  | [] => 0
  | d :: ds => max (dep d) (deps ds)
end
theorem dpInts {K : PySem.W.Frag} {H : Hp} : ∀ l : List Int, DpAll K H (l.map V.int) (l.map PyData.int)
  | [] => .nil
  | i :: l => .cons (.int i) (dpInts l)
mutual
theorem Rep.dp {K : PySem.W.Frag} {H : Hp} : ∀ (d : D) (v : V), nod d = true → Rep K H d v → Dp K H v (toPy d) ∧ PyData.canLay0 (toPy d) = true
  | .non, v, n, h => by rw [show v = _ from h]; exact ⟨.non, rfl⟩
  | .bl b, v, n, h => by rw [show v = _ from h]; exact ⟨.bl b, rfl⟩
  | .int i, v, n, h => by rw [show v = _ from h]; exact ⟨.int i, rfl⟩
  | .str x, v, n, h => by
    obtain ⟨h1, h2, rfl⟩ := h
    exact ⟨.str x, h1⟩
  | .tup l, v, n, h => by
    obtain ⟨z, a, xs, rfl, h1, h2⟩ := h
    obtain ⟨q1, q2⟩ := Reps.dp l xs n h2
    exact ⟨.tup h1 q1, q2⟩
  | .lst l, v, n, h => by
    obtain ⟨z, a, xs, rfl, h1, h2⟩ := h
    obtain ⟨q1, q2⟩ := Reps.dp l xs n h2
    exact ⟨.lst (SqL.of h1) q1, q2⟩
  | .scr l, v, n, h => by
    obtain ⟨z, a, rfl, h1⟩ := h
    refine ⟨.lst h1 (dpInts l), ?_⟩
    show PyData.canLayAll0 (l.map PyData.int) = true
    clear h1 z n
    induction l with
    | nil => rfl
    | cons i l ih => simp only [List.map_cons, PyData.canLayAll0, ih, PyData.canLay0, Bool.and_self]
  | .dic ks vs, v, n, h => by cases (show false = true from n)
theorem Reps.dp {K : PySem.W.Frag} {H : Hp} : ∀ (ds : List D) (vs : List V), nods ds = true → Reps K H ds vs → DpAll K H vs (toPys ds) ∧ PyData.canLayAll0 (toPys ds) = true
  | [], vs, n, h => by rw [show vs = [] from h]; exact ⟨.nil, rfl⟩
  | d :: ds, vs, n, h => by
    obtain ⟨v, r, rfl, h1, h2⟩ := h
    have n' : (nod d && nods ds) = true := n
    rw [Bool.and_eq_true] at n'
    obtain ⟨q1, q2⟩ := Rep.dp d v n'.1 h1
    obtain ⟨q3, q4⟩ := Reps.dp ds r n'.2 h2
    refine ⟨.cons q1 q3, ?_⟩
    show (PyData.canLay0 (toPy d) && PyData.canLayAll0 (toPys ds)) = true
    rw [q2, q4]; rfl
end
mutual
theorem dep_py : ∀ d : D, (toPy d).depth ≤ dep d
  | .non => by simp [toPy, PyData.depth, dep]
  | .bl b => by simp [toPy, PyData.depth, dep]
  | .int i => by simp [toPy, PyData.depth, dep]
  | .str x => by simp [toPy, PyData.depth, dep]
  | .tup l => by
    have := deps_py l
    simp only [toPy, PyData.depth, dep]; omega
  | .lst l => by
    have := deps_py l
    simp only [toPy, PyData.depth, dep]; omega
  | .scr l => by
    simp only [toPy, PyData.depth, dep]
    have : PyData.depthAll (l.map PyData.int) ≤ 1 := by
      induction l with
      | nil => simp [PyData.depthAll]
      | cons i l ih => simp only [List.map_cons, PyData.depthAll, PyData.depth]; omega
    omega
  | .dic _ _ => by simp [toPy, PyData.depth, dep]
theorem deps_py : ∀ ds : List D, PyData.depthAll (toPys ds) ≤ deps ds
  | [] => by simp [toPys, PyData.depthAll]
  | d :: ds => by
    have h1 := dep_py d
    have h2 := deps_py ds
    simp only [toPys, PyData.depthAll, deps]; omega
end
def eqP (d e : D) : Bool := PyData.eqv (toPy d) (toPy e)
def eqB (d e : D) : Option Bool := if nod d && nod e && decide (min (dep d) (dep e) ≤ 64) then some (eqP d e) else none
def neB (d e : D) : Option Bool := (eqB d e).map (!·)
section
variable {X : Cx} {T : Tb}
theorem op_eqB (hu : X.A.units + 65 < cLine) : OpR X (compareOp .Eq) (rDC X.K T eqB) := by
  intro pins s σ H x y v u Q I rx ry h
  obtain ⟨G, d, e, k, hG, ht, hd, he, hg, hq⟩ := h
  unfold eqB at hg
  split at hg
  · rename_i hc
    cases hg
    simp only [Bool.and_eq_true, decide_eq_true_eq] at hc
    obtain ⟨q1, q2⟩ := Rep.dp d x hc.1.1 (hd.rep hG)
    obtain ⟨q3, q4⟩ := Rep.dp e y hc.1.2 (he.rep hG)
    obtain ⟨as, r1⟩ := Dp.reads I _ x v q1 rx
    obtain ⟨bs, r2⟩ := Dp.reads I _ y u q3 ry
    have := dep_py d
    have := dep_py e
    exact SeqAt.compareEq_reads r1 r2 q2 q4 (by omega) ⟨.bl _, H, I, rfl, hq⟩
  · cases hg
theorem op_neB (hu : X.A.units + 65 < cLine) : OpR X (compareOp .NotEq) (rDC X.K T neB) := by
  intro pins s σ H x y v u Q I rx ry h
  obtain ⟨G, d, e, k, hG, ht, hd, he, hg, hq⟩ := h
  unfold neB eqB at hg
  split at hg
  · rename_i hc
    cases hg
    simp only [Bool.and_eq_true, decide_eq_true_eq] at hc
    obtain ⟨q1, q2⟩ := Rep.dp d x hc.1.1 (hd.rep hG)
    obtain ⟨q3, q4⟩ := Rep.dp e y hc.1.2 (he.rep hG)
    obtain ⟨as, r1⟩ := Dp.reads I _ x v q1 rx
    obtain ⟨bs, r2⟩ := Dp.reads I _ y u q3 ry
    have := dep_py d
    have := dep_py e
    exact SeqAt.compareNe_reads r1 r2 q2 q4 (by omega) ⟨.bl _, H, I, rfl, hq⟩
  · cases hg
/-! ### <, <=, >, >= -/
def bi (b : Bool) : Int := if b then 1 else 0
def ltB : D → D → Option Bool
  | .int i, .int j => some (decide (i < j))
  | _, _ => none
def leB : D → D → Option Bool
  | .int i, .int j => some (decide (i ≤ j))
  | .bl i, .bl j => some (!i || j)
  | _, _ => none
def gtB (a b : D) : Option Bool := ltB b a
def geB : D → D → Option Bool
  | .int i, .int j => some (decide (j ≤ i))
  | _, _ => none
theorem op_le_bl : OpR X (compareOp .LtE) (fun x y H Q => ∃ i j, x = .bl i ∧ y = .bl j ∧ Q (.bl (!i || j)) H) := by
  intro pins s σ H x y v u Q I rx ry h
  obtain ⟨i, j, rfl, rfl, q⟩ := h
  cases rx; cases ry
  refine le_bool ⟨.bl (!i || j), H, I, ?_, q⟩
  cases i <;> cases j <;> rfl
theorem op_ltB : OpR X (compareOp .Lt) (rDC X.K T ltB) := by
  refine opImp op_lt fun x y H Q h => ?_
  obtain ⟨G, d, e, k, hG, ht, hd, he, hg, hq⟩ := h
  cases d <;> cases e <;> simp only [ltB, Option.some.injEq, reduceCtorEq] at hg
  subst hg
  cases hd; cases he
  exact ⟨_, _, rfl, rfl, hq⟩
theorem op_leB : OpR X (compareOp .LtE) (rDC X.K T leB) := by
  refine opImp (OpR.or op_le op_le_bl) fun x y H Q h => ?_
  obtain ⟨G, d, e, k, hG, ht, hd, he, hg, hq⟩ := h
  cases d <;> cases e <;> simp only [leB, Option.some.injEq, reduceCtorEq] at hg
  · subst hg
    cases hd; cases he
    exact .inr ⟨_, _, rfl, rfl, hq⟩
  · subst hg
    cases hd; cases he
    exact .inl ⟨_, _, rfl, rfl, hq⟩
theorem op_gtB : OpR X (compareOp .Gt) (rDC X.K T gtB) := by
  refine opImp op_gt fun x y H Q h => ?_
  obtain ⟨G, d, e, k, hG, ht, hd, he, hg, hq⟩ := h
  cases d <;> cases e <;> simp only [gtB, ltB, Option.some.injEq, reduceCtorEq] at hg
  subst hg
  cases hd; cases he
  exact ⟨_, _, rfl, rfl, hq⟩
theorem op_geB : OpR X (compareOp .GtE) (rDC X.K T geB) := by
  refine opImp op_ge fun x y H Q h => ?_
  obtain ⟨G, d, e, k, hG, ht, hd, he, hg, hq⟩ := h
  cases d <;> cases e <;> simp only [geB, Option.some.injEq, reduceCtorEq] at hg
  subst hg
  cases hd; cases he
  exact ⟨_, _, rfl, rfl, hq⟩
/-! ### in -/
def keyIn (ks : List Key) (k : Key) : Bool := ks.any fun q => decide (q = k)
def hasP (x : D) (l : List D) : Bool := l.any fun z => eqP z x
def inB (x : D) : D → Option Bool
  | .tup l => if nod x && nods l && decide (min (deps l) (dep x) ≤ 63) then some (hasP x l) else none
  | .lst l => if nod x && nods l && decide (min (deps l) (dep x) ≤ 63) then some (hasP x l) else none
  | .str j => match x with
    | .str i => some (!(Builtin.Str.occurrences j i 0 j.length 1).isEmpty)
    | _ => none
  | .dic ks _ => match x with
    | .int i => some (keyIn ks (.inl i))
    | .str i => some (keyIn ks (.inr i))
    | _ => none
  | _ => none
def ninB (x y : D) : Option Bool := (inB x y).map (!·)
theorem any_py (x : D) : ∀ l : List D, (toPys l).any (fun z => PyData.eqv z (toPy x)) = hasP x l
  | [] => rfl
  | d :: l => by
    show (PyData.eqv (toPy d) (toPy x) || (toPys l).any _) = (eqP d x || hasP x l)
    rw [any_py x l]; rfl
/-- k in d -/
theorem keyIn_eq {kvs : List (Key × V)} {k : Key} : keyIn (kvs.map (·.1)) k = (valV kvs k).isSome := by
  rw [← valV_any]
  unfold keyIn
  rw [List.any_map]; rfl
theorem op_in_dic (hu : X.A.units + 65 < cLine) : OpR X (compareOp .In) (fun x y H Q => ∃ a kvs k, y = .ref a ∧ H a = some (.dK kvs) ∧ x = kV k ∧ Q (.bl (keyIn (kvs.map (·.1)) k)) H) := by
  intro pins s σ H x y v u Q I rx ry h
  obtain ⟨a, kvs, k, rfl, ha, rfl, q⟩ := h
  cases ry
  exact d_in (by omega) I (DGet.k ha) rx fun s' I' => ⟨.bl _, H, I', rfl, by rw [← keyIn_eq]; exact q⟩
theorem op_nin_dic (hu : X.A.units + 65 < cLine) : OpR X (compareOp .NotIn) (fun x y H Q => ∃ a kvs k, y = .ref a ∧ H a = some (.dK kvs) ∧ x = kV k ∧ Q (.bl (!keyIn (kvs.map (·.1)) k)) H) := by
  intro pins s σ H x y v u Q I rx ry h
  obtain ⟨a, kvs, k, rfl, ha, rfl, q⟩ := h
  cases ry
  exact d_notIn (by omega) I (DGet.k ha) rx fun s' I' => ⟨.bl _, H, I', rfl, by rw [← keyIn_eq]; exact q⟩
theorem readsA {H : Hp} {x : D} {l : List D} {v : V} {xs : List V} {pins : List (Addr × Obj)} {σ : L2.St} {s : Shared} {its : List Value} {u : Value} (I : Inv X pins σ H s) (hc : (nod x && nods l && decide (min (deps l) (dep x) ≤ 63)) = true) (hu : X.A.units + 65 < cLine)
    (hd : Rep X.K H x v) (hl : Reps X.K H l xs) (rv : RelV v u) (rs : Vals xs its) :
    (∀ w ∈ its.toArray, SeqAt.EqAt X.A.in1 s w u (PyData.eqv (SeqAt.readOf s.heap w) (toPy x))) ∧ its.toArray.any (fun w => PyData.eqv (SeqAt.readOf s.heap w) (toPy x)) = hasP x l := by
  simp only [Bool.and_eq_true, decide_eq_true_eq] at hc
  obtain ⟨q1, q2⟩ := Rep.dp x v hc.1.1 hd
  obtain ⟨q3, q4⟩ := Reps.dp l xs hc.1.2 hl
  obtain ⟨as, r1⟩ := Dp.reads I _ v u q1 rv
  obtain ⟨bs, r2⟩ := Dp.readsAll I _ xs its q3 rs
  have h1 := dep_py x
  have h2 := deps_py l
  have hmap : its.map (SeqAt.readOf s.heap) = toPys l := SeqAt.readsAll_map _ its bs q4 r2
  refine ⟨SeqAt.items_eqAt (vs := its.toArray) (show ReadsAll s.heap its.toArray.toList (toPys l) bs from r2) r1 q4 q2 ?_, ?_⟩
  · show X.A.units + 1 + min (PyData.depthAll (toPys l)) (toPy x).depth < cLine
    omega
  · rw [show its.toArray.any (fun w => PyData.eqv (SeqAt.readOf s.heap w) (toPy x)) = its.any (fun w => PyData.eqv (SeqAt.readOf s.heap w) (toPy x)) by simp, ← any_py, ← hmap, List.any_map]; rfl
theorem op_inB (hu : X.A.units + 65 < cLine) : OpR X (compareOp .In) (rDC X.K T inB) := by
  intro pins s σ H x y v u Q I rx ry h
  obtain ⟨G, d, e, k, hG, ht, hd, he, hg, hq⟩ := h
  cases e with
  | tup l =>
    simp only [inB] at hg
    split at hg
    · rename_i hc
      cases hg
      obtain ⟨z, a, xs, rfl, ha, ra⟩ := RepB.rep hG he
      cases ry
      obtain ⟨its, rs, pl, _⟩ := I.tuple ha
      obtain ⟨q1, q2⟩ := readsA I hc hu (hd.rep hG) ra rx rs
      refine SeqAt.in_tupleAt _ pl q1 ⟨.bl _, H, I, rfl, ?_⟩
      rw [q2]; exact hq
    · cases hg
  | lst l =>
    simp only [inB] at hg
    split at hg
    · rename_i hc
      cases hg
      obtain ⟨z, a, xs, rfl, ha, ra⟩ := RepB.rep hG he
      cases ry
      obtain ⟨its, rs, pl, _⟩ := I.list (SqL.of ha)
      obtain ⟨q1, q2⟩ := readsA I hc hu (hd.rep hG) ra rx rs
      refine SeqAt.in_listAt _ pl.isList q1 ⟨.bl _, H, I, rfl, ?_⟩
      rw [q2]; exact hq
    · cases hg
  | str j =>
    cases d <;> simp only [inB, Option.some.injEq, reduceCtorEq] at hg
    subst hg
    obtain ⟨_, _, rfl⟩ := hd
    obtain ⟨_, _, rfl⟩ := he
    exact op_in_str pins s σ H _ _ v u Q I rx ry ⟨_, _, rfl, rfl, hq⟩
  | dic ks vs =>
    obtain ⟨a, rfl, kvs, ha, rfl, _⟩ := he
    cases d <;> simp only [inB, Option.some.injEq, reduceCtorEq] at hg
    · subst hg
      cases hd
      exact op_in_dic hu pins s σ H _ _ v u Q I rx ry ⟨a, kvs, .inl _, rfl, ha, rfl, hq⟩
    · subst hg
      obtain ⟨_, _, rfl⟩ := hd
      exact op_in_dic hu pins s σ H _ _ v u Q I rx ry ⟨a, kvs, .inr _, rfl, ha, rfl, hq⟩
  | _ => simp only [inB, reduceCtorEq] at hg
theorem op_ninB (hu : X.A.units + 65 < cLine) : OpR X (compareOp .NotIn) (rDC X.K T ninB) := by
  intro pins s σ H x y v u Q I rx ry h
  obtain ⟨G, d, e, k, hG, ht, hd, he, hg, hq⟩ := h
  unfold ninB at hg
  cases e with
  | tup l =>
    simp only [inB] at hg
    split at hg
    · rename_i hc
      cases hg
      obtain ⟨z, a, xs, rfl, ha, ra⟩ := RepB.rep hG he
      cases ry
      obtain ⟨its, rs, pl, _⟩ := I.tuple ha
      obtain ⟨q1, q2⟩ := readsA I hc hu (hd.rep hG) ra rx rs
      refine SeqAt.notIn_tupleAt _ pl q1 ⟨.bl _, H, I, rfl, ?_⟩
      rw [q2]; exact hq
    · cases hg
  | lst l =>
    simp only [inB] at hg
    split at hg
    · rename_i hc
      cases hg
      obtain ⟨z, a, xs, rfl, ha, ra⟩ := RepB.rep hG he
      cases ry
      obtain ⟨its, rs, pl, _⟩ := I.list (SqL.of ha)
      obtain ⟨q1, q2⟩ := readsA I hc hu (hd.rep hG) ra rx rs
      refine SeqAt.notIn_listAt _ pl.isList q1 ⟨.bl _, H, I, rfl, ?_⟩
      rw [q2]; exact hq
    · cases hg
  | str j =>
    cases d <;> simp only [inB, Option.map_some, Option.map_none, Option.some.injEq, reduceCtorEq] at hg
    subst hg
    obtain ⟨_, _, rfl⟩ := hd
    obtain ⟨_, _, rfl⟩ := he
    exact op_notIn_str pins s σ H _ _ v u Q I rx ry ⟨_, _, rfl, rfl, hq⟩
  | dic ks vs =>
    obtain ⟨a, rfl, kvs, ha, rfl, _⟩ := he
    cases d <;> simp only [inB, Option.map_some, Option.map_none, Option.some.injEq, reduceCtorEq] at hg
    · subst hg
      cases hd
      exact op_nin_dic hu pins s σ H _ _ v u Q I rx ry ⟨a, kvs, .inl _, rfl, ha, rfl, hq⟩
    · subst hg
      obtain ⟨_, _, rfl⟩ := hd
      exact op_nin_dic hu pins s σ H _ _ v u Q I rx ry ⟨a, kvs, .inr _, rfl, ha, rfl, hq⟩
  | _ => simp only [inB, Option.map_none, reduceCtorEq] at hg
/-! ### is -/
def isB : D → D → Option Bool
  | .non, .non => some true
  | .bl a, .bl b => some (decide (a = b))
  | .non, .bl _ => some false
  | .bl _, .non => some false
  | .int _, .non => some false
  | .str _, .non => some false
  | .tup _, .non => some false
  | .lst _, .non => some false
  | .dic _ _, .non => some false
  | _, _ => none
def isntB (x y : D) : Option Bool := (isB x y).map (!·)
end
inductive Cop where | eq | ne | lt | le | gt | ge | inn | nin
  deriving DecidableEq
def Cop.op : Cop → CmpOp
  | .eq => .Eq | .ne => .NotEq | .lt => .Lt | .le => .LtE | .gt => .Gt | .ge => .GtE | .inn => .In | .nin => .NotIn
def cmpB : Cop → D → D → Option Bool
  | .eq => eqB | .ne => neB | .lt => ltB | .le => leB | .gt => gtB | .ge => geB | .inn => inB | .nin => ninB
theorem op_cmpB {X : Cx} {T : Tb} (hu : X.A.units + 65 < cLine) (o : Cop) : OpR X (compareOp o.op) (rDC X.K T (cmpB o)) := by
  cases o
  · exact op_eqB hu
  · exact op_neB hu
  · exact op_ltB
  · exact op_leB
  · exact op_gtB
  · exact op_geB
  · exact op_inB hu
  · exact op_ninB hu
end Py
end
section
set_option maxHeartbeats 1000000
namespace Py
open PySem PySem.Spec PyProof.Rows L2 LamX

/-! ### items, slices -/
theorem Reps.atI {K : PySem.W.Frag} {H : Hp} {l : List D} {xs : List V} {i : Int} {d : D} (r : Reps K H l xs) (e : L2.atI l i = some d) : ∃ v, L2.atI xs i = some v ∧ Rep K H d v := by
  unfold L2.atI at e ⊢
  rw [r.length]
  cases q : ixN l.length i with
  | none => rw [q] at e; cases e
  | some j => rw [q] at e; exact r.get e
def keyOfD : D → Option Key
  | .int i => some (.inl i)
  | .str x => some (.inr x)
  | _ => none
def lookD : List Key → List D → Key → Option D
  | k :: ks, d :: ds, q => if k = q then some d else lookD ks ds q
  | _, _, _ => none
def ixD : D → D → Option D
  | .tup l, .int i => L2.atI l i
  | .lst l, .int i => L2.atI l i
  | .scr l, .int i => (L2.atI l i).map D.int
  | .str z, .int i => (L2.atI z.cps.toList i).bind fun c => if c < 1114112 then some (.str ⟨#[c]⟩) else none
  | .dic ks vs, k => (keyOfD k).bind fun q => lookD ks vs q
  | _, _ => none
def keyV : Key → V := kV
theorem keyOfD_rep {K : PySem.W.Frag} {G H : Hp} {d : D} {k : Key} {v : V} (e : keyOfD d = some k) (h : RepB K G H d v) : v = kV k := by
  cases d <;> simp only [keyOfD, Option.some.injEq, reduceCtorEq] at e
  · subst e; exact h
  · subst e; exact h.2.2
theorem lookD_rep {K : PySem.W.Frag} {H : Hp} {k : Key} {d : D} : ∀ {kvs : List (Key × V)} {vs : List D}, Reps K H vs (kvs.map (·.2)) → lookD (kvs.map (·.1)) vs k = some d → ∃ v, valV kvs k = some v ∧ Rep K H d v
  | [], vs, r, e => by simp [lookD] at e
  | (q, v) :: kvs, [], r, e => by simp [lookD] at e
  | (q, v) :: kvs, d0 :: ds, r, e => by
    obtain ⟨v0, r0, e0, h1, h2⟩ := r
    injection e0 with e1 e2
    subst e1 e2
    simp only [List.map_cons, lookD] at e
    by_cases h : q = k
    · rw [if_pos h] at e
      cases e
      exact ⟨v, valV_pos h, h1⟩
    · rw [if_neg h] at e
      obtain ⟨u, a, b⟩ := lookD_rep h2 e
      exact ⟨u, (valV_neg h).trans a, b⟩
section
variable {X : Cx} {T : Tb}
theorem ix_dic (hu : X.A.units + 65 < cLine) : IxR X (fun x y H Q => ∃ a kvs k v, x = .ref a ∧ H a = some (.dK kvs) ∧ y = kV k ∧ valV kvs k = some v ∧ Q v H) := by
  intro value slice pins s σ H x y v u Q I rx ry h hs
  obtain ⟨a, kvs, k, w', rfl, ha, rfl, hv, q⟩ := h
  cases rx
  have g : DGet H a (kV k) (some w') := by rw [← hv]; exact DGet.k ha
  exact tail_any (dict_typeIs I g) PySem.F.slot_dict_getitem.lookup (d_getItem (by omega) I g ry fun w2 s' I' r => ⟨w', H, I', r, q⟩) hs
theorem atI_map {α β : Type} (f : α → β) (l : List α) (i : Int) : L2.atI (l.map f) i = (L2.atI l i).map f := by
  unfold L2.atI
  rw [List.length_map]
  cases ixN l.length i with
  | none => rfl
  | some j => simp
theorem ix_D (hu : X.A.units + 65 < cLine) : IxR X (rD2 X.K T .sh ixD) := by
  have h := (ix_dic hu).or (ix_seq (X := X))
  intro value slice pins s σ H x y v u Q I rx ry hr hs
  refine h value slice pins s σ H x y v u Q I rx ry ?_ hs
  obtain ⟨Z, d, e, r, hz, ht, hd, he, hg, hq⟩ := hr
  cases d with
  | tup l =>
    cases e <;> simp only [ixD, reduceCtorEq] at hg
    cases he
    obtain ⟨z, a, xs, rfl, ha, ra⟩ := hd
    obtain ⟨v', e1, e2⟩ := ra.atI hg
    exact .inr (.inr (.inl ⟨a, xs, _, v', rfl, rfl, SqT.ext exUnhide ha, e1, hq _ H (Ext.refl ht) e2⟩))
  | lst l =>
    cases e <;> simp only [ixD, reduceCtorEq] at hg
    cases he
    obtain ⟨a, rfl, z, xs, ha, ra⟩ := hd
    obtain ⟨v', e1, e2⟩ := ra.atI hg
    exact .inr (.inl ⟨a, xs, _, v', rfl, rfl, SqL.of ha, e1, hq _ H (Ext.refl ht) e2⟩)
  | scr l =>
    cases e <;> simp only [ixD, reduceCtorEq] at hg
    cases he
    obtain ⟨z, a, rfl, ha⟩ := hd
    rename_i i
    cases q : L2.atI l i with
    | none => rw [q] at hg; cases hg
    | some n =>
      rw [q] at hg
      cases hg
      exact .inr (.inl ⟨a, _, i, .int n, rfl, rfl, SqL.ext exUnhide ha, by rw [atI_map, q]; rfl, hq _ H (Ext.refl ht) rfl⟩)
  | str z =>
    cases e <;> simp only [ixD, reduceCtorEq] at hg
    cases he
    obtain ⟨h1, h2, rfl⟩ := hd
    rename_i i
    cases q : L2.atI z.cps.toList i with
    | none => rw [q] at hg; cases hg
    | some n =>
      rw [q] at hg
      simp only [Option.bind_some] at hg
      split at hg
      · rename_i hc
        cases hg
        exact .inr (.inr (.inr ⟨z, i, n, rfl, rfl, h2, q, hq _ H (Ext.refl ht) ⟨by simp [PyData.strOk, hc], by rw [lim_eq]; exact (by decide : 1 ≤ lim), rfl⟩⟩))
      · cases hg
  | dic ks vs =>
    obtain ⟨a, rfl, kvs, ha, rfl, rv⟩ := hd
    simp only [ixD] at hg
    cases q : keyOfD e with
    | none => rw [q] at hg; cases hg
    | some k =>
      rw [q] at hg
      obtain ⟨w', e1, e2⟩ := lookD_rep rv hg
      exact .inl ⟨a, kvs, k, w', rfl, ha, keyOfD_rep q he, e1, hq _ H (Ext.refl ht) e2⟩
  | _ => simp only [ixD, reduceCtorEq] at hg
/-! ### slices -/
def sIxD (n d : Nat) : Option D → Option Nat
  | none => some d
  | some (.int v) => some (if v < 0 then (v + (n : Int)).toNat else min v.toNat n)
  | _ => none
def cutD {α : Type} (l : List α) (lo hi : Nat) : List α := (l.drop lo).take (hi - lo)
def slD (x : D) (lo hi : Option Int) : Option D := match x with
  | .tup l => some (.tup (cutD l (HT.sIx l.length 0 lo) (HT.sIx l.length l.length hi)))
  | .lst l => some (.lst (cutD l (HT.sIx l.length 0 lo) (HT.sIx l.length l.length hi)))
  | .str z => some (.str (cutS z lo hi))
  | _ => none
def rDS (K : PySem.W.Frag) (T : Tb) (m : Md) (g : D → Option Int → Option Int → Option D) : V → Option Int → Option Int → Hp → VK → Prop := fun x lo hi H Q => ∃ (Z : Addr → Bool) (d r : D), (∀ a, Z a = true → ¬ FreshAt H a) ∧ Tabs T H ∧ RepB K (hide H Z) H d x ∧ g d lo hi = some r ∧
  ∀ v H', Ext T H H' → RepV K Z H H' m r v → Q v H'
theorem cutD_len {α : Type} (l : List α) (lo hi : Nat) : (cutD l lo hi).length ≤ l.length := by
  unfold cutD
  rw [List.length_take, List.length_drop]; omega
theorem cutS_len (z : Str) (lo hi : Option Int) : (cutS z lo hi).length ≤ z.length := by
  unfold cutS Str.length
  simp only [List.size_toArray, List.length_take, List.length_drop, Array.length_toList]
  omega
theorem cutS_ok {z : Str} (lo hi : Option Int) (h : PyData.strOk z = true) : PyData.strOk (cutS z lo hi) = true := by
  unfold PyData.strOk at h ⊢
  rw [Array.all_eq_true_iff_forall_mem] at h ⊢
  intro c hc
  refine h c ?_
  unfold cutS at hc
  have hc' : c ∈ (z.cps.toList.drop (HT.sIx z.length 0 lo)).take (HT.sIx z.length z.length hi - HT.sIx z.length 0 lo) := by simpa using hc
  have := List.mem_of_mem_drop (List.mem_of_mem_take hc')
  simpa using this
theorem sl_D : SlR X (rDS X.K T .sh slD) := by
  have h := SlR.or (sl_list (X := X)) (SlR.or (sl_tupA (X := X)) (sl_str (X := X)))
  intro pins s σ H x v vl vu lo hi sl Q I rx hs pl pu hr
  refine h pins s σ H x v vl vu lo hi sl Q I rx hs pl pu ?_
  obtain ⟨Z, d, r, hz, ht, hd, hg, hq⟩ := hr
  cases d <;> simp only [slD, Option.some.injEq, reduceCtorEq] at hg
  · subst hg
    obtain ⟨h1, h2, rfl⟩ := hd
    exact .inr (.inr ⟨_, rfl, h2, hq _ H (Ext.refl ht) ⟨cutS_ok lo hi h1, Nat.le_trans (cutS_len _ _ _) h2, rfl⟩⟩)
  · subst hg
    rename_i l
    obtain ⟨z, a, xs, rfl, ha, ra⟩ := hd
    have hl := ra.length
    refine .inr (.inl ⟨a, xs, rfl, SqT.ext exUnhide ha, fun hw => ?_, fun hw p np => ?_⟩)
    · rw [hl] at hw
      refine hq _ H (Ext.refl ht) ?_
      have e : cutD l (HT.sIx l.length 0 lo) (HT.sIx l.length l.length hi) = l := by
        unfold cutD
        rw [hw.1, hw.2, List.drop_zero, Nat.sub_zero, List.take_length]
      rw [e]
      exact ⟨z, a, xs, rfl, ha, ra⟩
    · refine hq _ _ (ext_new ht np) (rep_tup ht hz np (Nat.le_trans (cutD_len _ _ _) z) ?_)
      unfold cutV cutD
      rw [hl]
      exact (ra.drop _).take _
  · subst hg
    rename_i l
    obtain ⟨a, rfl, z, xs, ha, ra⟩ := hd
    have hl := ra.length
    refine .inl ⟨a, xs, rfl, SqL.of ha, fun p np => ?_⟩
    refine hq _ _ (ext_new ht np) (rep_lst ht hz np (Nat.le_trans (cutD_len _ _ _) z) ?_)
    unfold cutV cutD
    rw [hl]
    exact (ra.drop _).take _

/-! ### truth -/
def truD : D → Option Bool
  | .non => some false
  | .bl b => some b
  | .int i => some (i != 0)
  | .str z => some ((z.length : Int) != 0)
  | .tup l => some (!l.isEmpty)
  | .lst l => some (!l.isEmpty)
  | .dic ks _ => some (!ks.isEmpty)
  | .scr l => some (!l.isEmpty)
theorem emp {α β : Type} {l : List α} {xs : List β} (h : xs.length = l.length) : (!l.isEmpty) = !xs.isEmpty := by
  cases l <;> cases xs <;> simp at h ⊢
theorem truV_of {K : PySem.W.Frag} {G H : Hp} {d : D} {v : V} {k : Bool} (hG : ExtN G H) (h : RepB K G H d v) (e : truD d = some k) : TruV K v H k := by
  cases d <;> simp only [truD, Option.some.injEq, reduceCtorEq] at e <;> subst e
  · cases h; rfl
  · cases h; rfl
  · cases h; rfl
  · obtain ⟨h1, h2, rfl⟩ := h
    exact ⟨h2, rfl⟩
  · obtain ⟨z, a, xs, rfl, ha, ra⟩ := h
    exact .inr (.inl ⟨xs, SqT.ext hG ha, emp ra.length⟩)
  · obtain ⟨a, rfl, z, xs, ha, ra⟩ := h
    exact .inl ⟨xs, SqL.of ha, emp ra.length⟩
  · obtain ⟨a, rfl, kvs, ha, rfl, rv⟩ := h
    exact .inr (.inr ⟨kvs, ha, emp (by simp)⟩)
  · obtain ⟨z, a, rfl, ha⟩ := h
    exact .inl ⟨_, SqL.ext hG ha, emp (by simp)⟩
/-! ### built-ins -/
def asInts : List D → Option (List Int)
  | [] => some []
  | .int i :: r => (asInts r).map (i :: ·)
  | _ => none
def asBls : List D → Option (List Bool)
  | [] => some []
  | .bl i :: r => (asBls r).map (i :: ·)
  | _ => none
theorem asInts_rep {K : PySem.W.Frag} {H : Hp} : ∀ {l : List D} {ns : List Int} {xs : List V}, asInts l = some ns → Reps K H l xs → xs = ns.map V.int ∧ l = ns.map D.int
  | [], ns, xs, e, r => by cases e; exact ⟨r, rfl⟩
  | d :: l, ns, xs, e, r => by
    cases d <;> simp only [asInts, reduceCtorEq] at e
    rename_i i
    obtain ⟨v, r', rfl, h1, h2⟩ := r
    cases q : asInts l with
    | none => rw [q] at e; cases e
    | some ms =>
      rw [q] at e; cases e
      obtain ⟨e1, e2⟩ := asInts_rep q h2
      cases h1
      exact ⟨by rw [e1]; rfl, by rw [e2]; rfl⟩
theorem asBls_rep {K : PySem.W.Frag} {H : Hp} : ∀ {l : List D} {ns : List Bool} {xs : List V}, asBls l = some ns → Reps K H l xs → xs = ns.map V.bl
  | [], ns, xs, e, r => by cases e; exact r
  | d :: l, ns, xs, e, r => by
    cases d <;> simp only [asBls, reduceCtorEq] at e
    rename_i i
    obtain ⟨v, r', rfl, h1, h2⟩ := r
    cases q : asBls l with
    | none => rw [q] at e; cases e
    | some ms =>
      rw [q] at e; cases e
      cases h1
      rw [asBls_rep q h2]; rfl
theorem repBs1 {K : PySem.W.Frag} {G H : Hp} {d : D} {xs : List V} (h : RepBs K G H [d] xs) : ∃ v, xs = [v] ∧ RepB K G H d v := by
  obtain ⟨v, r, rfl, h1, h2⟩ := h
  cases h2
  exact ⟨v, rfl, h1⟩
theorem repBs2 {K : PySem.W.Frag} {G H : Hp} {d e : D} {xs : List V} (h : RepBs K G H [d, e] xs) : ∃ v u, xs = [v, u] ∧ RepB K G H d v ∧ RepB K G H e u := by
  obtain ⟨v, r, rfl, h1, h2⟩ := h
  obtain ⟨u, rfl, h3⟩ := repBs1 h2
  exact ⟨v, u, rfl, h1, h3⟩
def lenD : List D → Option D
  | [.tup l] => some (.int l.length)
  | [.lst l] => some (.int l.length)
  | [.scr l] => some (.int l.length)
  | [.str z] => some (.int z.length)
  | [.dic ks _] => some (.int ks.length)
  | _ => none
theorem call_lenDic : CallR X (.builtin "len") (fun xs H Q => ∃ a kvs, xs = [.ref a] ∧ H a = some (.dK kvs) ∧ Q (.int kvs.length) H) := by
  intro pins s σ H xs us Q I r h
  obtain ⟨a, kvs, rfl, ha, q⟩ := h
  obtain ⟨u, rfl, rx⟩ := vals1 r
  cases rx
  exact d_len I (.inl ha) fun t s' I' => ⟨.int kvs.length, H, I', ⟨t, rfl⟩, q⟩
theorem CallR.or' {f : Value} {r r' : List V → Hp → VK → Prop} (h : CallR X f r) (h' : CallR X f r') : CallR X f (fun xs H Q => r xs H Q ∨ r' xs H Q) := by
  intro pins s σ H xs us Q I rx q
  rcases q with q | q
  · exact h pins s σ H xs us Q I rx q
  · exact h' pins s σ H xs us Q I rx q
theorem cr_len : CallR X (.builtin "len") (rDL X.K T .sh lenD) := by
  refine callImp (CallR.or' call_len_seq (CallR.or' call_len_str call_lenDic)) fun xs H Q h => ?_
  obtain ⟨Z, ds, r, hz, ht, hd, hg, hq⟩ := h
  match ds, hd, hg with
  | [d], hd, hg =>
    obtain ⟨v, rfl, h1⟩ := repBs1 hd
    cases d <;> simp only [lenD, Option.some.injEq, reduceCtorEq] at hg <;> subst hg
    · obtain ⟨q1, q2, rfl⟩ := h1
      exact .inr (.inl ⟨_, rfl, q2, hq _ H (Ext.refl ht) rfl⟩)
    · obtain ⟨z, a, xs, rfl, ha, ra⟩ := h1
      exact .inl ⟨a, xs, rfl, .inr (SqT.ext exUnhide ha), by rw [ra.length]; exact hq _ H (Ext.refl ht) rfl⟩
    · obtain ⟨a, rfl, z, xs, ha, ra⟩ := h1
      exact .inl ⟨a, xs, rfl, .inl (SqL.of ha), by rw [ra.length]; exact hq _ H (Ext.refl ht) rfl⟩
    · obtain ⟨a, rfl, kvs, ha, rfl, rv⟩ := h1
      refine .inr (.inr ⟨a, kvs, rfl, ha, ?_⟩)
      have := hq _ H (Ext.refl ht) rfl
      simpa using this
    · obtain ⟨z, a, rfl, ha⟩ := h1
      exact .inl ⟨a, _, rfl, .inl (SqL.ext exUnhide ha), by rw [List.length_map]; exact hq _ H (Ext.refl ht) rfl⟩
  | [], hd, hg => cases hg
  | _ :: _ :: _, hd, hg => simp [lenD] at hg
def intD : List D → Option D
  | [.int i] => some (.int i)
  | [.bl b] => some (.int (if b then 1 else 0))
  | _ => none
theorem cr_int : CallR X (.type "int") (rDL X.K T .sh intD) := by
  refine callImp call_int1 fun xs H Q h => ?_
  obtain ⟨Z, ds, r, hz, ht, hd, hg, hq⟩ := h
  match ds, hd, hg with
  | [d], hd, hg =>
    obtain ⟨v, rfl, h1⟩ := repBs1 hd
    cases d <;> simp only [intD, Option.some.injEq, reduceCtorEq] at hg <;> subst hg
    · cases h1
      exact .inr ⟨_, rfl, hq _ H (Ext.refl ht) rfl⟩
    · cases h1
      exact .inl ⟨_, rfl, hq _ H (Ext.refl ht) rfl⟩
  | [], hd, hg => cases hg
  | _ :: _ :: _, hd, hg => simp [intD] at hg
def absD : List D → Option D
  | [.int i] => some (.int (if i < 0 then -i else i))
  | _ => none
theorem cr_abs : CallR X (.builtin "abs") (rDL X.K T .sh absD) := by
  refine callImp call_abs fun xs H Q h => ?_
  obtain ⟨Z, ds, r, hz, ht, hd, hg, hq⟩ := h
  match ds, hd, hg with
  | [d], hd, hg =>
    obtain ⟨v, rfl, h1⟩ := repBs1 hd
    cases d <;> simp only [absD, Option.some.injEq, reduceCtorEq] at hg <;> subst hg
    cases h1
    exact ⟨_, rfl, hq _ H (Ext.refl ht) rfl⟩
  | [], hd, hg => cases hg
  | _ :: _ :: _, hd, hg => simp [absD] at hg
def sumD : List D → Option D
  | [.lst l] => (asInts l).map fun ns => .int ns.sum
  | _ => none
theorem cr_sumD (hc : X.calm = true) : CallR X (.builtin "sum") (rDL X.K T .sh sumD) := by
  refine callImp (cr_sum hc) fun xs H Q h => ?_
  obtain ⟨Z, ds, r, hz, ht, hd, hg, hq⟩ := h
  match ds, hd, hg with
  | [d], hd, hg =>
    obtain ⟨v, rfl, h1⟩ := repBs1 hd
    cases d <;> simp only [sumD, Option.some.injEq, reduceCtorEq] at hg
    rename_i l
    cases q : asInts l with
    | none => rw [q] at hg; cases hg
    | some ns =>
      rw [q] at hg; cases hg
      obtain ⟨a, rfl, z, xs, ha, ra⟩ := h1
      obtain ⟨e1, _⟩ := asInts_rep q ra
      subst e1
      exact ⟨a, ns, rfl, SqL.of ha, hq _ H (Ext.refl ht) rfl⟩
  | [], hd, hg => cases hg
  | _ :: _ :: _, hd, hg => simp [sumD] at hg
def allD : List D → Option D
  | [.lst l] => (asBls l).map fun bs => .bl (bs.all id)
  | _ => none
def anyD : List D → Option D
  | [.lst l] => (asBls l).map fun bs => .bl (bs.any id)
  | _ => none
theorem cr_allD (hc : X.calm = true) : CallR X (.builtin "all") (rDL X.K T .sh allD) := by
  refine callImp (cr_all hc) fun xs H Q h => ?_
  obtain ⟨Z, ds, r, hz, ht, hd, hg, hq⟩ := h
  match ds, hd, hg with
  | [d], hd, hg =>
    obtain ⟨v, rfl, h1⟩ := repBs1 hd
    cases d <;> simp only [allD, Option.some.injEq, reduceCtorEq] at hg
    rename_i l
    cases q : asBls l with
    | none => rw [q] at hg; cases hg
    | some ns =>
      rw [q] at hg; cases hg
      obtain ⟨a, rfl, z, xs, ha, ra⟩ := h1
      have e1 := asBls_rep q ra
      subst e1
      exact ⟨a, ns, rfl, SqL.of ha, hq _ H (Ext.refl ht) rfl⟩
  | [], hd, hg => cases hg
  | _ :: _ :: _, hd, hg => simp [allD] at hg
theorem cr_anyD (hc : X.calm = true) : CallR X (.builtin "any") (rDL X.K T .sh anyD) := by
  refine callImp (cr_any hc) fun xs H Q h => ?_
  obtain ⟨Z, ds, r, hz, ht, hd, hg, hq⟩ := h
  match ds, hd, hg with
  | [d], hd, hg =>
    obtain ⟨v, rfl, h1⟩ := repBs1 hd
    cases d <;> simp only [anyD, Option.some.injEq, reduceCtorEq] at hg
    rename_i l
    cases q : asBls l with
    | none => rw [q] at hg; cases hg
    | some ns =>
      rw [q] at hg; cases hg
      obtain ⟨a, rfl, z, xs, ha, ra⟩ := h1
      have e1 := asBls_rep q ra
      subst e1
      exact ⟨a, ns, rfl, SqL.of ha, hq _ H (Ext.refl ht) rfl⟩
  | [], hd, hg => cases hg
  | _ :: _ :: _, hd, hg => simp [anyD] at hg
/-! max, min -/
def maxI : List Int → Option Int
  | [] => none
  | n :: ns => some (ns.foldl max n)
theorem foldl_max_mem : ∀ (ns : List Int) (n : Int), ns.foldl max n ∈ n :: ns ∧ ∀ y ∈ n :: ns, y ≤ ns.foldl max n
  | [], n => by simp
  | m :: ns, n => by
    obtain ⟨h1, h2⟩ := foldl_max_mem ns (max n m)
    rw [List.foldl_cons]
    refine ⟨?_, fun y hy => ?_⟩
    · rcases List.mem_cons.mp h1 with h | h
      · rw [h]
        by_cases e : n ≤ m
        · rw [Int.max_eq_right e]; exact List.mem_cons_of_mem _ List.mem_cons_self
        · rw [Int.max_eq_left (by omega)]; exact List.mem_cons_self
      · exact List.mem_cons_of_mem _ (List.mem_cons_of_mem _ h)
    · have h3 := h2 (max n m) List.mem_cons_self
      rcases List.mem_cons.mp hy with rfl | hy
      · exact Int.le_trans (Int.le_max_left _ _) h3
      · rcases List.mem_cons.mp hy with rfl | hy
        · exact Int.le_trans (Int.le_max_right _ _) h3
        · exact h2 y (List.mem_cons_of_mem _ hy)
theorem maxI_of {ns : List Int} {m k : Int} (e : maxI ns = some k) (h1 : m ∈ ns) (h2 : ∀ y ∈ ns, y ≤ m) : m = k := by
  cases ns with
  | nil => cases e
  | cons n ns =>
    cases e
    obtain ⟨q1, q2⟩ := foldl_max_mem ns n
    exact Int.le_antisymm (q2 m h1) (h2 _ q1)
def maxD' : List D → Option D
  | [.lst l] => (asInts l).bind fun ns => (maxI ns).map D.int
  | [.tup l] => (asInts l).bind fun ns => (maxI ns).map D.int
  | [.int i, .int j] => some (.int (if j > i then j else i))
  | _ => none
theorem readsInts {h : Heap} : ∀ {ns : List Int} {its : List Value}, Vals (ns.map V.int) its → ∃ as, ReadsAll h its (ns.map PyData.int) as
  | [], its, r => by cases r; exact ⟨[], .nil⟩
  | n :: ns, its, r => by
    cases r with
    | cons r1 r2 =>
      obtain ⟨t, rfl⟩ := r1
      obtain ⟨as, q⟩ := readsInts (h := h) r2
      exact ⟨_, .cons (.int n t) q⟩
theorem call_maxT (hc : X.calm = true) (hu : X.A.units + 65 < cLine) : CallR X (.builtin "max") (fun xs H Q => ∃ a n ns, xs = [.ref a] ∧ SqT X.K H a ((n :: ns).map V.int) ∧ Q (.int (ns.foldl max n)) H) := by
  intro pins s σ H xs us Q I r h
  obtain ⟨a, n, ns, rfl, ha, q⟩ := h
  obtain ⟨u, rfl, rx⟩ := vals1 r
  cases rx
  obtain ⟨its, rv, pl, hz⟩ := I.tuple ha
  obtain ⟨as, hr⟩ := readsInts (h := s.heap) (ns := n :: ns) rv
  refine PySem.W.max_tuple_data (vs := its.toArray) (x := .int n) (xs := ns.map .int) (I.ok.hd hc) pl hr ⟨?_, ?_⟩ ?_ fun i v h' tk bs hv hrd hk => ?_
  · intro x hx y hy
    have hx' : x ∈ (n :: ns).map PyData.int := hx
    have hy' : y ∈ (n :: ns).map PyData.int := hy
    obtain ⟨i, _, rfl⟩ := List.mem_map.mp hx'
    obtain ⟨j, _, rfl⟩ := List.mem_map.mp hy'
    rfl
  · intro x hx
    have hx' : x ∈ (n :: ns).map PyData.int := hx
    obtain ⟨i, _, rfl⟩ := List.mem_map.mp hx'
    intro e; cases e
  · have : PyData.depthAll (PyData.int n :: ns.map PyData.int) = 0 := PySem.W.depth_ints (n :: ns)
    rw [this]; omega
  · rw [PySem.W.maxD_ints] at hrd
    cases hrd
    rename_i t
    exact ⟨.int _, H, I.kept hk, ⟨t, rfl⟩, q⟩
theorem cr_maxD (hc : X.calm = true) (hu : X.A.units + 65 < cLine) : CallR X (.builtin "max") (rDL X.K T .sh maxD') := by
  refine callImp (CallR.or' (cr_max hc) (CallR.or' (call_maxT hc hu) (call_max2 hc))) fun xs H Q h => ?_
  obtain ⟨Z, ds, r, hz, ht, hd, hg, hq⟩ := h
  match ds, hd, hg with
  | [d], hd, hg =>
    obtain ⟨v, rfl, h1⟩ := repBs1 hd
    cases d <;> simp only [maxD', reduceCtorEq] at hg
    · rename_i l
      cases q : asInts l with
      | none => rw [q] at hg; cases hg
      | some ns =>
        rw [q] at hg
        obtain ⟨z, a, xs, rfl, ha, ra⟩ := h1
        obtain ⟨e1, _⟩ := asInts_rep q ra
        subst e1
        cases ns with
        | nil => cases hg
        | cons n ns =>
          cases hg
          exact .inr (.inl ⟨a, n, ns, rfl, SqT.ext exUnhide ha, hq _ H (Ext.refl ht) rfl⟩)
    · rename_i l
      cases q : asInts l with
      | none => rw [q] at hg; cases hg
      | some ns =>
        rw [q] at hg
        obtain ⟨a, rfl, z, xs, ha, ra⟩ := h1
        obtain ⟨e1, _⟩ := asInts_rep q ra
        subst e1
        simp only [Option.bind_some] at hg
        cases e : maxI ns with
        | none => rw [e] at hg; cases hg
        | some k =>
          rw [e] at hg; cases hg
          refine .inl ⟨a, ns, rfl, SqL.of ha, ?_, fun m h1 h2 => ?_⟩
          · cases ns with
            | nil => cases e
            | cons n ns => simp
          · rw [maxI_of e h1 h2]
            exact hq _ H (Ext.refl ht) rfl
  | [d, e], hd, hg =>
    obtain ⟨v, u, rfl, h1, h2⟩ := repBs2 hd
    cases d <;> cases e <;> simp only [maxD', Option.some.injEq, reduceCtorEq] at hg
    subst hg
    cases h1; cases h2
    exact .inr (.inr ⟨_, _, rfl, hq _ H (Ext.refl ht) rfl⟩)
  | [], hd, hg => cases hg
  | _ :: _ :: _ :: _, hd, hg => simp [maxD'] at hg
def minD' : List D → Option D
  | [.int i, .int j] => some (.int (if j < i then j else i))
  | _ => none
theorem cr_minD (hc : X.calm = true) : CallR X (.builtin "min") (rDL X.K T .sh minD') := by
  refine callImp (call_min2 hc) fun xs H Q h => ?_
  obtain ⟨Z, ds, r, hz, ht, hd, hg, hq⟩ := h
  match ds, hd, hg with
  | [d, e], hd, hg =>
    obtain ⟨v, u, rfl, h1, h2⟩ := repBs2 hd
    cases d <;> cases e <;> simp only [minD', Option.some.injEq, reduceCtorEq] at hg
    subst hg
    cases h1; cases h2
    exact ⟨_, _, rfl, hq _ H (Ext.refl ht) rfl⟩
  | [], hd, hg => cases hg
  | [_], hd, hg => simp [minD'] at hg
  | _ :: _ :: _ :: _, hd, hg => simp [minD'] at hg
end
end Py
end
section
namespace Py
/-! ### mergeSort, for the kernel -/
section
variable {α : Type} (le : α → α → Bool)
def mergeF : Nat → List α → List α → List α
  | 0, xs, ys => xs ++ ys
  | k + 1, [], ys => ys
  | k + 1, x :: xs, [] => x :: xs
  | k + 1, x :: xs, y :: ys => if le x y then x :: mergeF k xs (y :: ys) else y :: mergeF k (x :: xs) ys
theorem mergeF_eq : ∀ (k : Nat) (xs ys : List α), xs.length + ys.length ≤ k → mergeF le k xs ys = List.merge xs ys le
  | 0, xs, ys, h => by
    have h1 : xs = [] := List.length_eq_zero_iff.mp (by omega)
    have h2 : ys = [] := List.length_eq_zero_iff.mp (by omega)
    subst h1; subst h2; simp [mergeF]
  | k + 1, [], ys, h => by simp [mergeF]
  | k + 1, x :: xs, [], h => by simp [mergeF]
  | k + 1, x :: xs, y :: ys, h => by
    rw [List.cons_merge_cons]
    simp only [mergeF]
    simp only [List.length_cons] at h
    rw [mergeF_eq k xs (y :: ys) (by simp only [List.length_cons]; omega), mergeF_eq k (x :: xs) ys (by simp only [List.length_cons]; omega)]
def sortF : Nat → List α → List α
  | 0, l => l
  | k + 1, [] => []
  | k + 1, [a] => [a]
  | k + 1, a :: b :: l => mergeF le (l.length + 2) (sortF k ((a :: b :: l).take ((l.length + 3) / 2))) (sortF k ((a :: b :: l).drop ((l.length + 3) / 2)))
theorem sortF_eq : ∀ (k : Nat) (l : List α), l.length ≤ k → sortF le k l = l.mergeSort le
  | 0, l, h => by
    have h1 : l = [] := List.length_eq_zero_iff.mp (by omega)
    subst h1; simp [sortF]
  | k + 1, [], h => by simp [sortF]
  | k + 1, [a], h => by simp [sortF]
  | k + 1, a :: b :: l, h => by
    simp only [List.length_cons] at h
    rw [List.mergeSort]
    simp only [sortF, List.MergeSort.Internal.splitInTwo_fst, List.MergeSort.Internal.splitInTwo_snd]
    have e : (l.length + 1 + 1 + 1) / 2 = (l.length + 3) / 2 := rfl
    simp only [List.length_cons]
    rw [sortF_eq k _ (by rw [List.length_take, List.length_cons, List.length_cons]; omega), sortF_eq k _ (by rw [List.length_drop, List.length_cons, List.length_cons]; omega)]
    rw [mergeF_eq]
    rw [List.length_mergeSort, List.length_mergeSort, List.length_take, List.length_drop, List.length_cons, List.length_cons]; omega
end
def srt {α : Type} (le : α → α → Bool) (l : List α) : List α := sortF le l.length l
theorem srt_eq {α : Type} (le : α → α → Bool) (l : List α) : srt le l = l.mergeSort le := sortF_eq le _ l (Nat.le_refl _)
end Py
end
section
set_option maxHeartbeats 1000000
namespace Py
open PySem PySem.Spec PyProof.Rows L2 LamX

/-! ### sorted -/
def leD (a b : D) : Bool := !PySem.W.dataLt (toPy b) (toPy a)
def alikeL (l : List PyData) : Bool := l.all fun x => l.all fun y => PySem.W.alike x y
def isTupNE : PyData → Bool
  | .tuple (_ :: _) => true
  | _ => false
def notTupN : PyData → Bool
  | .tuple _ => false
  | .none => false
  | _ => true
def sortOk (l : List D) : Bool := nods l && decide (deps l ≤ 60) && alikeL (toPys l) && ((toPys l).all isTupNE || (toPys l).all notTupN)
/-! for the kernel: data of one frame -/
mutual
def rig : D → D → Bool
  | .bl _, .bl _ => true
  | .int _, .int _ => true
  | .str _, .str _ => true
  | .tup xs, .tup ys => rigs xs ys
  | _, _ => false
def rigs : List D → List D → Bool
  | [], [] => true
  | x :: xs, y :: ys => rig x y && rigs xs ys
  | _, _ => false
end
def rigL : List D → Bool
  | [] => true
  | x :: l => rig x x && l.all (rig x)
mutual
theorem rig_alike : ∀ x y z : D, rig x y = true → rig x z = true → PySem.W.alike (toPy y) (toPy z) = true
  | .bl _, .bl _, .bl _, _, _ => by simp [toPy, PySem.W.alike]
  | .int _, .int _, .int _, _, _ => by simp [toPy, PySem.W.alike]
  | .str _, .str _, .str _, _, _ => by simp [toPy, PySem.W.alike]
  | .tup xs, .tup ys, .tup zs, h1, h2 => by
    simp only [toPy, PySem.W.alike]
    exact rigs_alike xs ys zs (by simpa [rig] using h1) (by simpa [rig] using h2)
theorem rigs_alike : ∀ xs ys zs : List D, rigs xs ys = true → rigs xs zs = true → PySem.W.alikeAll (toPys ys) (toPys zs) = true
  | [], [], [], _, _ => by simp [toPys, PySem.W.alikeAll]
  | x :: xs, y :: ys, z :: zs, h1, h2 => by
    simp only [rigs, Bool.and_eq_true] at h1 h2
    simp only [toPys, PySem.W.alikeAll, Bool.and_eq_true]
    exact ⟨rig_alike x y z h1.1 h2.1, rigs_alike xs ys zs h1.2 h2.2⟩
end
theorem toPys_map0 : ∀ l : List D, toPys l = l.map toPy
  | [] => rfl
  | d :: l => by rw [List.map_cons, ← toPys_map0 l]; rfl
theorem rigL_alike : ∀ l : List D, rigL l = true → alikeL (toPys l) = true
  | [], _ => rfl
  | x :: l, h => by
    simp only [rigL, Bool.and_eq_true, List.all_eq_true] at h
    have hx : ∀ y ∈ x :: l, rig x y = true := fun y hy => by
      rcases List.mem_cons.mp hy with rfl | hy
      · exact h.1
      · exact h.2 y hy
    unfold alikeL
    rw [toPys_map0]
    simp only [List.all_eq_true, List.mem_map]
    rintro _ ⟨y, hy, rfl⟩ _ ⟨z, hz, rfl⟩
    exact rig_alike x y z (hx y hy) (hx z hz)
def sortOkF (l : List D) : Bool := nods l && decide (deps l ≤ 60) && (rigL l || alikeL (toPys l)) && ((toPys l).all isTupNE || (toPys l).all notTupN)
theorem sortOkF_eq (l : List D) : sortOkF l = sortOk l := by
  unfold sortOkF sortOk
  have : (rigL l || alikeL (toPys l)) = alikeL (toPys l) := by
    cases h : rigL l
    · rfl
    · rw [rigL_alike l h]; rfl
  rw [this]
/-! for the kernel: a fast comparison -/
def cmpI : Int → Int → Ordering
  | .ofNat a, .ofNat b => if Nat.blt a b then .lt else if Nat.beq a b then .eq else .gt
  | .ofNat _, .negSucc _ => .gt
  | .negSucc _, .ofNat _ => .lt
  | .negSucc a, .negSucc b => if Nat.blt b a then .lt else if Nat.beq a b then .eq else .gt
theorem cmpI_lt (a b : Int) : (decide (a < b) = match cmpI a b with | .lt => true | _ => false) ∧ (decide (b < a) = match cmpI a b with | .gt => true | _ => false) := by
  have nb : ∀ x y : Nat, Nat.blt x y = decide (x < y) := fun x y => by
    rw [Bool.eq_iff_iff, Nat.blt_eq, decide_eq_true_eq]
  have ne : ∀ x y : Nat, Nat.beq x y = decide (x = y) := fun x y => by
    rw [Bool.eq_iff_iff, Nat.beq_eq, decide_eq_true_eq]
  cases a <;> cases b <;> simp only [cmpI, nb, ne, Int.ofNat_eq_natCast]
  · rename_i a b
    rcases Nat.lt_trichotomy a b with h | h | h
    · simp only [h, decide_true, if_true]
      exact ⟨decide_eq_true (by simpa using h), decide_eq_false (by simp; omega)⟩
    · subst h; simp
    · have h1 : ¬ a < b := by omega
      have h2 : ¬ a = b := by omega
      simp only [h1, h2, decide_false, if_false]
      exact ⟨decide_eq_false (by simp; omega), decide_eq_true (by simpa using h)⟩
  · exact ⟨decide_eq_false (by omega), decide_eq_true (by omega)⟩
  · exact ⟨decide_eq_true (by omega), decide_eq_false (by omega)⟩
  · rename_i a b
    rcases Nat.lt_trichotomy b a with h | h | h
    · simp only [h, decide_true, if_true]
      exact ⟨decide_eq_true (by omega), decide_eq_false (by omega)⟩
    · subst h; simp
    · have h1 : ¬ b < a := by omega
      have h2 : ¬ a = b := by omega
      simp only [h1, h2, decide_false, if_false]
      exact ⟨decide_eq_false (by omega), decide_eq_true (by omega)⟩
mutual
def cmpD : D → D → Option Ordering
  | .bl a, .bl b => some (if a then (if b then .eq else .gt) else (if b then .lt else .eq))
  | .int a, .int b => some (cmpI a b)
  | .tup xs, .tup ys => cmpDs xs ys
  | _, _ => none
def cmpDs : List D → List D → Option Ordering
  | [], [] => some .eq
  | x :: xs, y :: ys => match cmpD x y with
    | some .lt => some .lt
    | some .eq => cmpDs xs ys
    | some .gt => some .gt
    | none => none
  | [], _ :: _ => some .lt
  | _ :: _, [] => some .gt
end
def ordB (o : Ordering) (b : Bool) : Bool := match o with
  | .lt => true
  | .eq => b
  | .gt => false
theorem lex_num (a b : Int) (s t : List (Int ⊕ List Nat)) : PyProof.Rows.lexLt itemOrd (.inl a :: s) (.inl b :: t) = ordB (cmpI a b) (PyProof.Rows.lexLt itemOrd s t) := by
  obtain ⟨h1, h2⟩ := cmpI_lt a b
  rw [PyProof.Rows.lex_cons (O := itemOrd)]
  show (decide (a < b) || (!decide (b < a) && _)) = _
  rw [h1, h2]
  cases cmpI a b <;> simp [ordB]
mutual
theorem cmpD_lex : ∀ (x y : D) (o : Ordering) (s t : List (Int ⊕ List Nat)), cmpD x y = some o → PyProof.Rows.lexLt itemOrd (PySem.W.keyToks (toPy x) ++ s) (PySem.W.keyToks (toPy y) ++ t) = ordB o (PyProof.Rows.lexLt itemOrd s t)
  | .bl a, .bl b, o, s, t, h => by
    simp only [toPy, PySem.W.keyToks, List.cons_append, List.nil_append]
    rw [lex_num]
    simp only [cmpD, Option.some.injEq] at h
    subst h
    cases a <;> cases b <;> rfl
  | .int a, .int b, o, s, t, h => by
    simp only [toPy, PySem.W.keyToks, List.cons_append, List.nil_append]
    rw [lex_num]
    simp only [cmpD, Option.some.injEq] at h
    rw [h]
  | .tup xs, .tup ys, o, s, t, h => by
    simp only [toPy, PySem.W.keyToks]
    exact cmpDs_lex xs ys o s t (by simpa only [cmpD] using h)
theorem cmpDs_lex : ∀ (x y : List D) (o : Ordering) (s t : List (Int ⊕ List Nat)), cmpDs x y = some o → PyProof.Rows.lexLt itemOrd (PySem.W.keyToksAll (toPys x) ++ s) (PySem.W.keyToksAll (toPys y) ++ t) = ordB o (PyProof.Rows.lexLt itemOrd s t)
  | [], [], o, s, t, h => by
    simp only [cmpDs, Option.some.injEq] at h
    subst h
    simp only [toPys, PySem.W.keyToksAll, List.cons_append, List.nil_append]
    rw [lex_num]; rfl
  | x :: xs, y :: ys, o, s, t, h => by
    simp only [toPys, PySem.W.keyToksAll, List.cons_append, List.append_assoc]
    rw [lex_num]
    show PyProof.Rows.lexLt itemOrd _ _ = _
    simp only [cmpDs] at h
    cases q : cmpD x y with
    | none => rw [q] at h; cases h
    | some p =>
      rw [q] at h
      rw [cmpD_lex x y p _ _ q]
      cases p with
      | lt => cases h; rfl
      | gt => cases h; rfl
      | eq => exact cmpDs_lex xs ys o s t h
  | [], y :: ys, o, s, t, h => by
    simp only [cmpDs, Option.some.injEq] at h
    subst h
    simp only [toPys, PySem.W.keyToksAll, List.cons_append, List.nil_append]
    rw [lex_num]; rfl
  | x :: xs, [], o, s, t, h => by
    simp only [cmpDs, Option.some.injEq] at h
    subst h
    simp only [toPys, PySem.W.keyToksAll, List.cons_append, List.nil_append]
    rw [lex_num]; rfl
end
def ltF (a b : D) : Bool := match cmpD a b with
  | some .lt => true
  | some _ => false
  | none => PySem.W.dataLt (toPy a) (toPy b)
theorem ltF_eq (a b : D) : ltF a b = PySem.W.dataLt (toPy a) (toPy b) := by
  unfold ltF
  cases q : cmpD a b with
  | none => rfl
  | some o =>
    have := cmpD_lex a b o [] [] q
    rw [List.append_nil, List.append_nil] at this
    unfold PySem.W.dataLt
    rw [this]
    cases o <;> rfl
def leF (a b : D) : Bool := !ltF b a
theorem leF_eq : leF = leD := by
  funext a b
  unfold leF leD
  rw [ltF_eq]
def sortL (l : List D) : Option (List D) := if sortOkF l then some (srt leF l) else none
theorem sortL_eq (l : List D) : sortL l = if sortOk l then some (l.mergeSort leD) else none := by
  unfold sortL
  rw [sortOkF_eq, srt_eq, leF_eq]
theorem toPys_map : ∀ l : List D, toPys l = l.map toPy
  | [] => rfl
  | d :: l => by rw [List.map_cons, ← toPys_map l]; rfl
theorem nods_mem : ∀ {l : List D}, nods l = true → ∀ d ∈ l, nod d = true
  | d0 :: l, h, d, hd => by
    have h' : (nod d0 && nods l) = true := h
    rw [Bool.and_eq_true] at h'
    rcases List.mem_cons.mp hd with rfl | hd
    · exact h'.1
    · exact nods_mem h'.2 d hd
theorem deps_mem : ∀ {l : List D} {d : D}, d ∈ l → dep d ≤ deps l
  | d0 :: l, d, hd => by
    simp only [deps]
    rcases List.mem_cons.mp hd with rfl | hd
    · omega
    · have := deps_mem hd; omega
def RU (K : PySem.W.Frag) (G : Hp) (u : Value) (d : D) : Prop := ∃ x : V, RelV x u ∧ Rep K G d x
theorem each_of {K : PySem.W.Frag} {G : Hp} : ∀ {l : List D} {xs : List V} {its : List Value}, Reps K G l xs → Vals xs its → PySem.W.EachIs (RU K G) its l
  | [], xs, its, r, v => by
    rw [show xs = [] from r] at v
    cases v; exact .nil
  | d :: l, xs, its, r, v => by
    obtain ⟨x, r', rfl, h1, h2⟩ := r
    cases v with
    | cons a b => exact .cons ⟨x, a, h1⟩ (each_of h2 b)
theorem each_back {K : PySem.W.Frag} {G : Hp} : ∀ {l : List D} {its : List Value}, PySem.W.EachIs (RU K G) its l → ∃ xs, Vals xs its ∧ Reps K G l xs
  | _, _, .nil => ⟨[], .nil, rfl⟩
  | _, _, .cons ⟨x, a, h1⟩ r => by
    obtain ⟨xs, q1, q2⟩ := each_back r
    exact ⟨x :: xs, .cons a q1, x, xs, rfl, h1, q2⟩
section
variable {X : Cx} {T : Tb}
theorem each_reads {pins : List (Addr × Obj)} {σ : L2.St} {H : Hp} {s : Shared} (I : Inv X pins σ H s) : ∀ {l : List D} {xs : List V} {its : List Value}, nods l = true → Reps X.K H l xs → Vals xs its →
    PySem.W.EachIs (fun v d => ∃ as, Reads s.heap v (toPy d) as) its l
  | [], xs, its, n, r, v => by
    rw [show xs = [] from r] at v
    cases v; exact .nil
  | d :: l, xs, its, n, r, v => by
    obtain ⟨x, r', rfl, h1, h2⟩ := r
    have n' : (nod d && nods l) = true := n
    rw [Bool.and_eq_true] at n'
    cases v with
    | cons a b => exact .cons (Dp.reads I _ x _ (Rep.dp d x n'.1 h1).1 a) (each_reads I n'.2 h2 b)
def sortedD : List D → Option D
  | [.lst l] => (sortL l).map D.lst
  | _ => none
theorem cr_sortedD' (hu : X.A.units + 100 < cLine) : CallR X (.builtin "sorted") (rDL X.K T .fr sortedD) := by
  intro pins s σ H xs us Q I rr h
  obtain ⟨Z, ds, r, hz, ht, hd, hg, hq⟩ := h
  match ds, hd, hg with
  | [d], hd, hg =>
    obtain ⟨v, rfl, h1⟩ := repBs1 hd
    cases d <;> simp only [sortedD, sortL_eq, reduceCtorEq] at hg
    rename_i l
    split at hg
    · rename_i hc
      cases hg
      simp only [sortOk, Bool.and_eq_true, decide_eq_true_eq] at hc
      obtain ⟨⟨⟨c1, c2⟩, c3⟩, c4⟩ := hc
      obtain ⟨u, rfl, rx⟩ := vals1 rr
      obtain ⟨a, rfl, z, xs, ha, ra⟩ := h1
      cases rx
      obtain ⟨its, rv, pl, hzz⟩ := I.list (SqL.of ha)
      have raH : Reps X.K H l xs := Reps.ext exUnhide l xs ra
      refine PySem.W.sorted_data (β := D) (enc := toPy) (R := RU X.K (hide H Z)) (bs := l) (vs := its) pl.isList (each_of ra rv) (each_reads I c1 raH rv) ?_ ?_ z ?_ fun out hlen hout => ?_
      · intro x hx y hy
        rw [← toPys_map] at hx hy
        exact List.all_eq_true.mp (List.all_eq_true.mp c3 x hx) y hy
      · rw [Bool.or_eq_true] at c4
        rw [← toPys_map]
        rcases c4 with c4 | c4
        · refine .inl fun d hd => ?_
          have := List.all_eq_true.mp c4 d hd
          cases d <;> simp only [isTupNE, reduceCtorEq] at this
          rename_i t
          cases t with
          | nil => simp at this
          | cons x r => exact ⟨x, r, rfl⟩
        · refine .inr fun d hd => ?_
          have := List.all_eq_true.mp c4 d hd
          cases d <;> simp [notTupN] at this ⊢
      · intro d hd
        have h1 := dep_py d
        have h2 := deps_mem hd
        omega
      · obtain ⟨ys, v1, v2⟩ := each_back hout
        obtain ⟨ep, he'⟩ := PyProof.Rows.sortedAll_at s.heap its out.toArray
        have hl2 : (l.mergeSort leD).length ≤ sizeLine := by rw [List.length_mergeSort]; exact z
        have np : H (s.heap.objs.size + 1) = none := I.hok.fresh (Nat.le_succ _)
        have e0 : (l.mergeSort (PySem.W.dataLe false toPy)) = l.mergeSort leD := rfl
        rw [e0] at v2
        refine ⟨.ref _, upd H (s.heap.objs.size + 1) (.lst ys), I.laid (t' := s.toks) (fun _ _ => PyProof.Rows.sortedAll_old) (Nat.le_succ _) ⟨by rw [v2.length]; exact hl2, out, ep, v1, he'⟩, rfl, ?_⟩
        exact hq _ _ (ext_new ht np) ⟨_, rfl, .inl np, own_lst hl2 (.inl np) v2⟩
    · cases hg
  | [], hd, hg => cases hg
  | _ :: _ :: _, hd, hg => simp [sortedD] at hg
/-! ### list(x), tuple(x) -/
def keyD : Key → D
  | .inl i => .int i
  | .inr x => .str x
def listD : List D → Option D
  | [.lst l] => some (.lst l)
  | [.tup l] => some (.lst l)
  | _ => none
theorem cr_listD : CallR X (.type "list") (rDL X.K T .fr listD) := by
  refine callImp call_list_of fun xs H Q h => ?_
  obtain ⟨Z, ds, r, hz, ht, hd, hg, hq⟩ := h
  match ds, hd, hg with
  | [d], hd, hg =>
    obtain ⟨v, rfl, h1⟩ := repBs1 hd
    cases d <;> simp only [listD, Option.some.injEq, reduceCtorEq] at hg <;> subst hg
    · obtain ⟨z, a, xs, rfl, ha, ra⟩ := h1
      exact ⟨a, xs, rfl, .inr (SqT.ext exUnhide ha), fun l hl => hq _ _ (ext_new ht hl) ⟨_, rfl, .inl hl, own_lst z (.inl hl) ra⟩⟩
    · obtain ⟨a, rfl, z, xs, ha, ra⟩ := h1
      exact ⟨a, xs, rfl, .inl (SqL.of ha), fun l hl => hq _ _ (ext_new ht hl) ⟨_, rfl, .inl hl, own_lst z (.inl hl) ra⟩⟩
  | [], hd, hg => cases hg
  | _ :: _ :: _, hd, hg => simp [listD] at hg
def tupleD : List D → Option D
  | [.lst l] => some (.tup l)
  | [.tup l] => some (.tup l)
  | _ => none
theorem cr_tupleD : CallR X (.type "tuple") (rDL X.K T .sh tupleD) := by
  refine callImp call_tuple_of fun xs H Q h => ?_
  obtain ⟨Z, ds, r, hz, ht, hd, hg, hq⟩ := h
  match ds, hd, hg with
  | [d], hd, hg =>
    obtain ⟨v, rfl, h1⟩ := repBs1 hd
    cases d <;> simp only [tupleD, Option.some.injEq, reduceCtorEq] at hg <;> subst hg
    · obtain ⟨z, a, xs, rfl, ha, ra⟩ := h1
      exact ⟨a, xs, rfl, .inr ⟨SqT.ext exUnhide ha, hq _ H (Ext.refl ht) ⟨z, a, xs, rfl, ha, ra⟩⟩⟩
    · obtain ⟨a, rfl, z, xs, ha, ra⟩ := h1
      exact ⟨a, xs, rfl, .inl ⟨SqL.of ha, fun l hl => hq _ _ (ext_new ht hl) (rep_tup ht hz hl z ra)⟩⟩
  | [], hd, hg => cases hg
  | _ :: _ :: _, hd, hg => simp [tupleD] at hg
/-! ### isinstance -/
inductive Ty where | int | bool | str | tuple | list | dict
  deriving DecidableEq
def Ty.nm : Ty → String
  | .int => "int" | .bool => "bool" | .str => "str" | .tuple => "tuple" | .list => "list" | .dict => "dict"
def isTy : Ty → D → Bool
  | .int, .int _ => true
  | .int, .bl _ => true
  | .bool, .bl _ => true
  | .str, .str _ => true
  | .tuple, .tup _ => true
  | .list, .lst _ => true
  | .list, .scr _ => true
  | .dict, .dic _ _ => true
  | _, _ => false
def tyN : D → String
  | .non => "NoneType" | .bl _ => "bool" | .int _ => "int" | .str _ => "str" | .tup _ => "tuple" | .lst _ => "list" | .scr _ => "list" | .dic _ _ => "dict"
theorem kit_all : ∀ a ∈ ["NoneType", "bool", "int", "str", "tuple", "list", "dict"], ∀ t : Ty, kitB a t.nm = some (match t with
    | .int => a == "int" || a == "bool" | .bool => a == "bool" | .str => a == "str" | .tuple => a == "tuple" | .list => a == "list" | .dict => a == "dict") := by
  intro a ha t
  simp only [List.mem_cons, List.not_mem_nil, or_false] at ha
  rcases ha with rfl | rfl | rfl | rfl | rfl | rfl | rfl <;> cases t <;> decide +kernel
theorem kit_D (d : D) (t : Ty) : kitB (tyN d) t.nm = some (isTy t d) := by
  rw [kit_all _ (by cases d <;> simp [tyN])]
  cases d <;> cases t <;> simp [tyN, isTy]
theorem tyX_of {K : PySem.W.Frag} {H : Hp} {d : D} {v : V} (h : Rep K H d v) : TyX K H v (.type (tyN d)) := by
  cases d with
  | non => cases h; exact .base .non
  | bl b => cases h; exact .base (.bl b)
  | int i => cases h; exact .base (.int i)
  | str x => obtain ⟨_, _, rfl⟩ := h; exact .base (.str x)
  | tup l =>
    obtain ⟨z, a, xs, rfl, ha, _⟩ := h
    rcases ha with (ha | ⟨o, ha⟩) | ⟨o, its, n, e, c, _⟩
    · exact .base (.tup ha)
    · exact .fTuple ha
    · exact .kTuple e c
  | lst l =>
    obtain ⟨z, a, xs, rfl, ha, _⟩ := h
    exact .base (.lst ha)
  | scr l =>
    obtain ⟨z, a, rfl, ha⟩ := h
    rcases ha with (ha | ⟨o, ha⟩) | ⟨o, its, n, e, c, _⟩
    · exact .base (.lst ha)
    · exact .base (.frz ha)
    · exact .kList e c
  | dic ks vs =>
    obtain ⟨a, kvs, rfl, ha, _, _⟩ := h
    exact .base (.dK ha)
end
end Py
end
section
set_option maxHeartbeats 1000000
namespace Py
open PySem PySem.Spec PyProof.Rows L2 LamX

/-! ### what stands where, by Bool -/
def notStar : Expr → Bool
  | .Starred _ _ => false
  | _ => true
theorem star_of {e : Expr} (h : notStar e = true) (es : List Expr) (env : PySem.Env) : starEach (e :: es) env = (false, eval e env) :: starEach es env := by
  cases e <;> first | rfl | cases h
theorem stars_of : ∀ {es : List Expr} (h : es.all notStar = true) (env : PySem.Env), starEach es env = es.map fun e => (false, eval e env)
  | [], _, _ => rfl
  | e :: es, h, env => by
    rw [List.all_cons, Bool.and_eq_true] at h
    rw [star_of h.1, stars_of h.2]; rfl
theorem back_any {pos : Pos} : ∀ {l : List (Bool × Sem Value)}, (∀ p ∈ l, p.1 = false) → (backTo pos l).any (·.1) = false
  | [], _ => rfl
  | p :: l, h => by
    have h1 := h p List.mem_cons_self
    have h2 := back_any (pos := pos) fun q hq => h q (List.mem_cons_of_mem _ hq)
    show (p.1 || (backTo pos l).any (·.1)) = false
    rw [h1, h2]; rfl
theorem back_star {pos : Pos} {es : List Expr} (h : es.all notStar = true) (env : PySem.Env) : (backTo pos (starEach es env)).any (·.1) = false := by
  rw [stars_of h]
  refine back_any fun p hp => ?_
  obtain ⟨e, _, rfl⟩ := List.mem_map.mp hp
  rfl
def notSet : Expr → Bool
  | .Set _ _ _ => false
  | _ => true
theorem fold_of {e : Expr} (h : notSet e = true) (env : PySem.Env) (x : Value) : foldedSetIterable e env x = pure x := by
  cases e <;> first | rfl | cases h
theorem behind_of {e : Expr} {op : CmpOp} (h : notSet e = true) : behindInMarks op e = false := by
  cases e <;> first | rfl | cases h
def notSlice : Expr → Bool
  | .Slice _ _ _ _ => false
  | _ => true
theorem plainIx_of {e : Expr} (h : notSlice e = true) : PlainIx e := by
  intro o i
  cases e <;> first | rfl | cases h
def plainTest : Expr → Bool
  | .UnaryOp _ _ _ => false
  | .BoolOp _ _ _ => false
  | .IfExp _ _ _ _ => false
  | .Compare _ _ _ _ => false
  | _ => true
theorem test_of {e : Expr} (h : plainTest e = true) (env : PySem.Env) (whole : Sem Value) : isTrue e env whole = (do let v ← whole; standAt e.pos; holding [v] (truthy v)) := by
  cases e <;> first | rfl | cases h
def notComp : Expr → Bool
  | .ListComp _ _ _ _ => false
  | .SetComp _ _ _ _ => false
  | .DictComp _ _ _ _ _ => false
  | _ => true
theorem swaps_of {e : Expr} (h : notComp e = true) (t : Option Expr) (l : Nat) (env : PySem.Env) : swapsWith e t l env = pure false := by
  cases e <;> first | rfl | cases h
def notCallee : Expr → Bool
  | .Call (.Name _ _) [] [] _ => false
  | _ => true
theorem base_of {e : Expr} (h : notCallee e = true) (attr : Str) (env : PySem.Env) (w : Sem Value) : attributeBase e attr env w = w := by
  unfold attributeBase
  split
  · cases h
  · rfl

/-! ### expressions -/
section
variable {X : Cx} {T : Tb} {W : WX} {pos : Pos} {j : Nat}
theorem d_const {e : Expr} {v : V} {d : D} (h : PE X e (tC v)) (r : ∀ H, Rep X.K H d v) : PE X e (tD X.K T W .sh fun _ => .ok d) :=
  peImp h fun σ H Q ⟨ρ, Z, st, p⟩ => p v H (Ext.refl st.tabs) (r _)
theorem d_int {i : Int} : PE X (.Constant (.int i) j pos) (tD X.K T W .sh fun _ => .ok (.int i)) := d_const pe_int fun _ => rfl
theorem d_bl {i : Bool} : PE X (.Constant (.bool i) j pos) (tD X.K T W .sh fun _ => .ok (.bl i)) := d_const pe_bl fun _ => rfl
theorem d_non : PE X (.Constant .none j pos) (tD X.K T W .sh fun _ => .ok .non) := d_const pe_non fun _ => rfl
def strFine (x : Str) : Bool := PyData.strOk x && decide (x.length ≤ lim)
theorem d_str {x : Str} (h : strFine x = true) : PE X (.Constant (.str x) j pos) (tD X.K T W .sh fun _ => .ok (.str x)) := by
  simp only [strFine, Bool.and_eq_true, decide_eq_true_eq] at h
  exact d_const pe_str fun _ => ⟨h.1, by rw [lim_eq]; exact h.2, rfl⟩
def varD (i : Nat) (ρ : Env) : RR D := match ρ[i]? with
  | some (some (false, d)) => .ok d
  | _ => .bad
def ownD (i : Nat) (ρ : Env) : RR D := match ρ[i]? with
  | some (some (_, d)) => .ok d
  | _ => .bad
theorem d_var {i : Nat} {x : Str} (hN : X.N[i]? = some x) (hv : Vis X.env.scope x) (hd : (x == ("__debug__" : Str)) = false) (hcd : (x == ("__classdict__" : Str)) = false) : PE X (.Name x pos) (tD X.K T W .sh (varD i)) := by
  refine peImp (pe_var hN hv hd hcd) fun σ H Q ⟨ρ, Z, st, p⟩ => ?_
  unfold varD at p
  split at p
  · rename_i d e
    obtain ⟨v, e1, e2⟩ := st.slot i _ e
    exact ⟨v, e1, p v H (Ext.refl st.tabs) e2⟩
  · exact p.elim
theorem d_own {i : Nat} {x : Str} (hN : X.N[i]? = some x) (hv : Vis X.env.scope x) (hd : (x == ("__debug__" : Str)) = false) (hcd : (x == ("__classdict__" : Str)) = false) : PE X (.Name x pos) (tD X.K T W .bo (ownD i)) := by
  refine peImp (pe_var hN hv hd hcd) fun σ H Q ⟨ρ, Z, st, p⟩ => ?_
  unfold ownD at p
  split at p
  · rename_i o d e
    obtain ⟨v, e1, e2⟩ := st.slot i _ e
    refine ⟨v, e1, p v H (Ext.refl st.tabs) ?_⟩
    cases o with
    | true =>
      obtain ⟨a, rfl, _, e2⟩ := e2
      exact OwnAt.b e2
    | false => exact Rep.b exUnhide e2
  · exact p.elim
theorem d_con {x : Str} {v : V} {u : Value} {d : D} (hg : Gl X x) (hm : X.mg x = some u) (r : RelV v u) (hr : ∀ H, Rep X.K H d v) (hd : (x == ("__debug__" : Str)) = false) : PE X (.Name x pos) (tD X.K T W .sh fun _ => .ok d) :=
  d_const (pe_glob hg hm r hd) hr
/-- a result of another kind -/
theorem Post.sh {K : PySem.W.Frag} {Z : Addr → Bool} {σ : L2.St} {H : Hp} {m : Md} {Q : VK} {r : RR D} (hm : m ≠ .bo) (hz : ∀ a, Z a = true → ¬ FreshAt H a) (h : Post K T Z W σ H .sh Q r) : Post K T Z W σ H m Q r := by
  cases r with
  | ok d => exact fun v H' e q => h v H' e (q.sh hm hz)
  | ex c => exact h
  | bad => exact h
theorem d_sh {e : Expr} {m : Md} {f : Env → RR D} (hm : m ≠ .bo) (h : PE X e (tD X.K T W m f)) : PE X e (tD X.K T W .sh f) :=
  peImp h fun σ H Q ⟨ρ, Z, st, p⟩ => ⟨ρ, Z, st, p.sh hm st.zdom⟩
theorem d_bin {a b : Expr} {op : Operator} {m ma mb : Md} {g : D → D → Option D} {fa fb : Env → RR D} (ho : OpR X (binaryOp op) (rD2 X.K T m g)) (ha : PE X a (tD X.K T W ma fa)) (hb : PE X b (tD X.K T W mb fb)) :
    PE X (.BinOp a op b pos) (tD X.K T W m fun ρ => do let x ← fa ρ; let y ← fb ρ; RR.of (g x y)) := by
  refine peImp (pe_op ho ha hb) fun σ H Q ⟨ρ, Z, st, p⟩ => ⟨ρ, Z, st, Post.then p fun d v H1 _ e1 r1 p1 => ⟨ρ, Z, st.ext e1, Post.then p1 fun d2 v2 H2 _ e2 r2 p2 => ?_⟩⟩
  cases q : g d d2 with
  | none => rw [q] at p2; exact p2.elim
  | some r =>
    rw [q] at p2
    exact ⟨Z, d, d2, r, (st.ext (e1.trans e2)).zdom, e2.tabs, (r1.ext e2.ext).b, r2.b, q, p2⟩
theorem d_ix {a b : Expr} {m ma mb : Md} {g : D → D → Option D} {fa fb : Env → RR D} (ho : IxR X (rD2 X.K T m g)) (ha : PE X a (tD X.K T W ma fa)) (hb : PE X b (tD X.K T W mb fb)) (hs : notSlice b = true) :
    PE X (.Subscript a b pos) (tD X.K T W m fun ρ => do let x ← fa ρ; let y ← fb ρ; RR.of (g x y)) := by
  refine peImp (pe_ix ho ha hb (plainIx_of hs)) fun σ H Q ⟨ρ, Z, st, p⟩ => ⟨ρ, Z, st, Post.then p fun d v H1 _ e1 r1 p1 => ⟨ρ, Z, st.ext e1, Post.then p1 fun d2 v2 H2 _ e2 r2 p2 => ?_⟩⟩
  cases q : g d d2 with
  | none => rw [q] at p2; exact p2.elim
  | some r =>
    rw [q] at p2
    exact ⟨Z, d, d2, r, (st.ext (e1.trans e2)).zdom, e2.tabs, (r1.ext e2.ext).b, r2.b, q, p2⟩
theorem d_cmp {a b : Expr} {op : CmpOp} {ma mb : Md} {g : D → D → Option Bool} {fa fb : Env → RR D} (ho : OpR X (compareOp op) (rDC X.K T g)) (ha : PE X a (tD X.K T W ma fa)) (hb : PE X b (tD X.K T W mb fb)) (hm : notSet b = true) :
    PE X (.Compare a [op] [b] pos) (tD X.K T W .sh fun ρ => do let x ← fa ρ; let y ← fb ρ; RR.of ((g x y).map D.bl)) := by
  refine peImp (pe_cmpR ho ha hb (behind_of hm)) fun σ H Q ⟨ρ, Z, st, p⟩ => ⟨ρ, Z, st, Post.then p fun d v H1 _ e1 r1 p1 => ⟨ρ, Z, st.ext e1, Post.then p1 fun d2 v2 H2 _ e2 r2 p2 => ?_⟩⟩
  cases q : g d d2 with
  | none => rw [q] at p2; exact p2.elim
  | some r =>
    rw [q] at p2
    exact ⟨_, d, d2, r, exUnhide, e2.tabs, (r1.ext e2.ext).b, r2.b, q, p2 _ _ (Ext.refl e2.tabs) rfl⟩
/-- truth -/
theorem RR.assoc {α β γ : Type} (x : RR α) (f : α → RR β) (g : β → RR γ) : ((x >>= f) >>= g) = x >>= fun a => f a >>= g := by
  cases x <;> rfl
def truR (d : D) : RR Bool := RR.of (truD d)
theorem t_cmp {a b : Expr} {op : CmpOp} {ma mb : Md} {g : D → D → Option Bool} {fa fb : Env → RR D} (ho : OpR X (compareOp op) (rDC X.K T g)) (ha : PE X a (tD X.K T W ma fa)) (hb : PE X b (tD X.K T W mb fb)) (hm : notSet b = true) :
    PT X (.Compare a [op] [b] pos) (tDT X.K T W fun ρ => (do let x ← fa ρ; let y ← fb ρ; RR.of ((g x y).map D.bl)) >>= truR) := by
  refine ptImp (pt_cmpR ho ha hb (behind_of hm)) fun σ H Q ⟨ρ, Z, st, p⟩ => ⟨ρ, Z, st, ?_⟩
  have p : PostX X.K T W σ H Q ((fa ρ) >>= fun x => ((fb ρ) >>= fun y => (RR.of ((g x y).map D.bl)) >>= truR)) := by
    simp only [RR.assoc] at p
    exact p
  refine Post.thenX p fun d v H1 _ e1 r1 p1 => ⟨ρ, Z, st.ext e1, Post.thenX p1 fun d2 v2 H2 _ e2 r2 p2 => ?_⟩
  cases q : g d d2 with
  | none => rw [q] at p2; exact p2.elim
  | some r =>
    rw [q] at p2
    exact ⟨_, d, d2, r, exUnhide, e2.tabs, (r1.ext e2.ext).b, r2.b, q, r, rfl, p2 _ (Ext.refl e2.tabs)⟩
theorem t_val {e : Expr} {m : Md} {f : Env → RR D} (h : PE X e (tD X.K T W m f)) (hp : plainTest e = true) : PT X e (tDT X.K T W fun ρ => f ρ >>= truR) := by
  refine ptImp (pt_truth h (test_of hp X.env)) fun σ H Q ⟨ρ, Z, st, p⟩ => ⟨ρ, Z, st, Post.thenX p fun d v H1 _ e1 r1 p1 => ?_⟩
  cases q : truD d with
  | none => unfold truR at p1; rw [q] at p1; exact p1.elim
  | some k =>
    unfold truR at p1; rw [q] at p1
    exact ⟨k, truV_of exUnhide r1.b q, p1 H1 (Ext.refl e1.tabs)⟩
theorem d_not {a : Expr} {m : Md} {f : Env → RR D} (h : PE X a (tD X.K T W m f)) : PE X (.UnaryOp .Not a pos) (tD X.K T W .sh fun ρ => do let x ← f ρ; let k ← truR x; .ok (.bl (!k))) := by
  refine peImp (pe_notT h) fun σ H Q ⟨ρ, Z, st, p⟩ => ⟨ρ, Z, st, Post.then p fun d v H1 _ e1 r1 p1 => ?_⟩
  cases q : truD d with
  | none => unfold truR at p1; rw [q] at p1; exact p1.elim
  | some k =>
    unfold truR at p1; rw [q] at p1
    exact ⟨k, truV_of exUnhide r1.b q, p1 _ H1 (Ext.refl e1.tabs) rfl⟩
theorem t_not {a : Expr} {f : Env → RR D} (h : PT X a (tDT X.K T W fun ρ => f ρ >>= truR)) : PT X (.UnaryOp .Not a pos) (tDT X.K T W fun ρ => (do let x ← f ρ; let k ← truR x; .ok (.bl (!k))) >>= truR) := by
  refine ptImp (pt_not h) fun σ H Q ⟨ρ, Z, st, p⟩ => ⟨ρ, Z, st, ?_⟩
  have p : PostX X.K T W σ H Q ((f ρ >>= truR) >>= fun k => .ok (!k)) := by
    simp only [RR.assoc] at p ⊢
    exact p
  exact PostX.thenX p fun k H1 _ e1 p1 => p1 H1 (Ext.refl e1.tabs)
theorem d_and1 {a : Expr} {op : BoolOp} {m : Md} {f : Env → RR D} (h : PE X a (tD X.K T W m f)) : PE X (.BoolOp op [a] pos) (tD X.K T W m f) := pe_one h
theorem d_and {a b : Expr} {rest : List Expr} {m m' : Md} {f g : Env → RR D} (hm : m ≠ .bo) (hm' : m' ≠ .bo) (h : PE X a (tD X.K T W m f)) (h' : PE X (.BoolOp .And (b :: rest) pos) (tD X.K T W m' g)) :
    PE X (.BoolOp .And (a :: b :: rest) pos) (tD X.K T W .sh fun ρ => do let x ← f ρ; let k ← truR x; if k then g ρ else .ok x) := by
  refine peImp (pe_andT h h') fun σ H Q ⟨ρ, Z, st, p⟩ => ⟨ρ, Z, st, Post.then p fun d v H1 _ e1 r1 p1 => ?_⟩
  cases q : truD d with
  | none => unfold truR at p1; rw [q] at p1; exact p1.elim
  | some k =>
    unfold truR at p1; rw [q] at p1
    refine ⟨k, truV_of exUnhide r1.b q, ?_⟩
    cases k with
    | true => exact ⟨ρ, Z, st.ext e1, Post.sh hm' (st.ext e1).zdom p1⟩
    | false => exact p1 v H1 (Ext.refl e1.tabs) (r1.sh hm st.zdom)
theorem d_or {a b : Expr} {rest : List Expr} {m m' : Md} {f g : Env → RR D} (hm : m ≠ .bo) (hm' : m' ≠ .bo) (h : PE X a (tD X.K T W m f)) (h' : PE X (.BoolOp .Or (b :: rest) pos) (tD X.K T W m' g)) :
    PE X (.BoolOp .Or (a :: b :: rest) pos) (tD X.K T W .sh fun ρ => do let x ← f ρ; let k ← truR x; if k then .ok x else g ρ) := by
  refine peImp (pe_orT h h') fun σ H Q ⟨ρ, Z, st, p⟩ => ⟨ρ, Z, st, Post.then p fun d v H1 _ e1 r1 p1 => ?_⟩
  cases q : truD d with
  | none => unfold truR at p1; rw [q] at p1; exact p1.elim
  | some k =>
    unfold truR at p1; rw [q] at p1
    refine ⟨k, truV_of exUnhide r1.b q, ?_⟩
    cases k with
    | false => exact ⟨ρ, Z, st.ext e1, Post.sh hm' (st.ext e1).zdom p1⟩
    | true => exact p1 v H1 (Ext.refl e1.tabs) (r1.sh hm st.zdom)
/-- and, or as tests -/
theorem t_and1 {a : Expr} {f : Env → RR Bool} (h : PT X a (tDT X.K T W f)) : PW X (.BoolOp .And [a] pos) (tDT X.K T W f) := pw_and1 h
theorem t_or1 {a : Expr} {f : Env → RR Bool} (h : PT X a (tDT X.K T W f)) : PW X (.BoolOp .Or [a] pos) (tDT X.K T W f) := pw_or1 h
theorem t_and {a b : Expr} {rest : List Expr} {f g : Env → RR D} (h : PT X a (tDT X.K T W fun ρ => f ρ >>= truR)) (h' : PW X (.BoolOp .And (b :: rest) pos) (tDT X.K T W fun ρ => g ρ >>= truR)) :
    PW X (.BoolOp .And (a :: b :: rest) pos) (tDT X.K T W fun ρ => (do let x ← f ρ; let k ← truR x; if k then g ρ else .ok x) >>= truR) := by
  refine pwImp (pw_and h h') fun σ H Q ⟨ρ, Z, st, p⟩ => ⟨ρ, Z, st, ?_⟩
  have p : PostX X.K T W σ H Q ((f ρ >>= truR) >>= fun k => if k then g ρ >>= truR else .ok false) := by
    simp only [RR.assoc] at p ⊢
    cases hf : f ρ with
    | ok d =>
      rw [hf] at p
      simp only [RR.bind_ok] at p ⊢
      cases q : truD d with
      | none => unfold truR at p ⊢; rw [q] at p ⊢; exact p
      | some k =>
        unfold truR at p ⊢
        rw [q] at p ⊢
        cases k with
        | true => exact p
        | false =>
          have p : PostX X.K T W σ H Q (RR.of (truD d)) := p
          rw [q] at p
          exact p
    | ex c => rw [hf] at p; exact p
    | bad => rw [hf] at p; exact p
  refine PostX.thenX p fun k H1 _ e1 p1 => ?_
  cases k with
  | true => exact ⟨ρ, Z, st.ext e1, p1⟩
  | false => exact p1 H1 (Ext.refl e1.tabs)
theorem t_or {a b : Expr} {rest : List Expr} {f g : Env → RR D} (h : PT X a (tDT X.K T W fun ρ => f ρ >>= truR)) (h' : PW X (.BoolOp .Or (b :: rest) pos) (tDT X.K T W fun ρ => g ρ >>= truR)) :
    PW X (.BoolOp .Or (a :: b :: rest) pos) (tDT X.K T W fun ρ => (do let x ← f ρ; let k ← truR x; if k then .ok x else g ρ) >>= truR) := by
  refine pwImp (pw_or h h') fun σ H Q ⟨ρ, Z, st, p⟩ => ⟨ρ, Z, st, ?_⟩
  have p : PostX X.K T W σ H Q ((f ρ >>= truR) >>= fun k => if k then .ok true else g ρ >>= truR) := by
    simp only [RR.assoc] at p ⊢
    cases hf : f ρ with
    | ok d =>
      rw [hf] at p
      simp only [RR.bind_ok] at p ⊢
      cases q : truD d with
      | none => unfold truR at p ⊢; rw [q] at p ⊢; exact p
      | some k =>
        unfold truR at p ⊢
        rw [q] at p ⊢
        cases k with
        | false => exact p
        | true =>
          have p : PostX X.K T W σ H Q (RR.of (truD d)) := p
          rw [q] at p
          exact p
    | ex c => rw [hf] at p; exact p
    | bad => rw [hf] at p; exact p
  refine PostX.thenX p fun k H1 _ e1 p1 => ?_
  cases k with
  | false => exact ⟨ρ, Z, st.ext e1, p1⟩
  | true => exact p1 H1 (Ext.refl e1.tabs)
/-- a if c else b -/
theorem d_ite {c a b : Expr} {m : Md} {fc fa fb : Env → RR D} (hc : PT X c (tDT X.K T W fun ρ => fc ρ >>= truR)) (ha : PE X a (tD X.K T W m fa)) (hb : PE X b (tD X.K T W m fb)) :
    PE X (.IfExp c a b pos) (tD X.K T W m fun ρ => do let x ← fc ρ; let k ← truR x; if k then fa ρ else fb ρ) := by
  refine peImp (pe_ifExp hc ha hb) fun σ H Q ⟨ρ, Z, st, p⟩ => ⟨ρ, Z, st, ?_⟩
  have p : Post X.K T Z W σ H m Q ((fc ρ >>= truR) >>= fun k => if k then fa ρ else fb ρ) := by
    rw [RR.assoc]; exact p
  refine PostX.then p fun k H1 _ e1 p1 => ?_
  cases k with
  | true => exact ⟨ρ, Z, st.ext e1, p1⟩
  | false => exact ⟨ρ, Z, st.ext e1, p1⟩
theorem t_ite {c a b : Expr} {fc fa fb : Env → RR D} (hc : PT X c (tDT X.K T W fun ρ => fc ρ >>= truR)) (ha : PT X a (tDT X.K T W fun ρ => fa ρ >>= truR)) (hb : PT X b (tDT X.K T W fun ρ => fb ρ >>= truR)) :
    PT X (.IfExp c a b pos) (tDT X.K T W fun ρ => (do let x ← fc ρ; let k ← truR x; if k then fa ρ else fb ρ) >>= truR) := by
  refine ⟨fun pins s σ H Q I ⟨ρ, Z, st, p⟩ => ?_⟩
  have p : PostX X.K T W σ H Q ((fc ρ >>= truR) >>= fun k => if k then fa ρ >>= truR else fb ρ >>= truR) := by
    simp only [RR.assoc] at p ⊢
    cases h1 : fc ρ with
    | ok d =>
      rw [h1] at p
      simp only [RR.bind_ok] at p ⊢
      cases q : truD d with
      | none => unfold truR at p ⊢; rw [q] at p ⊢; exact p
      | some k => unfold truR at p ⊢; rw [q] at p ⊢; cases k <;> exact p
    | ex c => rw [h1] at p; exact p
    | bad => rw [h1] at p; exact p
  show wpAny (model X.prog X.w) X.A (do if ← isTrue c X.env (eval c X.env) then isTrue a X.env (eval a X.env) else isTrue b X.env (eval b X.env)) (TP X pins σ Q) X.xe s
  refine wpAny_bind (thn (hc.run pins s σ H _ I ⟨ρ, Z, st, PostX.thenX p fun k H1 _ e1 p1 => (show (fun (k : Bool) H1 => Ext T H H1 ∧ PostX X.K T W σ H1 Q (if k then fa ρ >>= truR else fb ρ >>= truR)) k H1 from ⟨e1, p1⟩)⟩) fun k s1 ⟨H1, I1, e1, p1⟩ => ?_)
  cases k with
  | true => exact ha.run pins s1 σ H1 Q I1 ⟨ρ, Z, st.ext e1, p1⟩
  | false => exact hb.run pins s1 σ H1 Q I1 ⟨ρ, Z, st.ext e1, p1⟩
end
end Py
end
section
set_option maxHeartbeats 1000000
namespace Py
open PySem PySem.Spec PyProof.Rows L2 LamX

/-! ### argument lists -/
/-- sh: the items may be kept -/
def RpL (K : PySem.W.Frag) (sh : Bool) (G H : Hp) (ds : List D) (vs : List V) : Prop := if sh = true then Reps K G ds vs else RepBs K G H ds vs
def PostA (K : PySem.W.Frag) (T : Tb) (Z : Addr → Bool) (W : WX) (σ : L2.St) (H : Hp) (sh : Bool) (Q : List V → Hp → Prop) : RR (List D) → Prop
  | .ok ds => ∀ vs H', Ext T H H' → RpL K sh (hide H' Z) H' ds vs → Q vs H'
  | .ex c => ∀ H', Ext T H H' → W (.ref (He.ga K c)) none σ H'
  | .bad => False
def tDA (K : PySem.W.Frag) (T : Tb) (W : WX) (sh : Bool) (f : Env → RR (List D)) : TA := fun σ H Q => ∃ ρ Z, StE K T Z σ H ρ ∧ PostA K T Z W σ H sh Q (f ρ)
theorem RpL.nil {K : PySem.W.Frag} {sh : Bool} {G H : Hp} : RpL K sh G H [] [] := by cases sh <;> rfl
theorem RpL.ext {K : PySem.W.Frag} {sh : Bool} {G G' H H' : Hp} {ds : List D} {vs : List V} (g : ExtN G G') (e : ExtN H H') (h : RpL K sh G H ds vs) : RpL K sh G' H' ds vs := by
  cases sh with
  | true => exact Reps.ext g ds vs h
  | false => exact RepBs.ext g e h
theorem RpL.cons {K : PySem.W.Frag} {sh : Bool} {Z : Addr → Bool} {H0 H : Hp} {m : Md} {d : D} {ds : List D} {v : V} {vs : List V} (hm : sh = true → m ≠ .bo) (hz : ∀ a, Z a = true → ¬ FreshAt H0 a) (h : RepV K Z H0 H m d v) (hs : RpL K sh (hide H Z) H ds vs) : RpL K sh (hide H Z) H (d :: ds) (v :: vs) := by
  cases sh with
  | true => exact ⟨v, vs, rfl, h.sh (hm rfl) hz, hs⟩
  | false => exact ⟨v, vs, rfl, h.b, hs⟩
theorem Post.thenA {K : PySem.W.Frag} {T : Tb} {Z : Addr → Bool} {W : WX} {σ : L2.St} {H : Hp} {m : Md} {sh : Bool} {Q : VK} {Q' : List V → Hp → Prop} {x : RR D} {k : D → RR (List D)} (h : PostA K T Z W σ H sh Q' (x >>= k))
    (i : ∀ d v H1, x = .ok d → Ext T H H1 → RepV K Z H H1 m d v → PostA K T Z W σ H1 sh Q' (k d) → Q v H1) : Post K T Z W σ H m Q x := by
  cases x with
  | ok d =>
    refine fun v H1 e r => i d v H1 rfl e r ?_
    have h : PostA K T Z W σ H sh Q' (k d) := h
    cases q : k d with
    | ok ds => rw [q] at h; exact fun vs H' e' r' => h vs H' (e.trans e') r'
    | ex c => rw [q] at h; exact fun H' e' => h H' (e.trans e')
    | bad => rw [q] at h; exact h
  | ex c => exact h
  | bad => exact h
theorem PostA.then {K : PySem.W.Frag} {T : Tb} {Z : Addr → Bool} {W : WX} {σ : L2.St} {H : Hp} {m' : Md} {sh : Bool} {Q : List V → Hp → Prop} {Q' : VK} {x : RR (List D)} {k : List D → RR D} (h : Post K T Z W σ H m' Q' (x >>= k))
    (i : ∀ ds vs H1, x = .ok ds → Ext T H H1 → RpL K sh (hide H1 Z) H1 ds vs → Post K T Z W σ H1 m' Q' (k ds) → Q vs H1) : PostA K T Z W σ H sh Q x := by
  cases x with
  | ok ds => exact fun vs H1 e r => i ds vs H1 rfl e r (Post.from (r := k ds) h e)
  | ex c => exact h
  | bad => exact h
theorem PostA.thenA {K : PySem.W.Frag} {T : Tb} {Z : Addr → Bool} {W : WX} {σ : L2.St} {H : Hp} {sh sh' : Bool} {Q Q' : List V → Hp → Prop} {x : RR (List D)} {k : List D → RR (List D)} (h : PostA K T Z W σ H sh' Q' (x >>= k))
    (i : ∀ ds vs H1, x = .ok ds → Ext T H H1 → RpL K sh (hide H1 Z) H1 ds vs → PostA K T Z W σ H1 sh' Q' (k ds) → Q vs H1) : PostA K T Z W σ H sh Q x := by
  cases x with
  | ok ds =>
    refine fun vs H1 e r => i ds vs H1 rfl e r ?_
    have h : PostA K T Z W σ H sh' Q' (k ds) := h
    cases q : k ds with
    | ok ds => rw [q] at h; exact fun vs H' e' r' => h vs H' (e.trans e') r'
    | ex c => rw [q] at h; exact fun H' e' => h H' (e.trans e')
    | bad => rw [q] at h; exact h
  | ex c => exact h
  | bad => exact h
theorem paImp {X : Cx} {e : List Expr} {t t' : TA} (h : PA X e t) (i : ∀ σ H Q, t' σ H Q → t σ H Q) : PA X e t' := ⟨fun pos pins s σ H Q I hw => h.run pos pins s σ H Q I (i σ H Q hw)⟩
section
variable {X : Cx} {T : Tb} {W : WX} {pos : Pos} {j : Nat}
theorem a_nil {sh : Bool} : PA X [] (tDA X.K T W sh fun _ => .ok []) := paImp pa_nil fun σ H Q ⟨ρ, Z, st, p⟩ => p [] H (Ext.refl st.tabs) RpL.nil
theorem a_cons {sh : Bool} {e : Expr} {es : List Expr} {m : Md} {f : Env → RR D} {g : Env → RR (List D)} (hm : sh = true → m ≠ .bo) (hs : notStar e = true) (h : PE X e (tD X.K T W m f)) (h' : PA X es (tDA X.K T W sh g)) :
    PA X (e :: es) (tDA X.K T W sh fun ρ => do let x ← f ρ; let xs ← g ρ; .ok (x :: xs)) := by
  refine paImp (pa_cons h h' (star_of hs es X.env)) fun σ H Q ⟨ρ, Z, st, p⟩ => ⟨ρ, Z, st, Post.thenA p fun d v H1 _ e1 r1 p1 => ⟨ρ, Z, st.ext e1, PostA.thenA p1 fun ds vs H2 _ e2 r2 p2 => ?_⟩⟩
  exact p2 (v :: vs) H2 (Ext.refl e2.tabs) (RpL.cons hm st.zdom (r1.ext e2.ext) r2)
def limL (l : List D) : RR (List D) := if l.length ≤ lim then .ok l else .bad
/-- (a, b), [a, b] -/
theorem d_tup {es : List Expr} {x1 : Nat} {g : Env → RR (List D)} (h : PA X es (tDA X.K T W true g)) : PE X (.Tuple es x1 pos) (tD X.K T W .sh fun ρ => do let xs ← g ρ; let xs ← limL xs; .ok (.tup xs)) := by
  refine peImp (pe_tup h) fun σ H Q ⟨ρ, Z, st, p⟩ => ⟨ρ, Z, st, PostA.then p fun ds vs H1 _ e1 r1 p1 => ?_⟩
  unfold limL at p1
  split at p1
  · rename_i hl
    refine ⟨by rw [Reps.length r1, lim_eq]; exact hl, fun a na => ?_⟩
    exact p1 _ _ (ext_new e1.tabs na) (rep_tup e1.tabs (st.ext e1).zdom na (by rw [lim_eq]; exact hl) r1)
  · exact p1.elim
theorem d_lst {es : List Expr} {g : Env → RR (List D)} (h : PA X es (tDA X.K T W true g)) : PE X (.List es pos) (tD X.K T W .fr fun ρ => do let xs ← g ρ; let xs ← limL xs; .ok (.lst xs)) := by
  refine peImp (pe_lst h) fun σ H Q ⟨ρ, Z, st, p⟩ => ⟨ρ, Z, st, PostA.then p fun ds vs H1 _ e1 r1 p1 => ?_⟩
  unfold limL at p1
  split at p1
  · rename_i hl
    refine ⟨by rw [Reps.length r1, lim_eq]; exact hl, fun a na => ?_⟩
    exact p1 _ _ (ext_new e1.tabs na) ⟨a, rfl, .inl na, own_lst (by rw [lim_eq]; exact hl) (.inl na) r1⟩
  · exact p1.elim
/-- f(..), a built-in -/
theorem d_bltB {x : Str} {id : String} {e : Expr} {es : List Expr} {p : Pos} {m : Md} {g : List D → Option D} {f : Env → RR (List D)} (hc : CallR X (.builtin id) (rDL X.K T m g)) (hg : Gl X x) (hm : X.mg x = none) (hv : bootBuiltins x = some (.builtin id))
    (ha : PA X (e :: es) (tDA X.K T W false f)) (hs : (e :: es).all notStar = true) (hn : x ≠ "__name__") (hdb : (x == ("__debug__" : Str)) = false) :
    PE X (.Call (.Name x p) (e :: es) [] pos) (tD X.K T W m fun ρ => do let xs ← f ρ; RR.of (g xs)) := by
  have hs' := hs
  rw [List.all_cons, Bool.and_eq_true] at hs'
  refine peImp (pe_callB hc hg hm hv ha hn hdb (star_of hs'.1 es X.env) (back_star hs'.2 X.env)) fun σ H Q ⟨ρ, Z, st, p⟩ => ⟨ρ, Z, st, PostA.then p fun ds vs H1 _ e1 r1 p1 => ?_⟩
  cases q : g ds with
  | none => rw [q] at p1; exact p1.elim
  | some r =>
    rw [q] at p1
    exact ⟨Z, ds, r, (st.ext e1).zdom, e1.tabs, r1, q, p1⟩
theorem d_bltT {x : Str} {id : String} {e : Expr} {es : List Expr} {p : Pos} {m : Md} {g : List D → Option D} {f : Env → RR (List D)} (hc : CallR X (.type id) (rDL X.K T m g)) (hg : Gl X x) (hm : X.mg x = none) (hv : bootBuiltins x = some (.type id))
    (ha : PA X (e :: es) (tDA X.K T W false f)) (hs : (e :: es).all notStar = true) (hn : x ≠ "__name__") (hdb : (x == ("__debug__" : Str)) = false) :
    PE X (.Call (.Name x p) (e :: es) [] pos) (tD X.K T W m fun ρ => do let xs ← f ρ; RR.of (g xs)) := by
  have hs' := hs
  rw [List.all_cons, Bool.and_eq_true] at hs'
  refine peImp (pe_callTy hc hg hm hv ha hn hdb (star_of hs'.1 es X.env) (back_star hs'.2 X.env)) fun σ H Q ⟨ρ, Z, st, p⟩ => ⟨ρ, Z, st, PostA.then p fun ds vs H1 _ e1 r1 p1 => ?_⟩
  cases q : g ds with
  | none => rw [q] at p1; exact p1.elim
  | some r =>
    rw [q] at p1
    exact ⟨Z, ds, r, (st.ext e1).zdom, e1.tabs, r1, q, p1⟩
/-- isinstance(x, T) -/
theorem boot_ty (t : Ty) : bootBuiltins (Str.ofString t.nm) = some (.type t.nm) := by cases t <;> decide +kernel
theorem boot_isi : bootBuiltins "isinstance" = some (.builtin "isinstance") := by decide +kernel
theorem d_isi {t : Ty} {a : Expr} {p p2 : Pos} {m : Md} {f : Env → RR D} (hg : Gl X "isinstance") (hm : X.mg "isinstance" = none) (hgt : Gl X (Str.ofString t.nm)) (hmt : X.mg (Str.ofString t.nm) = none) (hs : notStar a = true)
    (h : PE X a (tD X.K T W m f)) : PE X (.Call (.Name "isinstance" p) [a, .Name (Str.ofString t.nm) p2] [] pos) (tD X.K T W .sh fun ρ => do let x ← f ρ; .ok (.bl (isTy t x))) := by
  have ht : PE X (.Name (Str.ofString t.nm) p2) (tC (.ty t.nm)) := pe_bltn hgt hmt (boot_ty t) rfl (by cases t <;> decide +kernel) (by cases t <;> decide +kernel)
  refine peImp (pe_callB call_isi hg hm boot_isi (pa_cons h (pa_cons ht pa_nil) (star_of hs _ X.env)) (by decide) (by decide) (star_of hs _ X.env) (by rfl)) fun σ H Q ⟨ρ, Z, st, p⟩ => ⟨ρ, Z, st, Post.then p fun d v H1 _ e1 r1 p1 => ?_⟩
  exact ⟨v, .ty t.nm, .type (tyN d), .type t.nm, isTy t d, rfl, .ty _, tyX_of (r1.b.rep exUnhide), kit_ty (kit_D d t), p1 _ H1 (Ext.refl e1.tabs) rfl⟩
/-- a op b op c -/
theorem d_chn {a b c : Expr} {op op' : CmpOp} {ma mb mc : Md} {g g' : D → D → Option Bool} {fa fb fc : Env → RR D} (ho : OpR X (compareOp op) (rDC X.K T g)) (ho' : OpR X (compareOp op') (rDC X.K T g')) (ha : PE X a (tD X.K T W ma fa)) (hb : PE X b (tD X.K T W mb fb))
    (hc : PE X c (tD X.K T W mc fc)) (hm : notSet c = true) :
    PE X (.Compare a [op, op'] [b, c] pos) (tD X.K T W .sh fun ρ => do let x ← fa ρ; let y ← fb ρ; let k ← RR.of (g x y); if k then (do let z ← fc ρ; RR.of ((g' y z).map D.bl)) else .ok (.bl false)) := by
  refine peImp (pe_chain ho ho' ha hb hc (by show behindInMarks op' c = false; exact behind_of hm)) fun σ H Q ⟨ρ, Z, st, p⟩ => ⟨ρ, Z, st, Post.then p fun d v H1 _ e1 r1 p1 => ⟨ρ, Z, st.ext e1, Post.then p1 fun d2 v2 H2 _ e2 r2 p2 => ?_⟩⟩
  cases q : g d d2 with
  | none => rw [q] at p2; exact p2.elim
  | some k =>
    rw [q] at p2
    refine ⟨_, d, d2, k, exUnhide, e2.tabs, (r1.ext e2.ext).b, r2.b, q, k, rfl, ?_⟩
    cases k with
    | false => exact p2 _ H2 (Ext.refl e2.tabs) rfl
    | true =>
      refine ⟨ρ, Z, st.ext (e1.trans e2), Post.then p2 fun d3 v3 H3 _ e3 r3 p3 => ?_⟩
      cases q2 : g' d2 d3 with
      | none => rw [q2] at p3; exact p3.elim
      | some k2 =>
        rw [q2] at p3
        exact ⟨_, d2, d3, k2, exUnhide, e3.tabs, (r2.ext e3.ext).b, r3.b, q2, p3 _ H3 (Ext.refl e3.tabs) rfl⟩
theorem t_chn {a b c : Expr} {op op' : CmpOp} {ma mb mc : Md} {g g' : D → D → Option Bool} {fa fb fc : Env → RR D} (ho : OpR X (compareOp op) (rDC X.K T g)) (ho' : OpR X (compareOp op') (rDC X.K T g')) (ha : PE X a (tD X.K T W ma fa)) (hb : PE X b (tD X.K T W mb fb))
    (hc : PE X c (tD X.K T W mc fc)) (hm : notSet c = true) :
    PT X (.Compare a [op, op'] [b, c] pos) (tDT X.K T W fun ρ => (do let x ← fa ρ; let y ← fb ρ; let k ← RR.of (g x y); if k then (do let z ← fc ρ; RR.of ((g' y z).map D.bl)) else .ok (.bl false)) >>= truR) := by
  refine ptImp (pt_chain ho ho' ha hb hc (by show behindInMarks op' c = false; exact behind_of hm)) fun σ H Q ⟨ρ, Z, st, p⟩ => ⟨ρ, Z, st, ?_⟩
  have p : PostX X.K T W σ H Q (fa ρ >>= fun x => fb ρ >>= fun y => RR.of (g x y) >>= fun k => (if k then (do let z ← fc ρ; RR.of ((g' y z).map D.bl)) else .ok (.bl false)) >>= truR) := by
    simp only [RR.assoc] at p
    exact p
  refine Post.thenX p fun d v H1 _ e1 r1 p1 => ⟨ρ, Z, st.ext e1, Post.thenX p1 fun d2 v2 H2 _ e2 r2 p2 => ?_⟩
  cases q : g d d2 with
  | none => rw [q] at p2; exact p2.elim
  | some k =>
    rw [q] at p2
    refine ⟨_, d, d2, k, exUnhide, e2.tabs, (r1.ext e2.ext).b, r2.b, q, k, rfl, ?_⟩
    cases k with
    | false => exact ⟨false, rfl, p2 H2 (Ext.refl e2.tabs)⟩
    | true =>
      have p2 : PostX X.K T W σ H2 Q (fc ρ >>= fun z => RR.of ((g' d2 z).map D.bl) >>= truR) := by
        have p2 : PostX X.K T W σ H2 Q ((fc ρ >>= fun z => RR.of ((g' d2 z).map D.bl)) >>= truR) := p2
        rw [RR.assoc] at p2; exact p2
      refine ⟨ρ, Z, st.ext (e1.trans e2), Post.thenX p2 fun d3 v3 H3 _ e3 r3 p3 => ?_⟩
      cases q2 : g' d2 d3 with
      | none => rw [q2] at p3; exact p3.elim
      | some k2 =>
        rw [q2] at p3
        exact ⟨_, d2, d3, k2, exUnhide, e3.tabs, (r2.ext e3.ext).b, r3.b, q2, k2, rfl, p3 H3 (Ext.refl e3.tabs)⟩
/-- a[lo:hi] -/
def PostO (K : PySem.W.Frag) (T : Tb) (W : WX) (σ : L2.St) (H : Hp) (Q : Option Int → Hp → Prop) : RR (Option Int) → Prop := PostX K T W σ H Q
theorem o_none {Q : Option Int → Hp → Prop} {σ : L2.St} {H : Hp} (h : Q none H) : tNoPart σ H Q := h
def intO (d : D) : RR (Option Int) := match d with
  | .int i => .ok (some i)
  | _ => .bad
/-- what a part of a slice is -/
structure PartOk (X : Cx) (T : Tb) (W : WX) (e : Option Expr) (f : Env → RR (Option Int)) : Prop where
  ex : ∃ t, PO X e t ∧ ∀ σ H (Q : Option Int → Hp → Prop), (∃ ρ Z, StE X.K T Z σ H ρ ∧ PostX X.K T W σ H Q (f ρ)) → t σ H Q
theorem part_none : PartOk X T W none (fun _ => .ok none) := ⟨_, po_none, fun σ H Q ⟨ρ, Z, st, p⟩ => p H (Ext.refl st.tabs)⟩
theorem part_some {e : Expr} {m : Md} {f : Env → RR D} (h : PE X e (tD X.K T W m f)) : PartOk X T W (some e) (fun ρ => f ρ >>= intO) := ⟨_, po_some h, fun σ H Q ⟨ρ, Z, st, p⟩ => ⟨ρ, Z, st, Post.thenX p fun d v H1 _ e1 r1 p1 => by
  cases d with
  | int i =>
    have e2 := r1.b
    cases e2
    exact ⟨i, rfl, p1 H1 (Ext.refl e1.tabs)⟩
  | _ => exact p1.elim⟩⟩
theorem d_sl {a : Expr} {lo hi : Option Expr} {p2 : Pos} {m : Md} {fa : Env → RR D} {fl fh : Env → RR (Option Int)} (ha : PE X a (tD X.K T W m fa)) (hl : PartOk X T W lo fl) (hh : PartOk X T W hi fh) :
    PE X (.Subscript a (.Slice lo hi none p2) pos) (tD X.K T W .sh fun ρ => do let x ← fa ρ; let l ← fl ρ; let h ← fh ρ; RR.of (slD x l h)) := by
  obtain ⟨tl, pl, il⟩ := hl.ex
  obtain ⟨th, ph, ih⟩ := hh.ex
  refine peImp (pe_slice (sl_D (T := T)) ha pl ph) fun σ H Q ⟨ρ, Z, st, p⟩ => ⟨ρ, Z, st, Post.then p fun d v H1 _ e1 r1 p1 => il _ _ _ ⟨ρ, Z, st.ext e1, PostX.then p1 fun l H2 _ e2 p2 => ih _ _ _ ⟨ρ, Z, st.ext (e1.trans e2), PostX.then p2 fun h H3 _ e3 p3 => ?_⟩⟩⟩
  cases q : slD d l h with
  | none => rw [q] at p3; exact p3.elim
  | some r =>
    rw [q] at p3
    exact ⟨Z, d, r, (st.ext ((e1.trans e2).trans e3)).zdom, e3.tabs, (r1.ext (e2.trans e3).ext).b, q, p3⟩
end
end Py
end
section
set_option maxHeartbeats 1000000
namespace Py
open PySem PySem.Spec PyProof.Rows L2 LamX

/-! ### what is walked -/
def noHp : Hp := fun _ => none
structure WalkD (K : PySem.W.Frag) (T : Tb) (G1 F1 : Hp) (J : It) (l : List D) : Prop where
  ex : ∃ (G : Hp → Prop) (Y : Nat → Hp → V → Hp → Prop), Walk J l.length G Y ∧ (∀ H Z, ExtN G1 (hide H Z) → ExtN F1 H → G H) ∧
    ∀ i H x H' Z, i < l.length → ExtN G1 (hide H Z) → ExtN F1 H → Tabs T H → (∀ a, Z a = true → ¬ FreshAt H a) → Y i H x H' → ∃ d, l[i]? = some d ∧ Ext T H H' ∧ Rep K (hide H' Z) d x
def PostS (K : PySem.W.Frag) (T : Tb) (Z : Addr → Bool) (W : WX) (σ : L2.St) (H : Hp) (bo : Bool) (R : It → Hp → Prop) : RR (List D) → Prop
  | .ok l => ∀ J H1, Ext T H H1 → l.length ≤ sizeLine → WalkD K T (hide H1 Z) (if bo = true then H1 else noHp) J l → R J H1
  | .ex c => ∀ H', Ext T H H' → W (.ref (He.ga K c)) none σ H'
  | .bad => False
structure SrcOk (X : Cx) (T : Tb) (W : WX) (tg iter : Expr) (bo : Bool) (f : Env → RR (List D)) : Prop where
  ex : ∃ wi, PI X tg iter wi ∧ ∀ σ H R, (∃ ρ Z, StE X.K T Z σ H ρ ∧ PostS X.K T Z W σ H bo R (f ρ)) → wi σ H R
def seqD : D → RR (List D)
  | .lst l => .ok l
  | .tup l => .ok l
  | _ => .bad
def iSeq (K : PySem.W.Frag) (tl : TE) : TI := fun σ H R => tl σ H fun x H1 => ∃ a, x = .ref a ∧ (((∃ xs, SqL K H1 a xs) ∧ R (Itl K a) H1) ∨ ((∃ xs, SqT K H1 a xs) ∧ R (Itt K a) H1))
section
variable {X : Cx} {tg : Expr} {T : Tb} {W : WX}
theorem pi_seq {l : Expr} {tl : TE} (hl : PE X l tl) : PI X tg l (iSeq X.K tl) := by
  refine ⟨fun pins s σ H R I h => ?_⟩
  refine thn (hl.run pins s σ H _ I h) fun v s1 ⟨x, H1, I1, r1, q1⟩ => ?_
  obtain ⟨a, e, q⟩ := q1
  subst e
  rcases q with ⟨⟨xs, hq⟩, q⟩ | ⟨⟨xs, hq⟩, q⟩
  · have h := (pi_list (X := X) (tg := tg) (l := l) hl)
    cases r1
    obtain ⟨its, rv, p, hz⟩ := I1.list hq
    refine wpAny_pyIter_list p.isList ?_
    refine ⟨s1.heap.objs.size, [s1.heap.objs.size], _, _, H1, rfl, I1.kept (t' := s1.toks) fun b o e => Heap.get?_push_of_some _ e, turn_list a _, ⟨_, Heap.get?_push_size _ rfl, rfl, rfl⟩, fun b hb => ?_, q⟩
    have e : b = s1.heap.objs.size := by simpa using hb
    subst e
    exact I1.fpOk (Nat.le_refl _) (I1.hok.fresh (Nat.le_refl _))
  · cases r1
    obtain ⟨its, rv, p, hz⟩ := I1.tuple hq
    refine wpAny_pyIter_tuple (show s1.heap.IsTuple a its.toArray from p) ?_
    refine ⟨s1.heap.objs.size, [s1.heap.objs.size], _, _, H1, rfl, I1.kept (t' := s1.toks) fun b o e => Heap.get?_push_of_some _ e, turn_tuple a _, ⟨_, Heap.get?_push_size _ rfl, rfl, rfl⟩, fun b hb => ?_, q⟩
    have e : b = s1.heap.objs.size := by simpa using hb
    subst e
    exact I1.fpOk (Nat.le_refl _) (I1.hok.fresh (Nat.le_refl _))
theorem YAt_rep {K : PySem.W.Frag} {T : Tb} {G1 : Hp} {l : List D} {xs : List V} (r : Reps K G1 l xs) : ∀ i H x H' Z, i < l.length → ExtN G1 (hide H Z) → Tabs T H → YAt xs i H x H' → ∃ d, l[i]? = some d ∧ Ext T H H' ∧ Rep K (hide H' Z) d x := by
  intro i H x H' Z hi e t y
  obtain ⟨rfl, y⟩ := y
  obtain ⟨d, h1, h2⟩ := r.getV y
  exact ⟨d, h1, Ext.refl t, Rep.ext e d x h2⟩
theorem src_seq {e : Expr} {m : Md} {f : Env → RR D} (h : PE X e (tD X.K T W m f)) : SrcOk X T W tg e (decide (m = .bo)) (fun ρ => f ρ >>= seqD) := by
  refine ⟨_, pi_seq h, fun σ H R ⟨ρ, Z, st, p⟩ => ⟨ρ, Z, st, ?_⟩⟩
  cases q : f ρ with
  | ex c => rw [q] at p; exact p
  | bad => rw [q] at p; exact p
  | ok d =>
    rw [q] at p
    intro v H1 e1 r1
    have hz := st.zdom
    cases d with
    | tup l =>
      obtain ⟨z, a, xs, rfl, ha, ra⟩ := r1.b
      refine ⟨a, rfl, .inr ⟨⟨xs, SqT.ext exUnhide ha⟩, p _ H1 e1 z ⟨_, _, by rw [← ra.length]; exact walk_tup, fun H Z' g _ => SqT.ext exUnhide (SqT.ext g ha), fun i H x H' Z' hi g _ t _ y => YAt_rep ra i H x H' Z' hi g t y⟩⟩⟩
    | lst l =>
      cases m with
      | bo =>
        obtain ⟨a, rfl, z, xs, ha, ra⟩ := r1
        refine ⟨a, rfl, .inl ⟨⟨xs, SqL.of ha⟩, p _ H1 e1 z ⟨_, _, by rw [← ra.length]; exact walk_list, fun H Z' g f => SqL.of (f a _ ha (fun ps q => by cases q)), fun i H x H' Z' hi g _ t _ y => YAt_rep ra i H x H' Z' hi g t y⟩⟩⟩
      | sh =>
        obtain ⟨z, a, xs, rfl, ha, ra⟩ := r1
        refine ⟨a, rfl, .inl ⟨⟨xs, SqL.ext exUnhide (SqL.of ha)⟩, p _ H1 e1 z ⟨_, _, by rw [← ra.length]; exact walk_list, fun H Z' g f => SqL.ext exUnhide (SqL.ext g (SqL.of ha)), fun i H x H' Z' hi g _ t _ y => YAt_rep ra i H x H' Z' hi g t y⟩⟩⟩
      | fr =>
        obtain ⟨z, a, xs, rfl, ha, ra⟩ := r1.sh (by decide) hz
        refine ⟨a, rfl, .inl ⟨⟨xs, SqL.ext exUnhide (SqL.of ha)⟩, p _ H1 e1 z ⟨_, _, by rw [← ra.length]; exact walk_list, fun H Z' g f => SqL.ext exUnhide (SqL.ext g (SqL.of ha)), fun i H x H' Z' hi g _ t _ y => YAt_rep ra i H x H' Z' hi g t y⟩⟩⟩
    | _ => exact (show False from p).elim
/-- range(n), range(a, b) -/
def rangeD (a b : Int) : List D := (List.range (b - a).toNat).map fun (i : Nat) => D.int (a + i)
def rngOk (a b : Int) : Bool := decide (-(2 ^ 60) ≤ a) && decide (a < 2 ^ 60) && decide (-(2 ^ 60) ≤ b) && decide (b < 2 ^ 60) && decide ((b - a).toNat ≤ lim)
def rng1D : D → RR (List D)
  | .int b => if rngOk 0 b then .ok (rangeD 0 b) else .bad
  | _ => .bad
def rng2D : D → D → RR (List D)
  | .int a, .int b => if rngOk a b then .ok (rangeD a b) else .bad
  | _, _ => .bad
theorem walkD_range {K : PySem.W.Frag} {T : Tb} {G1 F1 : Hp} {a b : Int} : WalkD K T G1 F1 (Itr a (b - a).toNat) (rangeD a b) := by
  refine ⟨_, _, by unfold rangeD; rw [List.length_map, List.length_range]; exact walk_range, fun _ _ _ _ => trivial, fun i H x H' Z hi _ _ t _ y => ?_⟩
  obtain ⟨rfl, rfl⟩ := y
  unfold rangeD at hi
  rw [List.length_map, List.length_range] at hi
  exact ⟨.int (a + i), by unfold rangeD; simp [hi], Ext.refl t, rfl⟩
theorem src_rng1 {e : Expr} {p pos : Pos} {m : Md} {f : Env → RR D} (hg : Gl X "range") (hm : X.mg "range" = none) (hs : notStar e = true) (h : PE X e (tD X.K T W m f)) : SrcOk X T W tg (.Call (.Name "range" p) [e] [] pos) false (fun ρ => f ρ >>= rng1D) := by
  refine ⟨_, pi_range1 hg hm (pa_cons h pa_nil (star_of hs [] X.env)) (star_of hs [] X.env), fun σ H R ⟨ρ, Z, st, p⟩ => ⟨ρ, Z, st, ?_⟩⟩
  cases q : f ρ with
  | ex c => rw [q] at p; exact p
  | bad => rw [q] at p; exact p
  | ok d =>
    rw [q] at p
    intro v H1 e1 r1
    cases d with
    | int b =>
      have e2 : v = .int b := r1.b
      subst e2
      have p : PostS X.K T Z W σ H false R (if rngOk 0 b then .ok (rangeD 0 b) else .bad) := p
      split at p
      · rename_i hc
        simp only [rngOk, Bool.and_eq_true, decide_eq_true_eq] at hc
        refine ⟨b, rfl, by omega, by omega, ?_⟩
        have w := walkD_range (K := X.K) (T := T) (G1 := hide H1 Z) (F1 := noHp) (a := 0) (b := b)
        rw [Int.sub_zero] at w
        exact p _ H1 e1 (by unfold rangeD; rw [List.length_map, List.length_range, lim_eq]; exact hc.2) w
      · exact p.elim
    | _ => exact (show False from p).elim
theorem src_rng2 {e e' : Expr} {p pos : Pos} {m m' : Md} {f f' : Env → RR D} (hg : Gl X "range") (hm : X.mg "range" = none) (hs : notStar e = true) (hs' : notStar e' = true) (h : PE X e (tD X.K T W m f)) (h' : PE X e' (tD X.K T W m' f')) :
    SrcOk X T W tg (.Call (.Name "range" p) [e, e'] [] pos) false (fun ρ => do let a ← f ρ; let b ← f' ρ; rng2D a b) := by
  refine ⟨_, pi_range2 hg hm (pa_cons h (pa_cons h' pa_nil (star_of hs' [] X.env)) (star_of hs _ X.env)) (by rw [star_of hs, star_of hs']; rfl) (by rw [star_of hs']; rfl), fun σ H R ⟨ρ, Z, st, p⟩ => ⟨ρ, Z, st, ?_⟩⟩
  cases q : f ρ with
  | ex c => rw [q] at p; exact p
  | bad => rw [q] at p; exact p
  | ok d =>
    rw [q] at p
    intro v H1 e1 r1
    refine ⟨ρ, Z, st.ext e1, ?_⟩
    cases q' : f' ρ with
    | ex c => simp only [RR.bind_ok, q'] at p; exact fun H' e' => p H' (e1.trans e')
    | bad => simp only [RR.bind_ok, q'] at p; exact p
    | ok d' =>
      simp only [RR.bind_ok, q'] at p
      intro v' H2 e2 r2
      cases d with
      | int a =>
        cases d' with
        | int b =>
          have x1 : v = .int a := r1.b
          have x2 : v' = .int b := r2.b
          subst x1 x2
          have p : PostS X.K T Z W σ H false R (if rngOk a b then .ok (rangeD a b) else .bad) := p
          split at p
          · rename_i hc
            simp only [rngOk, Bool.and_eq_true, decide_eq_true_eq] at hc
            refine ⟨a, b, rfl, by omega, ?_⟩
            exact p _ H2 (e1.trans e2) (by unfold rangeD; rw [List.length_map, List.length_range, lim_eq]; exact hc.2) walkD_range
          · exact p.elim
        | _ => exact (show False from p).elim
      | _ => exact (show False from p).elim
end
end Py
end
section
set_option maxHeartbeats 1000000
namespace Py
open PySem PySem.Spec PyProof.Rows L2 LamX

/-! ### targets -/
inductive Tg where | v (i : Nat) | t (l : List Nat)
def setV : List Nat → List V → L2.St → L2.St
  | i :: is, v :: vs, σ => setV is vs (σ.set i (some v))
  | _, _, σ => σ
def setD : List Nat → List D → Env → Env
  | i :: is, d :: ds, ρ => setD is ds (ρ.set i (some (false, d)))
  | _, _, ρ => ρ
def bindT : Tg → D → Env → RR Env
  | .v i, d, ρ => .ok (ρ.set i (some (false, d)))
  | .t is, .tup l, ρ => if l.length = is.length then .ok (setD is l ρ) else .bad
  | _, _, _ => .bad
theorem StE.set {K : PySem.W.Frag} {T : Tb} {Z : Addr → Bool} {σ : L2.St} {H : Hp} {ρ : Env} (h : StE K T Z σ H ρ) {d : D} {v : V} (r : Rep K (hide H Z) d v) (i : Nat) : StE K T Z (σ.set i (some v)) H (ρ.set i (some (false, d))) := by
  refine ⟨fun j s q => ?_, fun j k a d' e q1 q2 q3 q4 => ?_, h.zdom, h.tabs, by rw [List.length_set, List.length_set]; exact h.len⟩
  · by_cases hj : i = j
    · subst hj
      rw [List.getElem?_set_self'] at q ⊢
      cases e : ρ[i]? with
      | none => rw [e] at q; cases q
      | some o =>
        rw [e] at q
        have q' : some (some (false, d)) = some (some s) := q
        have hi : i < σ.length := by
          rw [← h.len]
          exact (List.getElem?_eq_some_iff.mp e).1
        cases q'
        exact ⟨v, by rw [List.getElem?_eq_getElem hi]; rfl, r⟩
    · rw [List.getElem?_set_ne hj] at q ⊢
      exact h.slot j s q
  · have nj : ∀ (j : Nat) (d' : D), (ρ.set i (some (false, d)))[j]? = some (some (true, d')) → i ≠ j ∧ ρ[j]? = some (some (true, d')) := fun j d' q => by
      by_cases hj : i = j
      · subst hj
        rw [List.getElem?_set_self'] at q
        cases e : ρ[i]? with
        | none => rw [e] at q; cases q
        | some o => rw [e] at q; cases (show some (some (false, d)) = some (some (true, d')) from q)
      · rw [List.getElem?_set_ne hj] at q
        exact ⟨hj, q⟩
    obtain ⟨n1, w1⟩ := nj j d' q1
    obtain ⟨n2, w2⟩ := nj k e q2
    rw [List.getElem?_set_ne n1] at q3
    rw [List.getElem?_set_ne n2] at q4
    exact h.dist j k a d' e w1 w2 q3 q4
theorem StE.setAll {K : PySem.W.Frag} {T : Tb} {Z : Addr → Bool} {H : Hp} : ∀ (is : List Nat) {l : List D} {xs : List V} {σ : L2.St} {ρ : Env}, StE K T Z σ H ρ → Reps K (hide H Z) l xs → StE K T Z (setV is xs σ) H (setD is l ρ)
  | [], l, xs, σ, ρ, h, r => h
  | i :: is, [], xs, σ, ρ, h, r => by rw [show xs = [] from r]; exact h
  | i :: is, d :: l, xs, σ, ρ, h, r => by
    obtain ⟨v, vs, rfl, h1, h2⟩ := r
    exact StE.setAll is (h.set h1 i) h2
theorem StE.unset {K : PySem.W.Frag} {T : Tb} {Z : Addr → Bool} {σ : L2.St} {H : Hp} {ρ : Env} (h : StE K T Z σ H ρ) (i : Nat) : StE K T Z (σ.set i none) H (ρ.set i none) := by
  have nj : ∀ (j : Nat) (s : Bool × D), (ρ.set i none)[j]? = some (some s) → i ≠ j ∧ ρ[j]? = some (some s) := fun j s q => by
    by_cases hj : i = j
    · subst hj
      rw [List.getElem?_set_self'] at q
      cases e : ρ[i]? with
      | none => rw [e] at q; cases q
      | some o => rw [e] at q; cases (show some (none : Option (Bool × D)) = some (some s) from q)
    · rw [List.getElem?_set_ne hj] at q
      exact ⟨hj, q⟩
  refine ⟨fun j s q => ?_, fun j k a d' e q1 q2 q3 q4 => ?_, h.zdom, h.tabs, by rw [List.length_set, List.length_set]; exact h.len⟩
  · obtain ⟨n1, w1⟩ := nj j s q
    rw [List.getElem?_set_ne n1]
    exact h.slot j s w1
  · obtain ⟨n1, w1⟩ := nj j _ q1
    obtain ⟨n2, w2⟩ := nj k _ q2
    rw [List.getElem?_set_ne n1] at q3
    rw [List.getElem?_set_ne n2] at q4
    exact h.dist j k a d' e w1 w2 q3 q4
def wipeD (ρ : Env) : List Nat → Env
  | [] => ρ
  | v :: vs => (wipeD ρ vs).set v none
theorem StE.wipe {K : PySem.W.Frag} {T : Tb} {Z : Addr → Bool} {σ : L2.St} {H : Hp} {ρ : Env} (h : StE K T Z σ H ρ) : ∀ vs : List Nat, StE K T Z (L2.wipe σ vs) H (wipeD ρ vs)
  | [] => h
  | v :: vs => (StE.wipe h vs).unset v
/-- more is hidden -/
theorem StE.more {K : PySem.W.Frag} {T : Tb} {Z : Addr → Bool} {σ : L2.St} {H : Hp} {ρ : Env} (h : StE K T Z σ H ρ) {p : Addr} {o : HO} (n : FreshAt H p) (ht : ∀ ps, o ≠ .tbl ps) (e : Ext T H (upd H p o)) : StE K T (Zs Z p) σ (upd H p o) ρ := by
  have g : ExtN (hide H Z) (hide (upd H p o) (Zs Z p)) := fun b u q nt => by rw [hide_zs]; exact exZs n b u q nt
  refine ⟨fun i s q => ?_, h.dist, fun a za f => ?_, e.tabs, h.len⟩
  · obtain ⟨v, q1, q2⟩ := h.slot i s q
    refine ⟨v, q1, ?_⟩
    obtain ⟨ow, d⟩ := s
    cases ow with
    | true =>
      obtain ⟨a, rfl, za, oa⟩ := q2
      exact ⟨a, rfl, zs_sub a za, oa.ext g e.ext⟩
    | false => exact Rep.ext g d v q2
  · by_cases ha : a = p
    · subst ha
      rcases f with f | ⟨ps, f⟩
      · rw [upd_same] at f; cases f
      · rw [upd_same] at f; cases f; exact ht ps rfl
    · have z : Z a = true := by
        unfold Zs at za
        simpa [ha] using za
      exact h.zdom a z (f.back e.ext)
theorem wipe_set {σ : L2.St} {i : Nat} {o : Option V} : ∀ {vs : List Nat}, i ∈ vs → L2.wipe (σ.set i o) vs = L2.wipe σ vs
  | v :: vs, h => by
    unfold L2.wipe
    by_cases hi : i ∈ vs
    · rw [wipe_set hi]
    · have e : i = v := by
        rcases List.mem_cons.mp h with e | e
        · exact e
        · exact (hi e).elim
      subst e
      have : ∀ (σ : L2.St) (vs : List Nat), i ∉ vs → L2.wipe (σ.set i o) vs = (L2.wipe σ vs).set i o := by
        intro σ vs hv
        induction vs with
        | nil => rfl
        | cons w ws ih =>
          simp only [List.mem_cons, not_or] at hv
          unfold L2.wipe
          rw [ih hv.2, List.set_comm _ _ (fun q => hv.1 q)]
      rw [this σ vs hi, List.set_set]
theorem wipe_setV {vs : List Nat} : ∀ {is : List Nat} {xs : List V} {σ : L2.St}, (∀ i ∈ is, i ∈ vs) → L2.wipe (setV is xs σ) vs = L2.wipe σ vs
  | [], xs, σ, h => rfl
  | i :: is, [], σ, h => rfl
  | i :: is, x :: xs, σ, h => by
    unfold setV
    rw [wipe_setV fun j hj => h j (List.mem_cons_of_mem _ hj), wipe_set (h i List.mem_cons_self)]
theorem wipe_wipe {σ : L2.St} : ∀ {vs : List Nat}, L2.wipe (L2.wipe σ vs) vs = L2.wipe σ vs := by
  intro vs
  have key : ∀ (us : List Nat), (∀ u ∈ us, u ∈ vs) → L2.wipe (L2.wipe σ us) vs = L2.wipe σ vs := by
    intro us
    induction us with
    | nil => intro _; rfl
    | cons u us ih =>
      intro h
      conv => lhs; arg 1; unfold L2.wipe
      rw [wipe_set (h u List.mem_cons_self)]
      exact ih fun w hw => h w (List.mem_cons_of_mem _ hw)
  exact key vs fun _ h => h
def Tg.slots : Tg → List Nat
  | .v i => [i]
  | .t l => l
def tgs : List Nat → TGs
  | [] => gNil
  | i :: is => gCons (gName i) (tgs is)
theorem tgs_of {H : Hp} {Q : L2.St → Hp → Prop} : ∀ {is : List Nat} {xs : List V} {σ : L2.St}, xs.length = is.length → Q (setV is xs σ) H → tgs is xs σ H Q
  | [], xs, σ, h, q => ⟨List.length_eq_zero_iff.mp h, by
    have e : xs = [] := List.length_eq_zero_iff.mp h
    subst e; exact q⟩
  | i :: is, [], σ, h, q => by simp at h
  | i :: is, x :: xs, σ, h, q => ⟨x, xs, rfl, tgs_of (by simpa using h) q⟩
/-- a target's rule -/
def gOf (K : PySem.W.Frag) : Tg → TG
  | .v i => gName i
  | .t is => gTup K is.length (tgs is)
theorem gOf_of {K : PySem.W.Frag} {t : Tg} {T : Tb} {Z : Addr → Bool} {v : V} {σ : L2.St} {H : Hp} {Q : L2.St → Hp → Prop} {ρ ρ' : Env} {d : D} (st : StE K T Z σ H ρ) (r : Rep K (hide H Z) d v) (e : bindT t d ρ = .ok ρ')
    (h : ∀ σ', StE K T Z σ' H ρ' → (∀ vs : List Nat, (∀ i ∈ t.slots, i ∈ vs) → L2.wipe σ' vs = L2.wipe σ vs) → Q σ' H) : gOf K t v σ H Q := by
  cases t with
  | v i =>
    cases e
    exact h _ (st.set r i) fun vs hv => wipe_set (hv i List.mem_cons_self)
  | t is =>
    cases d <;> simp only [bindT, reduceCtorEq] at e
    split at e
    · rename_i l hl
      cases e
      obtain ⟨z, a, xs, rfl, ha, ra⟩ := r
      refine ⟨a, xs, rfl, SqT.ext exUnhide ha, by rw [ra.length, hl], tgs_of (by rw [ra.length, hl]) ?_⟩
      exact h _ (StE.setAll is st ra) fun vs hv => wipe_setV hv
    · cases e
theorem tg_v {X : Cx} {i : Nat} {x : Str} {pos : Pos} (hN : X.N.Nodup) (hi : X.N[i]? = some x) (hx : Loc X.env.scope x) (hf : X.fn x = true ∨ X.env.scope.names.lookup x = some .local) : PG X (.Name x pos) (gOf X.K (.v i)) := pg_name hN hi hx hf
structure TgsOk (X : Cx) (es : List Expr) (is : List Nat) : Prop where
  pg : PGs X es (tgs is)
  len : (assignEach es X.env).length = is.length
  st : (assignEach es X.env).findIdx? (·.1) = none
theorem tgs_nil {X : Cx} : TgsOk X [] [] := ⟨pgs_nil, rfl, rfl⟩
theorem tgs_cons {X : Cx} {i : Nat} {x : Str} {pos : Pos} {es : List Expr} {is : List Nat} (hN : X.N.Nodup) (hi : X.N[i]? = some x) (hx : Loc X.env.scope x) (hf : X.fn x = true ∨ X.env.scope.names.lookup x = some .local) (h : TgsOk X es is) : TgsOk X (.Name x pos :: es) (i :: is) := by
  refine ⟨pgs_cons (pg_name hN hi hx hf) h.pg (by rfl), ?_, ?_⟩
  · show ((false, assign (.Name x pos) X.env) :: assignEach es X.env).length = _
    rw [List.length_cons, List.length_cons, h.len]
  · show ((false, assign (.Name x pos) X.env) :: assignEach es X.env).findIdx? (·.1) = none
    rw [List.findIdx?_cons, h.st]; rfl
theorem tg_t {X : Cx} {es : List Expr} {is : List Nat} {k : Nat} {pos : Pos} (hc : X.calm = true) (h : TgsOk X es is) : PG X (.Tuple es k pos) (gOf X.K (.t is)) := pg_tup (n := is.length) hc h.pg h.len h.st
end Py
end
section
set_option maxHeartbeats 1000000
namespace Py
open PySem PySem.Spec PyProof.Rows L2 LamX

/-! ### comprehensions -/
/-- each item's turn: nothing, or an item; what is raised in it isn't served -/
def mapC (f : D → RR (Option D)) : List D → RR (List D)
  | [] => .ok []
  | d :: l => match f d with
    | .ok o => (mapC f l).bind fun r => .ok (o.toList ++ r)
    | _ => .bad
theorem mapC_len {f : D → RR (Option D)} : ∀ {l out : List D}, mapC f l = .ok out → out.length ≤ l.length
  | [], out, h => by cases h; exact Nat.le_refl _
  | d :: l, out, h => by
    unfold mapC at h
    cases q : f d with
    | ok o =>
      rw [q] at h
      simp only at h
      cases q2 : mapC f l with
      | ok r =>
        rw [q2] at h
        cases h
        have := mapC_len q2
        rw [List.length_append, List.length_cons]
        cases o <;> simp <;> omega
      | ex c => rw [q2] at h; cases h
      | bad => rw [q2] at h; cases h
    | ex c => rw [q] at h; cases h
    | bad => rw [q] at h; cases h
abbrev noW : WX := fun _ _ _ _ => False
/-- an item's turn: the target, the test, the element -/
def turnC (t : Tg) (vs : List Nat) (ρ : Env) (fc : Env → RR Bool) (fe : Env → RR D) (d : D) : RR (Option D) := do
  let ρ1 ← bindT t d (wipeD ρ vs)
  let k ← fc ρ1
  if k then (do let x ← fe ρ1; .ok (some x)) else .ok none
theorem stE_own {K : PySem.W.Frag} {T : Tb} {Z : Addr → Bool} {σ : L2.St} {H : Hp} {ρ : Env} (h : StE K T Z σ H ρ) {D : Addr} {ys : List V} (n : FreshAt H D) (e : Ext T H (upd H D (.lst ys))) : StE K T (Zs Z D) σ (upd H D (.lst ys)) ρ :=
  h.more n (fun ps q => by cases q) e
section
variable {X : Cx} {T : Tb} {W : WX} {pos : Pos}
/-- the list that grows is hidden: what stands is not touched -/
theorem ext_grow {H0 H : Hp} {D : Addr} {ys zs : List V} (e : Ext T H0 H) (n : H0 D = none) (hD : H D = some (.lst ys)) : Ext T H0 (upd H D (.lst zs)) := by
  have k : ∀ b u, H b = some u → b ≠ D → upd H D (.lst zs) b = some u := fun b u h nb => by rw [upd_ne nb]; exact h
  refine ⟨fun b u h nt => ?_, fun p hp => ?_⟩
  · have nb : b ≠ D := ne_of_none h n
    exact k b u (e.ext b u h nt) nb
  · obtain ⟨ps, h1, h2, h3⟩ := e.tabs p hp
    have nP : p.1 ≠ D := fun q => by rw [q, hD] at h1; cases h1
    refine ⟨ps, k _ _ h1 nP, h2, fun pos cv hc => ?_⟩
    obtain ⟨c, e1, e2⟩ := h3 pos cv hc
    refine ⟨c, e1, k _ _ e2 fun q => ?_⟩
    rw [q, hD] at e2
    unfold CodeO at e2
    cases e2
theorem stE_grow {K : PySem.W.Frag} {Z : Addr → Bool} {σ : L2.St} {H : Hp} {ρ : Env} {D : Addr} {ys zs : List V} (h : StE K T Z σ H ρ) (hZ : Z D = true) (hD : H D = some (.lst ys)) (hn : ∀ (i : Nat) (v : Addr) (d : Py.D), ρ[i]? = some (some (true, d)) → σ[i]? = some (some (V.ref v)) → v ≠ D) : StE K T Z σ (upd H D (.lst zs)) ρ := by
  have hh : hide (upd H D (.lst zs)) Z = hide H Z := by
    funext b
    unfold hide
    by_cases hb : b = D
    · subst hb; rw [hZ]; rfl
    · rw [upd_ne hb]
  refine ⟨fun i s q => ?_, h.dist, fun a za f => ?_, fun p hp => ?_, h.len⟩
  · obtain ⟨v, q1, q2⟩ := h.slot i s q
    refine ⟨v, q1, ?_⟩
    obtain ⟨o, d⟩ := s
    cases o with
    | false =>
      have q2 : Rep K (hide H Z) d v := q2
      show Rep K (hide (upd H D (.lst zs)) Z) d v
      rw [hh]; exact q2
    | true =>
      obtain ⟨a, rfl, za, oa⟩ := q2
      refine ⟨a, rfl, za, ?_⟩
      have na := hn i a d q q1
      rw [hh]
      cases d with
      | lst l =>
        obtain ⟨z, xs, h1, h2⟩ := oa
        exact ⟨z, xs, by rw [upd_ne na]; exact h1, h2⟩
      | dic ks vs =>
        obtain ⟨kvs, h1, h3, h2⟩ := oa
        exact ⟨kvs, by rw [upd_ne na]; exact h1, h3, h2⟩
      | _ => exact False.elim oa
  · by_cases ha : a = D
    · subst ha
      rcases f with f | ⟨ps, f⟩
      · rw [upd_same] at f; cases f
      · rw [upd_same] at f; cases f
    · refine h.zdom a za ?_
      rcases f with f | ⟨ps, f⟩
      · rw [upd_ne ha] at f; exact .inl f
      · rw [upd_ne ha] at f; exact .inr ⟨ps, f⟩
  · have k : ∀ b u, H b = some u → b ≠ D → upd H D (.lst zs) b = some u := fun b u h nb => by rw [upd_ne nb]; exact h
    obtain ⟨ps, h1, h2, h3⟩ := h.tabs p hp
    have nP : p.1 ≠ D := fun q => by rw [q, hD] at h1; cases h1
    refine ⟨ps, k _ _ h1 nP, h2, fun pos cv hc => ?_⟩
    obtain ⟨c, e1, e2⟩ := h3 pos cv hc
    refine ⟨c, e1, k _ _ e2 fun q => ?_⟩
    rw [q, hD] at e2
    unfold CodeO at e2
    cases e2
theorem takes_blk {s : Shared} {H : Hp} {scope : Scope} {cenv : PySem.Env} {fp : List Addr} : Takes (X.blk s H scope cenv fp) noW := L2.takes0
/-- the core: over any source -/
theorem comp_core {t : Tg} {vs : List Nat} {bo : Bool} {fs : Env → RR (List D)} {m : Md} {fc : Env → RR Bool} {fe : Env → RR D} {tt : TT} {te : TE}
    (hslot : ∀ i ∈ t.slots, i ∈ vs) (hme : m ≠ .bo)
    (htt : ∀ σ H Q, tDT X.K T noW fc σ H Q → tt σ H Q) (hte : ∀ σ H Q, tD X.K T noW m fe σ H Q → te σ H Q)
    {wi : TI} (hs : ∀ σ H R, (∃ ρ Z, StE X.K T Z σ H ρ ∧ PostS X.K T Z W σ H bo R (fs ρ)) → wi σ H R) {σ : L2.St} {H : Hp} {Q : VK} {ρ : Env} {Z : Addr → Bool} (st : StE X.K T Z σ H ρ)
    (p : Post X.K T Z W σ H .fr Q (fs ρ >>= fun l => mapC (turnC t vs ρ fc fe) l >>= fun out => .ok (.lst out))) : tLc wi (gOf X.K t) tt te vs σ H Q := by
  refine hs σ H _ ⟨ρ, Z, st, ?_⟩
  cases q : fs ρ with
  | ex c => rw [q] at p; exact p
  | bad => rw [q] at p; exact p
  | ok l =>
    rw [q] at p
    intro J H1 e1 hl w D hD
    obtain ⟨G, Y, wk, wG, wY⟩ := w.ex
    -- what the comprehension gives
    have p1 : Post X.K T Z W σ H1 .fr Q (mapC (turnC t vs ρ fc fe) l >>= fun out => .ok (.lst out)) := Post.from p e1
    have st1 := st.ext e1
    cases q2 : mapC (turnC t vs ρ fc fe) l with
    | ex c =>
      exfalso
      have : ∀ (f : Py.D → RR (Option Py.D)) (l : List Py.D) (c : Str), mapC f l ≠ .ex c := by
        intro f l
        induction l with
        | nil => intro c h; cases h
        | cons d l ih =>
          intro c h
          unfold mapC at h
          cases q : f d with
          | ok o =>
            rw [q] at h
            simp only at h
            cases q2 : mapC f l with
            | ok r => rw [q2] at h; cases h
            | ex c' => exact ih c' q2
            | bad => rw [q2] at h; cases h
          | ex c => rw [q] at h; cases h
          | bad => rw [q] at h; cases h
      exact this _ _ _ q2
    | bad => rw [q2] at p1; exact p1.elim
    | ok out =>
      rw [q2] at p1
      have p1 : ∀ v H', Ext T H1 H' → RepV X.K Z H1 H' .fr (.lst out) v → Q v H' := p1
      have outl := mapC_len q2
      -- the invariant
      refine lc_it wk (fun i Hi => ∃ acc ds rest, Hi D = some (.lst acc) ∧ Reps X.K (hide Hi (Zs Z D)) ds acc ∧ mapC (turnC t vs ρ fc fe) (l.drop i) = .ok rest ∧ out = ds ++ rest ∧ ds.length ≤ i ∧ Ext T H1 Hi ∧ StE X.K T (Zs Z D) σ Hi ρ)
        ?_ (fun i Hi _ ⟨acc, ds, rest, h1, h2, h3, h4, h5, h6, h7⟩ => wG Hi (Zs Z D) ?_ ?_) ?_ ?_
      · exact ⟨[], [], out, upd_same, rfl, by rw [List.drop_zero]; exact q2, rfl, Nat.le_refl _, ext_new e1.tabs hD, stE_own st1 (.inl hD) (ext_new e1.tabs hD)⟩
      · -- the shared heap at the source
        have a1 : ExtN (hide H1 Z) (hide H1 (Zs Z D)) := exZs (.inl hD)
        exact a1.trans (exHide h6.ext)
      · cases bo with
        | true => exact h6.ext
        | false => exact fun b o h => by cases h
      · rintro i x Hi H' hi ⟨acc, ds, rest, h1, h2, h3, h4, h5, h6, h7⟩ y
        have a1 : ExtN (hide H1 Z) (hide Hi (Zs Z D)) := (exZs (.inl hD)).trans (exHide h6.ext)
        have a2 : ExtN (if bo = true then H1 else noHp) Hi := by
          cases bo with
          | true => exact h6.ext
          | false => exact fun b o h => by cases h
        obtain ⟨d, hd, e2, rd⟩ := wY i Hi x H' (Zs Z D) hi a1 a2 h6.tabs h7.zdom y
        have hdr : l.drop i = d :: l.drop (i + 1) := by
          have := List.drop_eq_getElem_cons hi
          rw [this]
          have e : l[i] = d := by
            rw [List.getElem?_eq_getElem hi] at hd
            exact Option.some.inj hd
          rw [e]
        rw [hdr] at h3
        unfold mapC at h3
        cases ft : turnC t vs ρ fc fe d with
        | ex c => rw [ft] at h3; cases h3
        | bad => rw [ft] at h3; cases h3
        | ok o =>
          rw [ft] at h3
          simp only at h3
          cases fr : mapC (turnC t vs ρ fc fe) (l.drop (i + 1)) with
          | ex c => rw [fr] at h3; cases h3
          | bad => rw [fr] at h3; cases h3
          | ok rest' =>
            rw [fr] at h3
            cases h3
            unfold turnC at ft
            have hst := (h7.ext e2).wipe vs
            cases fb : bindT t d (wipeD ρ vs) with
            | ex c => rw [fb] at ft; cases ft
            | bad => rw [fb] at ft; cases ft
            | ok ρ1 =>
              rw [fb] at ft
              refine gOf_of hst rd fb fun σ2 st2 hw => ⟨by rw [hw vs hslot, wipe_wipe], ?_⟩
              have dH' : H' D = some (.lst acc) := e2.ext D _ h1 (fun ps q => by cases q)
              refine htt _ _ _ ⟨ρ1, Zs Z D, st2, ?_⟩
              simp only [RR.bind_ok] at ft
              cases fk : fc ρ1 with
              | ex c => rw [fk] at ft; cases ft
              | bad => rw [fk] at ft; cases ft
              | ok k =>
                rw [fk] at ft
                intro H3 e3
                have dH3 : H3 D = some (.lst acc) := e3.ext D _ dH' (fun ps q => by cases q)
                cases k with
                | false =>
                  rw [if_neg Bool.false_ne_true]
                  have ft : RR.ok (none : Option Py.D) = .ok o := ft
                  cases ft
                  refine ⟨acc, ds, rest', dH3, Reps.ext (exHide (e2.ext.trans e3.ext)) _ _ h2, rfl, by simpa using h4, by omega, (h6.trans e2).trans e3, (h7.ext e2).ext e3⟩
                | true =>
                  rw [if_pos rfl]
                  refine hte _ _ _ ⟨ρ1, Zs Z D, st2.ext e3, ?_⟩
                  simp only [RR.bind_ok, if_true] at ft
                  cases fx : fe ρ1 with
                  | ex c => rw [fx] at ft; cases ft
                  | bad => rw [fx] at ft; cases ft
                  | ok xd =>
                    rw [fx] at ft
                    cases ft
                    intro y4 H4 e4 r4
                    have dH4 : H4 D = some (.lst acc) := e4.ext D _ dH3 (fun ps q => by cases q)
                    have rsh := r4.sh hme (st2.ext e3).zdom
                    have al : acc.length = ds.length := h2.length
                    refine ⟨acc, dH4, by omega, acc ++ [y4], ds ++ [xd], rest', upd_same, ?_, rfl, by simpa using h4, by rw [List.length_append, List.length_singleton]; omega, ?_, ?_⟩
                    · have hh : hide (upd H4 D (.lst (acc ++ [y4]))) (Zs Z D) = hide H4 (Zs Z D) := hide_zs
                      rw [hh]
                      exact (Reps.ext (exHide ((e2.ext.trans e3.ext).trans e4.ext)) _ _ h2).append ⟨y4, [], rfl, rsh, rfl⟩
                    · exact ext_grow (((h6.trans e2).trans e3).trans e4) hD dH4
                    · refine stE_grow (((h7.ext e2).ext e3).ext e4) zs_self dH4 fun j v dd j1 j2 => ?_
                      -- an owned name's list stood ahead of the comprehension
                      obtain ⟨v', k1, k2⟩ := st1.slot j _ j1
                      obtain ⟨a, rfl, za, oa⟩ := k2
                      rw [k1] at j2
                      cases j2
                      intro e
                      subst e
                      exact st1.zdom _ za (.inl hD)
      · rintro Hn ⟨acc, ds, rest, h1, h2, h3, h4, h5, h6, h7⟩
        rw [List.drop_length] at h3
        cases h3
        rw [List.append_nil] at h4
        subst h4
        refine p1 (.ref D) Hn h6 ⟨D, rfl, .inl hD, Nat.le_trans outl hl, acc, h1, h2⟩
end
end Py
end
section
set_option maxHeartbeats 1000000
namespace Py
open PySem PySem.Spec PyProof.Rows L2 LamX

section
variable {X : Cx} {T : Tb} {W : WX} {pos : Pos}
def compF (t : Tg) (vs : List Nat) (fs : Env → RR (List D)) (fc : Env → RR Bool) (fe : Env → RR D) (ρ : Env) : RR D := do
  let l ← fs ρ
  let out ← mapC (turnC t vs ρ fc fe) l
  .ok (.lst out)
def okTrue : Env → RR Bool := fun _ => .ok true
theorem yes_of {σ : L2.St} {H : Hp} {Q : Bool → Hp → Prop} (h : tDT X.K T noW okTrue σ H Q) : tYes σ H Q := by
  obtain ⟨ρ, Z, st, p⟩ := h
  exact p H (Ext.refl st.tabs)
/-- [elt for tg in iter] and [elt for tg in iter if c] as readings -/
theorem lc_read {t : Tg} {vs : List Nat} {bo : Bool} {fs : Env → RR (List D)} {m : Md} {fc : Env → RR Bool} {fe : Env → RR D} {tt : TT} {wi : TI}
    (hslot : ∀ i ∈ t.slots, i ∈ vs) (hme : m ≠ .bo) (htt : ∀ σ H Q, tDT X.K T noW fc σ H Q → tt σ H Q)
    (hs : ∀ σ H R, (∃ ρ Z, StE X.K T Z σ H ρ ∧ PostS X.K T Z W σ H bo R (fs ρ)) → wi σ H R) {σ : L2.St} {H : Hp} {Q : VK} (h : tD X.K T W .fr (compF t vs fs fc fe) σ H Q) : tLc wi (gOf X.K t) tt (tD X.K T noW m fe) vs σ H Q := by
  obtain ⟨ρ, Z, st, p⟩ := h
  exact comp_core hslot hme htt (fun _ _ _ h => h) hs st p
theorem d_comp {elt tg iter : Expr} {scope : Scope} {own : List (Str × Nat)} {t : Tg} {bo : Bool} {fs : Env → RR (List D)} {m : Md} {fe : Env → RR D} (hc : X.calm = true) (hN : X.N.Nodup) (hi : SrcOk X T W tg iter bo fs) (ok : BlkOk X.N X.env.scope scope own)
    (hg : ∀ (s : Shared) (H : Hp) (C : Addr) (cl : List (Str × Addr)) (fp : List Addr), PG (X.blk s H scope (compEnvC scope cl C X.env) fp) tg (gOf X.K t))
    (he : ∀ (s : Shared) (H : Hp) (C : Addr) (cl : List (Str × Addr)) (fp : List Addr), PE (X.blk s H scope (compEnvC scope cl C X.env) fp) elt (tD X.K T noW m fe)) (hf : notSet iter = true)
    (hslot : ∀ i ∈ t.slots, i ∈ own.map (·.2)) (hme : m ≠ .bo) :
    PE X (.ListComp elt [⟨tg, iter, [], 0⟩] scope pos) (tD X.K T W .fr (compF t (own.map (·.2)) fs okTrue fe)) := by
  obtain ⟨wi, pi, ii⟩ := hi.ex
  exact peImp (pe_lc hc hN pi ok hg (fun _ _ _ _ _ => pts_nil) he (fold_of hf X.env)) fun σ H Q h => lc_read hslot hme (fun _ _ _ h => yes_of h) ii h
theorem d_compIf {elt tg iter c : Expr} {scope : Scope} {own : List (Str × Nat)} {t : Tg} {bo : Bool} {fs : Env → RR (List D)} {m : Md} {fc : Env → RR Bool} {fe : Env → RR D} (hc : X.calm = true) (hN : X.N.Nodup) (hi : SrcOk X T W tg iter bo fs) (ok : BlkOk X.N X.env.scope scope own)
    (hg : ∀ (s : Shared) (H : Hp) (C : Addr) (cl : List (Str × Addr)) (fp : List Addr), PG (X.blk s H scope (compEnvC scope cl C X.env) fp) tg (gOf X.K t))
    (ht : ∀ (s : Shared) (H : Hp) (C : Addr) (cl : List (Str × Addr)) (fp : List Addr), PT (X.blk s H scope (compEnvC scope cl C X.env) fp) c (tDT X.K T noW fc))
    (he : ∀ (s : Shared) (H : Hp) (C : Addr) (cl : List (Str × Addr)) (fp : List Addr), PE (X.blk s H scope (compEnvC scope cl C X.env) fp) elt (tD X.K T noW m fe)) (hf : notSet iter = true)
    (hslot : ∀ i ∈ t.slots, i ∈ own.map (·.2)) (hme : m ≠ .bo) :
    PE X (.ListComp elt [⟨tg, iter, [c], 0⟩] scope pos) (tD X.K T W .fr (compF t (own.map (·.2)) fs fc fe)) := by
  obtain ⟨wi, pi, ii⟩ := hi.ex
  exact peImp (pe_lc hc hN pi ok hg (fun s H C cl fp => pts_one (ht s H C cl fp)) he (fold_of hf X.env)) fun σ H Q h => lc_read hslot hme (fun _ _ _ h => h) ii h

/-! ### calls of the text's own defs -/
def PostF (K : PySem.W.Frag) (T : Tb) (Z : Addr → Bool) (H : Hp) (m : Md) (Q : VK) (E : XK) : RR D → Prop
  | .ok d => ∀ v H', Ext T H H' → RepV K Z H H' m d v → Q v H'
  | .ex c => ∀ H', Ext T H H' → E (.ref (He.ga K c)) none H'
  | .bad => False
/-- a def's promise: it gives what the function g of data gives -/
def spD (K : PySem.W.Frag) (T : Tb) (m : Md) (n : Nat) (g : List D → RR D) : Sp := fun vs H Q E => ∃ (ds : List D) (Z : Addr → Bool), ds.length = n ∧ Tabs T H ∧ (∀ a, Z a = true → ¬ FreshAt H a) ∧ Reps K (hide H Z) ds vs ∧ PostF K T Z H m Q E (g ds)
structure FnAt (X : Cx) (T : Tb) (k : Nat) (x : Str) (m : Md) (n : Nat) (g : List D → RR D) : Prop where
  ex : ∃ (f : Addr) (fd : FuncData) (ps : List Str), FnOk X.prog X.w X.K X.mg X.base (L2.CX X.prog X.w) k f fd ps (spD X.K T m n g) ∧ X.mg x = some (.ref f) ∧ PySem.W.keepIn X.K (.ref f) = true ∧ L2.Binds X.K fd ps []
theorem d_call {k n : Nat} {x : Str} {p : Pos} {e : Expr} {es : List Expr} {m : Md} {g : List D → RR D} {f : Env → RR (List D)} (F : FnAt X T k x m n g) (hr : Room k X.A) (tk : Takes X W) (hg : Gl X x) (ha : PA X (e :: es) (tDA X.K T W true f)) (hs : (e :: es).all notStar = true)
    (hdb : (x == ("__debug__" : Str)) = false) : PE X (.Call (.Name x p) (e :: es) [] pos) (tD X.K T W m fun ρ => do let xs ← f ρ; if xs.length = n then g xs else .bad) := by
  obtain ⟨a, fd, ps, ok, hm, hk, hb⟩ := F.ex
  have hs' := hs
  rw [List.all_cons, Bool.and_eq_true] at hs'
  refine peImp (pe_callS ok hr hg hm hk hb (passAt tk) ha hdb (star_of hs'.1 es X.env) (back_star hs'.2 X.env)) fun σ H Q ⟨ρ, Z, st, p⟩ => ⟨ρ, Z, st, PostA.then p fun ds vs H1 _ e1 r1 p1 => ?_⟩
  split at p1
  · rename_i hl
    refine ⟨ds, Z, hl, e1.tabs, (st.ext e1).zdom, r1, ?_⟩
    cases q : g ds with
    | ok d => rw [q] at p1; exact p1
    | ex c => rw [q] at p1; exact p1
    | bad => rw [q] at p1; exact p1
  · exact p1.elim
theorem d_call0 {k : Nat} {x : Str} {p : Pos} {m : Md} {g : List D → RR D} (F : FnAt X T k x m 0 g) (hr : Room k X.A) (tk : Takes X W) (hg : Gl X x) (hdb : (x == ("__debug__" : Str)) = false) : PE X (.Call (.Name x p) [] [] pos) (tD X.K T W m fun _ => g []) := by
  obtain ⟨a, fd, ps, ok, hm, hk, hb⟩ := F.ex
  refine ⟨fun pins s σ H Q I ⟨ρ, Z, st, p⟩ => ?_⟩
  refine wpAny_Call_Name_kw (ld_glob I hg hm ?_ hdb)
  refine PySem.W.callWith_K0 I.kIn hk (run_fnS (us := []) (vs := []) ok hr hb (passAt tk σ) I .nil ⟨[], Z, rfl, st.tabs, st.zdom, rfl, ?_⟩)
  cases q : g [] with
  | ok d => rw [q] at p; exact p
  | ex c => rw [q] at p; exact p
  | bad => rw [q] at p; exact p
end
end Py
end
section
set_option maxHeartbeats 1000000
namespace Py
open PySem PySem.Spec PyProof.Rows L2 LamX

/-! ### statements -/
inductive Out where
  | nx (ρ : Env) | ct (ρ : Env) | br (ρ : Env) | rt (d : D)
structure StS (K : PySem.W.Frag) (T : Tb) (H0 : Hp) (Z0 : Addr → Bool) (G0 : Hp) (Z : Addr → Bool) (σ : L2.St) (H : Hp) (ρ : Env) : Prop where
  e : StE K T Z σ H ρ
  ext : Ext T H0 H
  g : ExtN G0 (hide H Z)
  z0 : ∀ a, Z0 a = true → Z a = true
  zn : ∀ a, Z a = true → Z0 a = true ∨ FreshAt H0 a
  own : ∀ (i : Nat) (a : Addr) (d : D), ρ[i]? = some (some (true, d)) → σ[i]? = some (some (.ref a)) → FreshAt H0 a
def PostD (K : PySem.W.Frag) (T : Tb) (H0 : Hp) (Z0 : Addr → Bool) (G0 : Hp) (W : WX) (m : Md) (D : Ends) : RR Out → Prop
  | .ok (.nx ρ) => ∀ Z σ H, StS K T H0 Z0 G0 Z σ H ρ → D.nx σ H
  | .ok (.ct ρ) => ∀ Z σ H, StS K T H0 Z0 G0 Z σ H ρ → D.ct σ H
  | .ok (.br ρ) => ∀ Z σ H, StS K T H0 Z0 G0 Z σ H ρ → D.bk σ H
  | .ok (.rt d) => ∀ v H', Ext T H0 H' → RepV K Z0 H0 H' m d v → D.rt v H'
  | .ex c => ∀ σ H', Ext T H0 H' → W (.ref (He.ga K c)) none σ H'
  | .bad => False
def tS (K : PySem.W.Frag) (T : Tb) (W : WX) (m : Md) (f : Env → RR Out) : TS := fun D σ H => ∃ H0 Z0 G0 Z ρ, (∀ a, Z0 a = true → ¬ FreshAt H0 a) ∧ StS K T H0 Z0 G0 Z σ H ρ ∧ PostD K T H0 Z0 G0 W m D (f ρ)
theorem StS.to {K : PySem.W.Frag} {T : Tb} {H0 : Hp} {Z0 : Addr → Bool} {G0 : Hp} {Z : Addr → Bool} {σ : L2.St} {H H1 : Hp} {ρ : Env} (s : StS K T H0 Z0 G0 Z σ H ρ) (e : Ext T H H1) : StS K T H0 Z0 G0 Z σ H1 ρ :=
  ⟨s.e.ext e, s.ext.trans e, s.g.trans (exHide e.ext), s.z0, s.zn, s.own⟩
theorem StS.weak {K : PySem.W.Frag} {T : Tb} {H0 : Hp} {Z0 : Addr → Bool} {G0 G1 : Hp} {Z : Addr → Bool} {σ : L2.St} {H : Hp} {ρ : Env} (s : StS K T H0 Z0 G1 Z σ H ρ) (e : ExtN G0 G1) : StS K T H0 Z0 G0 Z σ H ρ :=
  ⟨s.e, s.ext, e.trans s.g, s.z0, s.zn, s.own⟩
theorem StS.self {K : PySem.W.Frag} {T : Tb} {H0 : Hp} {Z0 : Addr → Bool} {G0 : Hp} {Z : Addr → Bool} {σ : L2.St} {H : Hp} {ρ : Env} (s : StS K T H0 Z0 G0 Z σ H ρ) : StS K T H0 Z0 (hide H Z) Z σ H ρ :=
  ⟨s.e, s.ext, ExtN.refl _, s.z0, s.zn, s.own⟩
theorem set_own {ρ : Env} {i j : Nat} {d : D} {o : Option (Bool × D)} (h : (ρ.set i o)[j]? = some (some (true, d))) : (i = j ∧ o = some (true, d)) ∨ (i ≠ j ∧ ρ[j]? = some (some (true, d))) := by
  by_cases hj : i = j
  · subst hj
    rw [List.getElem?_set_self'] at h
    cases e : ρ[i]? with
    | none => rw [e] at h; cases h
    | some u =>
      rw [e] at h
      have h' : some o = some (some (true, d)) := h
      exact .inl ⟨rfl, Option.some.inj h'⟩
  · rw [List.getElem?_set_ne hj] at h
    exact .inr ⟨hj, h⟩
/-- a name gets what may be shared -/
theorem StS.set {K : PySem.W.Frag} {T : Tb} {H0 : Hp} {Z0 : Addr → Bool} {G0 : Hp} {Z : Addr → Bool} {σ : L2.St} {H : Hp} {ρ : Env} (s : StS K T H0 Z0 G0 Z σ H ρ) {d : D} {v : V} (r : Rep K (hide H Z) d v) (i : Nat) : StS K T H0 Z0 G0 Z (σ.set i (some v)) H (ρ.set i (some (false, d))) :=
  ⟨s.e.set r i, s.ext, s.g, s.z0, s.zn, fun j a d' q1 q2 => by
    rcases set_own q1 with ⟨_, e⟩ | ⟨n, q1⟩
    · cases e
    · rw [List.getElem?_set_ne n] at q2
      exact s.own j a d' q1 q2⟩
theorem StS.setAll {K : PySem.W.Frag} {T : Tb} {H0 : Hp} {Z0 : Addr → Bool} {G0 : Hp} {Z : Addr → Bool} {H : Hp} : ∀ (is : List Nat) {l : List D} {xs : List V} {σ : L2.St} {ρ : Env}, StS K T H0 Z0 G0 Z σ H ρ → Reps K (hide H Z) l xs → StS K T H0 Z0 G0 Z (setV is xs σ) H (setD is l ρ)
  | [], l, xs, σ, ρ, h, r => h
  | i :: is, [], xs, σ, ρ, h, r => by rw [show xs = [] from r]; exact h
  | i :: is, d :: l, xs, σ, ρ, h, r => by
    obtain ⟨v, vs, rfl, h1, h2⟩ := r
    exact StS.setAll is (h.set h1 i) h2
/-- a name gets a fresh list or dict -/
theorem StS.setOwn {K : PySem.W.Frag} {T : Tb} {H0 : Hp} {Z0 : Addr → Bool} {G0 : Hp} {Z : Addr → Bool} {σ : L2.St} {H H1 : Hp} {ρ : Env} (s : StS K T H0 Z0 G0 Z σ H ρ) (e : Ext T H H1) {d : D} {a : Addr} (f : FreshAt H a) (o : OwnAt K (hide H1 (Zs Z a)) H1 a d) (i : Nat) :
    StS K T H0 Z0 G0 (Zs Z a) (σ.set i (some (.ref a))) H1 (ρ.set i (some (true, d))) := by
  have g : ExtN (hide H Z) (hide H1 (Zs Z a)) := (exZs f).trans (exHide e.ext)
  have na : ∀ (j : Nat) (d' : D), ρ[j]? = some (some (true, d')) → σ[j]? ≠ some (some (.ref a)) := fun j d' q q2 => by
    obtain ⟨v, k1, k2⟩ := s.e.slot j _ q
    obtain ⟨b, rfl, zb, _⟩ := k2
    rw [q2] at k1
    cases k1
    exact s.e.zdom _ zb f
  have nz : ¬ FreshAt H1 a := fun h => by
    cases d with
    | lst l =>
      obtain ⟨_, xs, h1, _⟩ := o
      rcases h with h | ⟨ps, h⟩ <;> (rw [h] at h1; cases h1)
    | dic ks vs =>
      obtain ⟨kvs, h1, _⟩ := o
      rcases h with h | ⟨ps, h⟩ <;> (rw [h] at h1; cases h1)
    | _ => exact False.elim o
  refine ⟨⟨fun j t q => ?_, fun j k b d' e' q1 q2 q3 q4 => ?_, fun b zb fb => ?_, e.tabs, by rw [List.length_set, List.length_set]; exact s.e.len⟩, s.ext.trans e, s.g.trans g, fun b h => zs_sub b (s.z0 b h), fun b h => ?_, fun j b d' q1 q2 => ?_⟩
  · by_cases hj : i = j
    · subst hj
      rw [List.getElem?_set_self'] at q ⊢
      cases e1 : ρ[i]? with
      | none => rw [e1] at q; cases q
      | some u =>
        rw [e1] at q
        have q' : some (some (true, d)) = some (some t) := q
        cases q'
        have hi : i < σ.length := by
          rw [← s.e.len]
          exact (List.getElem?_eq_some_iff.mp e1).1
        exact ⟨.ref a, by rw [List.getElem?_eq_getElem hi]; rfl, a, rfl, zs_self, o⟩
    · rw [List.getElem?_set_ne hj] at q ⊢
      obtain ⟨v, k1, k2⟩ := s.e.slot j t q
      refine ⟨v, k1, ?_⟩
      obtain ⟨ow, d'⟩ := t
      cases ow with
      | true =>
        obtain ⟨b, rfl, zb, ob⟩ := k2
        exact ⟨b, rfl, zs_sub b zb, ob.ext g e.ext⟩
      | false => exact Rep.ext g d' v k2
  · rcases set_own q1 with ⟨h1, _⟩ | ⟨h1, w1⟩ <;> rcases set_own q2 with ⟨h2, _⟩ | ⟨h2, w2⟩
    · exact h1.symm.trans h2
    · subst h1
      rw [List.getElem?_set_self'] at q3
      rw [List.getElem?_set_ne h2] at q4
      cases e1 : σ[i]? with
      | none => rw [e1] at q3; cases q3
      | some u =>
        rw [e1] at q3
        have q' : some (some (V.ref a)) = some (some (V.ref b)) := q3
        cases q'
        exact (na k e' w2 q4).elim
    · subst h2
      rw [List.getElem?_set_self'] at q4
      rw [List.getElem?_set_ne h1] at q3
      cases e1 : σ[i]? with
      | none => rw [e1] at q4; cases q4
      | some u =>
        rw [e1] at q4
        have q' : some (some (V.ref a)) = some (some (V.ref b)) := q4
        cases q'
        exact (na j d' w1 q3).elim
    · rw [List.getElem?_set_ne h1] at q3
      rw [List.getElem?_set_ne h2] at q4
      exact s.e.dist j k b d' e' w1 w2 q3 q4
  · by_cases hb : b = a
    · subst hb; exact nz fb
    · have z : Z b = true := by unfold Zs at zb; simpa [hb] using zb
      exact s.e.zdom b z (fb.back e.ext)
  · by_cases hb : b = a
    · subst hb; exact .inr (f.back s.ext.ext)
    · have z : Z b = true := by unfold Zs at h; simpa [hb] using h
      exact s.zn b z
  · rcases set_own q1 with ⟨h1, _⟩ | ⟨h1, w1⟩
    · subst h1
      rw [List.getElem?_set_self'] at q2
      cases e1 : σ[i]? with
      | none => rw [e1] at q2; cases q2
      | some u =>
        rw [e1] at q2
        have q' : some (some (V.ref a)) = some (some (V.ref b)) := q2
        cases q'
        exact f.back s.ext.ext
    · rw [List.getElem?_set_ne h1] at q2
      exact s.own j b d' w1 q2
/-- an owned list or dict is changed -/
theorem ext_mut {T : Tb} {H0 H : Hp} {a : Addr} {o o' : HO} (e : Ext T H0 H) (f : FreshAt H0 a) (h : H a = some o) (n1 : ∀ ps, o ≠ .tbl ps) (n2 : ∀ φ, o ≠ .ext φ) : Ext T H0 (upd H a o') := by
  have k : ∀ b u, H b = some u → b ≠ a → upd H a o' b = some u := fun b u h nb => by rw [upd_ne nb]; exact h
  refine ⟨fun b u hb nt => ?_, fun p hp => ?_⟩
  · refine k b u (e.ext b u hb nt) fun q => ?_
    subst q
    rcases f with f | ⟨ps, f⟩
    · rw [f] at hb; cases hb
    · rw [f] at hb; cases hb; exact nt ps rfl
  · obtain ⟨ps, h1, h2, h3⟩ := e.tabs p hp
    have nP : p.1 ≠ a := fun q => by rw [q, h] at h1; cases h1; exact n1 ps rfl
    refine ⟨ps, k _ _ h1 nP, h2, fun pos cv hc => ?_⟩
    obtain ⟨c, e1, e2⟩ := h3 pos cv hc
    refine ⟨c, e1, k _ _ e2 fun q => ?_⟩
    rw [q, h] at e2
    unfold CodeO at e2
    cases e2
    exact n2 _ rfl
theorem StS.mut {K : PySem.W.Frag} {T : Tb} {H0 : Hp} {Z0 : Addr → Bool} {G0 : Hp} {Z : Addr → Bool} {σ : L2.St} {H : Hp} {ρ : Env} (s : StS K T H0 Z0 G0 Z σ H ρ) {i : Nat} {a : Addr} {d d' : D} {o o' : HO} (hi : ρ[i]? = some (some (true, d))) (hσ : σ[i]? = some (some (.ref a))) (ha : H a = some o)
    (n1 : ∀ ps, o ≠ .tbl ps) (n2 : ∀ φ, o ≠ .ext φ) (n3 : ∀ ps, o' ≠ .tbl ps) (ow : OwnAt K (hide H Z) (upd H a o') a d') : StS K T H0 Z0 G0 Z σ (upd H a o') (ρ.set i (some (true, d'))) := by
  obtain ⟨v0, k1, k2⟩ := s.e.slot i _ hi
  obtain ⟨a0, rfl, za, oa⟩ := k2
  rw [hσ] at k1
  cases k1
  have hh : hide (upd H a o') Z = hide H Z := by
    funext b
    unfold hide
    by_cases hb : b = a
    · subst hb; rw [za]; rfl
    · rw [upd_ne hb]
  have fr := s.own i a d hi hσ
  have ex := ext_mut (o' := o') s.ext fr ha n1 n2
  refine ⟨⟨fun j t q => ?_, fun j k b d1 e' q1 q2 q3 q4 => ?_, fun b zb fb => ?_, ex.tabs, by rw [List.length_set]; exact s.e.len⟩, ex, by rw [hh]; exact s.g, s.z0, s.zn, fun j b d1 q1 q2 => ?_⟩
  · by_cases hj : i = j
    · subst hj
      rw [List.getElem?_set_self', hi] at q
      have q' : some (some (true, d')) = some (some t) := q
      cases q'
      exact ⟨.ref a, hσ, a, rfl, za, by rw [hh]; exact ow⟩
    · rw [List.getElem?_set_ne hj] at q
      obtain ⟨v, k1, k2⟩ := s.e.slot j t q
      refine ⟨v, k1, ?_⟩
      obtain ⟨ob, d1⟩ := t
      cases ob with
      | true =>
        obtain ⟨b, rfl, zb, ob⟩ := k2
        have nb : b ≠ a := fun e => by
          subst e
          exact hj (s.e.dist i j b d d1 hi q hσ k1)
        refine ⟨b, rfl, zb, ?_⟩
        rw [hh]
        cases d1 with
        | lst l =>
          obtain ⟨z, xs, h1, h2⟩ := ob
          exact ⟨z, xs, by rw [upd_ne nb]; exact h1, h2⟩
        | dic ks vs =>
          obtain ⟨kvs, h1, h3, h2⟩ := ob
          exact ⟨kvs, by rw [upd_ne nb]; exact h1, h3, h2⟩
        | _ => exact False.elim ob
      | false =>
        have k2 : Rep K (hide H Z) d1 v := k2
        show Rep K (hide (upd H a o') Z) d1 v
        rw [hh]; exact k2
  · have w : ∀ (j : Nat) (d1 : D), (ρ.set i (some (true, d')))[j]? = some (some (true, d1)) → ∃ d2, ρ[j]? = some (some (true, d2)) := fun j d1 q => by
      rcases set_own q with ⟨h1, _⟩ | ⟨_, h1⟩
      · subst h1; exact ⟨d, hi⟩
      · exact ⟨d1, h1⟩
    obtain ⟨d2, w1⟩ := w j d1 q1
    obtain ⟨d3, w2⟩ := w k e' q2
    exact s.e.dist j k b d2 d3 w1 w2 q3 q4
  · by_cases hb : b = a
    · subst hb
      rcases fb with fb | ⟨ps, fb⟩
      · rw [upd_same] at fb; cases fb
      · rw [upd_same] at fb; cases fb; exact n3 ps rfl
    · refine s.e.zdom b zb ?_
      rcases fb with fb | ⟨ps, fb⟩
      · rw [upd_ne hb] at fb; exact .inl fb
      · rw [upd_ne hb] at fb; exact .inr ⟨ps, fb⟩
  · rcases set_own q1 with ⟨h1, _⟩ | ⟨_, h1⟩
    · subst h1
      exact s.own i b d hi q2
    · exact s.own j b d1 h1 q2
/-- an owned one is shared from now on -/
def frzD (i : Nat) (ρ : Env) : RR Env := match ρ[i]? with
  | some (some (true, d)) => .ok (ρ.set i (some (false, d)))
  | some (some (false, _)) => .ok ρ
  | _ => .bad
theorem StS.frz {K : PySem.W.Frag} {T : Tb} {H0 : Hp} {Z0 : Addr → Bool} {G0 : Hp} {Z : Addr → Bool} {σ : L2.St} {H : Hp} {ρ : Env} (s : StS K T H0 Z0 G0 Z σ H ρ) (hz : ∀ a, Z0 a = true → ¬ FreshAt H0 a) {i : Nat} {a : Addr} {d : D} (hi : ρ[i]? = some (some (true, d))) (hσ : σ[i]? = some (some (.ref a))) :
    StS K T H0 Z0 G0 (fun b => Z b && !decide (b = a)) σ H (ρ.set i (some (false, d))) := by
  obtain ⟨v0, k1, k2⟩ := s.e.slot i _ hi
  obtain ⟨a0, rfl, za, oa⟩ := k2
  rw [hσ] at k1
  cases k1
  have g : ExtN (hide H Z) (hide H (fun b => Z b && !decide (b = a))) := exLess fun b h => (Bool.and_eq_true_iff.mp h).1
  have fr := s.own i a d hi hσ
  have zaa : (Z a && !decide (a = a)) = false := by simp
  refine ⟨⟨fun j t q => ?_, fun j k b d1 e' q1 q2 q3 q4 => ?_, fun b zb fb => s.e.zdom b (Bool.and_eq_true_iff.mp zb).1 fb, s.e.tabs, by rw [List.length_set]; exact s.e.len⟩, s.ext, s.g.trans g, fun b h => ?_, fun b h => s.zn b (Bool.and_eq_true_iff.mp h).1, fun j b d1 q1 q2 => ?_⟩
  · by_cases hj : i = j
    · subst hj
      rw [List.getElem?_set_self', hi] at q
      have q' : some (some (false, d)) = some (some t) := q
      cases q'
      refine ⟨.ref a, hσ, ?_⟩
      show Rep K (hide H _) d (.ref a)
      cases d with
      | lst l =>
        obtain ⟨z, xs, h1, h2⟩ := oa
        exact ⟨z, a, xs, rfl, by rw [hide_of zaa]; exact h1, Reps.ext g _ _ h2⟩
      | dic ks vs =>
        obtain ⟨kvs, h1, h3, h2⟩ := oa
        exact ⟨a, kvs, rfl, by rw [hide_of zaa]; exact h1, h3, Reps.ext g _ _ h2⟩
      | _ => exact False.elim oa
    · rw [List.getElem?_set_ne hj] at q
      obtain ⟨v, k1, k2⟩ := s.e.slot j t q
      refine ⟨v, k1, ?_⟩
      obtain ⟨ob, d1⟩ := t
      cases ob with
      | true =>
        obtain ⟨b, rfl, zb, ob⟩ := k2
        have nb : b ≠ a := fun e => by
          subst e
          exact hj (s.e.dist i j b d d1 hi q hσ k1)
        exact ⟨b, rfl, by simp [zb, nb], ob.ext g (ExtN.refl _)⟩
      | false => exact Rep.ext g d1 v k2
  · rcases set_own q1 with ⟨_, h⟩ | ⟨n1, w1⟩
    · cases h
    · rcases set_own q2 with ⟨_, h⟩ | ⟨n2, w2⟩
      · cases h
      · exact s.e.dist j k b d1 e' w1 w2 q3 q4
  · have nb : b ≠ a := fun e => by
      subst e
      exact hz b h fr
    simp [s.z0 b h, nb]
  · rcases set_own q1 with ⟨_, h⟩ | ⟨_, h1⟩
    · cases h
    · exact s.own j b d1 h1 q2
end Py
end
section
set_option maxHeartbeats 1000000
namespace Py
open PySem PySem.Spec PyProof.Rows L2 LamX

theorem pssImp {X : Cx} {e : List Stmt} {t t' : TS} (h : PSs X e t) (i : ∀ D σ H, t' D σ H → t D σ H) : PSs X e t' := ⟨fun pins s σ H D I hw => h.run pins s σ H D I (i D σ H hw)⟩
/-- an expression within a statement -/
theorem S_expr {K : PySem.W.Frag} {T : Tb} {W : WX} {m mr : Md} {H0 : Hp} {Z0 : Addr → Bool} {G0 : Hp} {Z : Addr → Bool} {σ : L2.St} {H : Hp} {ρ : Env} {f : Env → RR D} {k : D → RR Out} {D : Ends} {Q : VK} (s : StS K T H0 Z0 G0 Z σ H ρ) (p : PostD K T H0 Z0 G0 W mr D (f ρ >>= k))
    (i : ∀ d v H1, f ρ = .ok d → Ext T H H1 → RepV K Z H H1 m d v → PostD K T H0 Z0 G0 W mr D (k d) → Q v H1) : tD K T W m f σ H Q := by
  refine ⟨ρ, Z, s.e, ?_⟩
  cases q : f ρ with
  | ok d => rw [q] at p; exact fun v H1 e r => i d v H1 q e r p
  | ex c => rw [q] at p; exact fun H1 e => p σ H1 (s.ext.trans e)
  | bad => rw [q] at p; exact p
theorem S_exprX {K : PySem.W.Frag} {T : Tb} {W : WX} {mr : Md} {H0 : Hp} {Z0 : Addr → Bool} {G0 : Hp} {Z : Addr → Bool} {σ : L2.St} {H : Hp} {ρ : Env} {f : Env → RR Bool} {k : Bool → RR Out} {D : Ends} {Q : Bool → Hp → Prop} (s : StS K T H0 Z0 G0 Z σ H ρ) (p : PostD K T H0 Z0 G0 W mr D (f ρ >>= k))
    (i : ∀ b H1, f ρ = .ok b → Ext T H H1 → PostD K T H0 Z0 G0 W mr D (k b) → Q b H1) : tDT K T W f σ H Q := by
  refine ⟨ρ, Z, s.e, ?_⟩
  cases q : f ρ with
  | ok d => rw [q] at p; exact fun H1 e => i d H1 q e p
  | ex c => rw [q] at p; exact fun H1 e => p σ H1 (s.ext.trans e)
  | bad => rw [q] at p; exact p
section
variable {X : Cx} {T : Tb} {W : WX} {mr : Md} {pos : Pos}
def seqO (r : RR Out) (k : Env → RR Out) : RR Out := match r with
  | .ok (.nx ρ) => k ρ
  | r => r
theorem s_nil : PSs X [] (tS X.K T W mr fun ρ => .ok (.nx ρ)) := pssImp pss_nil fun D σ H ⟨H0, Z0, G0, Z, ρ, hz, s, p⟩ => p Z σ H s
theorem s_cons {st : Stmt} {rest : List Stmt} {f g : Env → RR Out} (h : PS X st (tS X.K T W mr f)) (h' : PSs X rest (tS X.K T W mr g)) : PSs X (st :: rest) (tS X.K T W mr fun ρ => seqO (f ρ) g) := by
  refine pssImp (pss_cons h h') fun D σ H ⟨H0, Z0, G0, Z, ρ, hz, s, p⟩ => ⟨H0, Z0, G0, Z, ρ, hz, s, ?_⟩
  dsimp only at p
  cases q : f ρ with
  | ok o =>
    rw [q] at p
    cases o with
    | nx ρ' => exact fun Z' σ' H' s' => ⟨H0, Z0, G0, Z', ρ', hz, s', p⟩
    | ct ρ' => exact p
    | br ρ' => exact p
    | rt d => exact p
  | ex c => rw [q] at p; exact p
  | bad => rw [q] at p; exact p
theorem s_pass : PS X (.Pass pos) (tS X.K T W mr fun ρ => .ok (.nx ρ)) := psImp ps_pass fun D σ H ⟨H0, Z0, G0, Z, ρ, hz, s, p⟩ => p Z σ H s
theorem s_cont : PS X (.Continue pos) (tS X.K T W mr fun ρ => .ok (.ct ρ)) := psImp ps_continue fun D σ H ⟨H0, Z0, G0, Z, ρ, hz, s, p⟩ => p Z σ H s
theorem s_brk : PS X (.Break pos) (tS X.K T W mr fun ρ => .ok (.br ρ)) := psImp ps_break fun D σ H ⟨H0, Z0, G0, Z, ρ, hz, s, p⟩ => p Z σ H s
/-- x = e -/
def mkV (m : Md) (d : D) : Bool × D := (decide (m = .fr), d)
theorem set_post {m : Md} {i : Nat} {H0 : Hp} {Z0 : Addr → Bool} {G0 : Hp} {Z : Addr → Bool} {σ : L2.St} {H H1 : Hp} {ρ : Env} {d : D} {v : V} (hm : m ≠ .bo) (s : StS X.K T H0 Z0 G0 Z σ H ρ) (e : Ext T H H1) (r : RepV X.K Z H H1 m d v) :
    ∃ Z', StS X.K T H0 Z0 G0 Z' (σ.set i (some v)) H1 (ρ.set i (some (mkV m d))) := by
  cases m with
  | sh => exact ⟨Z, (s.to e).set r i⟩
  | fr =>
    obtain ⟨a, rfl, f, o⟩ := r
    exact ⟨_, s.setOwn e f o i⟩
  | bo => exact (hm rfl).elim
theorem s_set {i : Nat} {x : Str} {e : Expr} {m : Md} {f : Env → RR D} {px : Pos} (hm : m ≠ .bo) (hN : X.N.Nodup) (hi : X.N[i]? = some x) (hx : Loc X.env.scope x) (hf : X.fn x = true ∨ X.env.scope.names.lookup x = some .local) (hs : swapsWith e (some (.Name x px)) pos.line X.env = pure false) (he : PE X e (tD X.K T W m f)) :
    PS X (.Assign [.Name x px] e pos) (tS X.K T W mr fun ρ => f ρ >>= fun d => .ok (.nx (ρ.set i (some (mkV m d))))) := by
  refine psImp (ps_set hN hi hx he hs hf) fun D σ H ⟨H0, Z0, G0, Z, ρ, hz, s, p⟩ => S_expr s p fun d v H1 _ e1 r1 p1 => ?_
  obtain ⟨Z', s'⟩ := set_post (i := i) hm s e1 r1
  exact p1 Z' _ _ s'
/-- x = [.. for ..] on one line, x a local -/
theorem s_setLc {i : Nat} {y : Str} {py : Pos} {elt tg iter : Expr} {scope : Scope} {own : List (Str × Nat)} {spos : Pos} {t : Tg} {bo : Bool} {fs : Env → RR (List D)} {m : Md} {fe : Env → RR D} (hc : X.calm = true) (hN : X.N.Nodup) (hy : X.N[i]? = some y) (hyl : X.env.scope.names.lookup y = some .local)
    (hsw : swapsWith (.ListComp elt [⟨tg, iter, [], 0⟩] scope pos) (some (.Name y py)) spos.line X.env = pure true) (hi : SrcOk X T W tg iter bo fs) (ok : BlkOk X.N X.env.scope scope own)
    (hg : ∀ (s : Shared) (H : Hp) (C : Addr) (cl : List (Str × Addr)) (fp : List Addr), PG (X.blk s H scope (compEnvC scope cl C X.env) fp) tg (gOf X.K t))
    (he : ∀ (s : Shared) (H : Hp) (C : Addr) (cl : List (Str × Addr)) (fp : List Addr), PE (X.blk s H scope (compEnvC scope cl C X.env) fp) elt (tD X.K T noW m fe)) (hf : notSet iter = true)
    (hslot : ∀ i ∈ t.slots, i ∈ own.map (·.2)) (hme : m ≠ .bo) :
    PS X (.Assign [.Name y py] (.ListComp elt [⟨tg, iter, [], 0⟩] scope pos) spos) (tS X.K T W mr fun ρ => compF t (own.map (·.2)) fs okTrue fe ρ >>= fun d => .ok (.nx (ρ.set i (some (mkV .fr d))))) := by
  obtain ⟨wi, pi, ii⟩ := hi.ex
  refine psImp (ps_setLc hc hN hy hyl hsw pi ok hg (fun _ _ _ _ _ => pts_nil) he (fold_of hf X.env)) fun D σ H ⟨H0, Z0, G0, Z, ρ, hz, s, p⟩ => lc_read hslot hme (fun _ _ _ h => yes_of h) ii (S_expr s p fun d v H1 _ e1 r1 p1 => ?_)
  obtain ⟨Z', s'⟩ := set_post (i := i) (by decide : Md.fr ≠ .bo) s e1 r1
  exact p1 Z' _ _ s'
theorem s_setLcIf {i : Nat} {y : Str} {py : Pos} {elt tg iter c : Expr} {scope : Scope} {own : List (Str × Nat)} {spos : Pos} {t : Tg} {bo : Bool} {fs : Env → RR (List D)} {m : Md} {fc : Env → RR Bool} {fe : Env → RR D} (hc : X.calm = true) (hN : X.N.Nodup) (hy : X.N[i]? = some y) (hyl : X.env.scope.names.lookup y = some .local)
    (hsw : swapsWith (.ListComp elt [⟨tg, iter, [c], 0⟩] scope pos) (some (.Name y py)) spos.line X.env = pure true) (hi : SrcOk X T W tg iter bo fs) (ok : BlkOk X.N X.env.scope scope own)
    (hg : ∀ (s : Shared) (H : Hp) (C : Addr) (cl : List (Str × Addr)) (fp : List Addr), PG (X.blk s H scope (compEnvC scope cl C X.env) fp) tg (gOf X.K t))
    (ht : ∀ (s : Shared) (H : Hp) (C : Addr) (cl : List (Str × Addr)) (fp : List Addr), PT (X.blk s H scope (compEnvC scope cl C X.env) fp) c (tDT X.K T noW fc))
    (he : ∀ (s : Shared) (H : Hp) (C : Addr) (cl : List (Str × Addr)) (fp : List Addr), PE (X.blk s H scope (compEnvC scope cl C X.env) fp) elt (tD X.K T noW m fe)) (hf : notSet iter = true)
    (hslot : ∀ i ∈ t.slots, i ∈ own.map (·.2)) (hme : m ≠ .bo) :
    PS X (.Assign [.Name y py] (.ListComp elt [⟨tg, iter, [c], 0⟩] scope pos) spos) (tS X.K T W mr fun ρ => compF t (own.map (·.2)) fs fc fe ρ >>= fun d => .ok (.nx (ρ.set i (some (mkV .fr d))))) := by
  obtain ⟨wi, pi, ii⟩ := hi.ex
  refine psImp (ps_setLc hc hN hy hyl hsw pi ok hg (fun s H C cl fp => pts_one (ht s H C cl fp)) he (fold_of hf X.env)) fun D σ H ⟨H0, Z0, G0, Z, ρ, hz, s, p⟩ => lc_read hslot hme (fun _ _ _ h => h) ii (S_expr s p fun d v H1 _ e1 r1 p1 => ?_)
  obtain ⟨Z', s'⟩ := set_post (i := i) (by decide : Md.fr ≠ .bo) s e1 r1
  exact p1 Z' _ _ s'
/-- a, b = e -/
def unpD (is : List Nat) (d : D) (ρ : Env) : RR Out := (bindT (.t is) d ρ) >>= fun ρ' => .ok (.nx ρ')
def notTuple : Expr → Bool
  | .Tuple _ _ _ => false
  | _ => true
theorem sole_of {tg e : Expr} (h : notComp e = true) (l : Nat) (env : PySem.Env) : swapsWithSole [tg] e l env = pure false := swaps_of h _ _ _
theorem stores_of {tgs : List Expr} {e : Expr} (h : notTuple e = true) (env : PySem.Env) : swappedStores tgs e env = pure none := by
  unfold swappedStores
  split
  · rename_i h1
    split at h1 <;> first | (cases h1; done) | (simp [notTuple] at h)
  · rfl
theorem s_tset {is : List Nat} {es : List Expr} {kt : Nat} {pt : Pos} {e : Expr} {m : Md} {f : Env → RR D} (hm : m ≠ .bo) (hc : X.calm = true) (ht : TgsOk X es is) (hs : notComp e = true) (hw : swappedStores [.Tuple es kt pt] e X.env = pure none) (he : PE X e (tD X.K T W m f)) :
    PS X (.Assign [.Tuple es kt pt] e pos) (tS X.K T W mr fun ρ => f ρ >>= fun d => unpD is d ρ) := by
  refine psImp (ps_asg he (tg_t hc ht) (sole_of hs _ _) hw (by rfl)) fun D σ H ⟨H0, Z0, G0, Z, ρ, hz, s, p⟩ => S_expr s p fun d v H1 _ e1 r1 p1 => ?_
  have rs := r1.sh hm s.e.zdom
  unfold unpD at p1
  cases d <;> simp only [bindT, RR.bind_bad] at p1 <;> try exact p1.elim
  split at p1
  · rename_i l hl
    obtain ⟨z, a, xs, rfl, ha, ra⟩ := rs
    exact ⟨a, xs, rfl, SqT.ext exUnhide ha, by rw [ra.length, hl], tgs_of (by rw [ra.length, hl]) (p1 Z _ _ (StS.setAll is (s.to e1) ra))⟩
  · exact p1.elim
theorem two_of {α : Type} {l : List α} (h : l.length = 2) : ∃ a b, l = [a, b] := by
  rcases l with _ | ⟨a, _ | ⟨b, _ | ⟨c, r⟩⟩⟩
  · simp at h
  · simp at h
  · exact ⟨a, b, rfl⟩
  · simp at h
/-- a, b = x, y: plain local names -/
theorem s_tpar {i j : Nat} {x y : Str} {a b : Expr} {px py pt pt2 : Pos} {kt k2 : Nat} {f : Env → RR (List D)} (hc : X.calm = true) (hN : X.N.Nodup) (hi : X.N[i]? = some x) (hj : X.N[j]? = some y) (hij : i ≠ j) (hx : X.env.scope.names.lookup x = some .local) (hy : X.env.scope.names.lookup y = some .local)
    (ha : PA X [a, b] (tDA X.K T W true f)) (hw : swappedStores [.Tuple [.Name x px, .Name y py] kt pt] (.Tuple [a, b] k2 pt2) X.env = pure (some [x, y])) :
    PS X (.Assign [.Tuple [.Name x px, .Name y py] kt pt] (.Tuple [a, b] k2 pt2) pos) (tS X.K T W mr fun ρ => f ρ >>= fun l => if l.length = 2 then .ok (.nx (setD [i, j] l ρ)) else .bad) := by
  refine psImp (ps_par hc hN hi hj hij hx hy ha hw (sole_of rfl _ _)) fun D σ H ⟨H0, Z0, G0, Z, ρ, hz, s, p⟩ => ⟨ρ, Z, s.e, ?_⟩
  dsimp only at p
  cases q : f ρ with
  | ex c => rw [q] at p; exact fun H1 e => p σ H1 (s.ext.trans e)
  | bad => rw [q] at p; exact p
  | ok l =>
    rw [q] at p
    intro vs H1 e1 r1
    have p : PostD X.K T H0 Z0 G0 W mr D (if l.length = 2 then .ok (.nx (setD [i, j] l ρ)) else .bad) := p
    split at p
    · rename_i hl
      obtain ⟨d1, d2, rfl⟩ := two_of hl
      obtain ⟨v1, r, rfl, h1, h2⟩ := (show Reps X.K (hide H1 Z) [d1, d2] vs from r1)
      obtain ⟨v2, r', rfl, h3, h4⟩ := h2
      cases h4
      refine ⟨v1, v2, rfl, ?_⟩
      exact p Z _ _ (((s.to e1).set h1 i).set h3 j)
    · exact p.elim
/-- return -/
theorem s_ret {e : Expr} {m : Md} {f : Env → RR D} (hm : m ≠ .bo) (hr : mr = .sh ∨ (mr = .fr ∧ m = .fr)) (he : PE X e (tD X.K T W m f)) : PS X (.Return (some e) pos) (tS X.K T W mr fun ρ => f ρ >>= fun d => .ok (.rt d)) := by
  refine psImp (ps_ret he) fun D σ H ⟨H0, Z0, G0, Z, ρ, hz, s, p⟩ => S_expr s p fun d v H1 _ e1 r1 p1 => p1 v H1 (s.ext.trans e1) ?_
  rcases hr with rfl | ⟨rfl, rfl⟩
  · exact Rep.ext (exLess s.z0) d v (r1.sh hm s.e.zdom)
  · obtain ⟨a, rfl, f, o⟩ := r1
    refine ⟨a, rfl, f.back s.ext.ext, o.ext (exLess fun b h => ?_) (ExtN.refl _)⟩
    unfold Zs at h ⊢
    rw [Bool.or_eq_true] at h ⊢
    exact h.imp (s.z0 b) id
theorem s_retN : PS X (.Return none pos) (tS X.K T W .sh fun ρ => .ok (.rt .non)) := psImp ps_retN fun D σ H ⟨H0, Z0, G0, Z, ρ, hz, s, p⟩ => p .non H s.ext rfl
/-- return x, x owned -/
theorem s_retO {i : Nat} {x : Str} {p1 : Pos} (hr : mr ≠ .bo) (hN : X.N[i]? = some x) (hv : Vis X.env.scope x) (hd : (x == ("__debug__" : Str)) = false) (hcd : (x == ("__classdict__" : Str)) = false) :
    PS X (.Return (some (.Name x p1)) pos) (tS X.K T W mr fun ρ => match ρ[i]? with | some (some (true, d)) => .ok (.rt d) | _ => .bad) := by
  refine psImp (ps_ret (pe_var hN hv hd hcd)) fun D σ H ⟨H0, Z0, G0, Z, ρ, hz, s, p⟩ => ?_
  dsimp only at p
  split at p
  · rename_i d e
    obtain ⟨v, e1, a, rfl, za, oa⟩ := s.e.slot i _ e
    refine ⟨.ref a, e1, p _ H s.ext ?_⟩
    have fr := s.own i a d e e1
    have o2 : OwnAt X.K (hide H (Zs Z0 a)) H a d := oa.ext (exLess fun b h => by
      unfold Zs at h
      rw [Bool.or_eq_true, decide_eq_true_eq] at h
      rcases h with h | rfl
      · exact s.z0 b h
      · exact za) (ExtN.refl _)
    have rv : RepV X.K Z0 H0 H .fr d (.ref a) := ⟨a, rfl, fr, o2⟩
    cases mr with
    | fr => exact rv
    | sh => exact rv.sh (by decide) hz
    | bo => exact (hr rfl).elim
  · exact p.elim
/-- if -/
theorem s_if {c : Expr} {a b : List Stmt} {fc : Env → RR D} {fa fb : Env → RR Out} (hc : PT X c (tDT X.K T W fun ρ => fc ρ >>= truR)) (ha : PSs X a (tS X.K T W mr fa)) (hb : PSs X b (tS X.K T W mr fb)) :
    PS X (.If c a b pos) (tS X.K T W mr fun ρ => (fc ρ >>= truR) >>= fun k => if k then fa ρ else fb ρ) := by
  refine psImp (ps_if hc ha hb) fun D σ H ⟨H0, Z0, G0, Z, ρ, hz, s, p⟩ => S_exprX s p fun k H1 _ e1 p1 => ?_
  cases k with
  | true => exact ⟨H0, Z0, G0, Z, ρ, hz, s.to e1, p1⟩
  | false => exact ⟨H0, Z0, G0, Z, ρ, hz, s.to e1, p1⟩
/-- an expression alone -/
theorem s_exp {e : Expr} {m : Md} {f : Env → RR D} (hs : notComp e = true) (he : PE X e (tD X.K T W m f)) : PS X (.Expr e pos) (tS X.K T W mr fun ρ => f ρ >>= fun _ => .ok (.nx ρ)) := by
  refine psImp (ps_expr he (swaps_of hs _ _ _)) fun D σ H ⟨H0, Z0, G0, Z, ρ, hz, s, p⟩ => S_expr s p fun d v H1 _ e1 r1 p1 => p1 Z σ H1 (s.to e1)
/-- raise C('..') -/
theorem s_raise {e : Expr} {x : Str} (hc : X.calm = true) (tk : Takes X W) (h : PMk X e (fun _ H Q => Q (.ref (He.ga X.K x)) none H)) : PS X (.Raise (some e) none pos) (tS X.K T W mr fun _ => .ex x) :=
  psImp (ps_raise hc tk h) fun D σ H ⟨H0, Z0, G0, Z, ρ, hz, s, p⟩ => p σ H s.ext
/-- from now on shared -/
theorem s_frz {st : Stmt} {i : Nat} {f : Env → RR Out} (h : PS X st (tS X.K T W mr f)) : PS X st (tS X.K T W mr fun ρ => frzD i ρ >>= f) := by
  refine psImp h fun D σ H ⟨H0, Z0, G0, Z, ρ, hz, s, p⟩ => ?_
  dsimp only at p
  unfold frzD at p
  split at p
  · rename_i d e
    obtain ⟨v, e1, a, rfl, za, oa⟩ := s.e.slot i _ e
    exact ⟨H0, Z0, G0, _, _, hz, s.frz hz e e1, p⟩
  · exact ⟨H0, Z0, G0, Z, ρ, hz, s, p⟩
  · exact p.elim
/-! loops -/
def execFor (t : Tg) (body : Env → RR Out) : List D → Env → RR Out
  | [], ρ => .ok (.nx ρ)
  | d :: l, ρ => (bindT t d ρ) >>= fun ρ1 => match body ρ1 with
    | .ok (.nx ρ2) => execFor t body l ρ2
    | .ok (.ct ρ2) => execFor t body l ρ2
    | .ok (.br ρ2) => .ok (.nx ρ2)
    | r => r
theorem s_for {tg iter : Expr} {body : List Stmt} {t : Tg} {fs : Env → RR (List D)} {fb : Env → RR Out} (hp : PassesOwn (model X.prog X.w) X.A X.env X.xe) (hc : X.calm = true) (hi : SrcOk X T W tg iter false fs) (hg : PG X tg (gOf X.K t)) (hb : PSs X body (tS X.K T W mr fb)) (hf : notSet iter = true) :
    PS X (.For tg iter body [] pos) (tS X.K T W mr fun ρ => fs ρ >>= fun l => execFor t fb l ρ) := by
  obtain ⟨wi, pi, ii⟩ := hi.ex
  refine psImp (ps_for hp hc pi hg hb (fold_of hf X.env)) fun D σ H ⟨H0, Z0, G0, Z, ρ, hz, s, p⟩ => ii _ _ _ ⟨ρ, Z, s.e, ?_⟩
  dsimp only at p
  cases q : fs ρ with
  | ex c => rw [q] at p; exact fun H1 e => p σ H1 (s.ext.trans e)
  | bad => rw [q] at p; exact p
  | ok l =>
    rw [q] at p
    intro J H1 e1 hl w
    obtain ⟨G, Y, wk, wG, wY⟩ := w.ex
    have p : PostD X.K T H0 Z0 G0 W mr D (execFor t fb l ρ) := p
    have g01 : ExtN G0 (hide H1 Z) := s.g.trans (exHide e1.ext)
    refine for_it wk (fun i σ H => ∃ Zi ρi, StS X.K T H0 Z0 (hide H1 Z) Zi σ H ρi ∧ PostD X.K T H0 Z0 G0 W mr D (execFor t fb (l.drop i) ρi)) ⟨Z, ρ, (s.to e1).self, by rw [List.drop_zero]; exact p⟩
      (fun i σ H _ ⟨Zi, ρi, si, _⟩ => wG H Zi si.g (fun b o h => by cases h)) ?_ ?_
    · rintro i x σi Hi H' hi ⟨Zi, ρi, si, pi⟩ y
      obtain ⟨d, hd, e2, rd⟩ := wY i Hi x H' Zi hi si.g (fun b o h => by cases h) si.ext.tabs si.e.zdom y
      have hdr : l.drop i = d :: l.drop (i + 1) := by
        rw [List.drop_eq_getElem_cons hi]
        have e : l[i] = d := by
          rw [List.getElem?_eq_getElem hi] at hd
          exact Option.some.inj hd
        rw [e]
      rw [hdr] at pi
      unfold execFor at pi
      cases fb' : bindT t d ρi with
      | ex c =>
        exfalso
        cases t <;> cases d <;> simp only [bindT, reduceCtorEq] at fb'
        split at fb' <;> cases fb'
      | bad => rw [fb'] at pi; exact pi.elim
      | ok ρ1 =>
        rw [fb'] at pi
        simp only [RR.bind_ok] at pi
        have si' := si.to e2
        -- the target's names
        have key : ∀ σ2, StS X.K T H0 Z0 (hide H1 Z) Zi σ2 H' ρ1 → tS X.K T W mr fb { D with nx := fun σ H => ∃ Zi ρi, StS X.K T H0 Z0 (hide H1 Z) Zi σ H ρi ∧ PostD X.K T H0 Z0 G0 W mr D (execFor t fb (l.drop (i + 1)) ρi), ct := fun σ H => ∃ Zi ρi, StS X.K T H0 Z0 (hide H1 Z) Zi σ H ρi ∧ PostD X.K T H0 Z0 G0 W mr D (execFor t fb (l.drop (i + 1)) ρi), bk := D.nx } σ2 H' := fun σ2 s2 => by
          refine ⟨H0, Z0, hide H1 Z, Zi, ρ1, hz, s2, ?_⟩
          cases qb : fb ρ1 with
          | ok o =>
            rw [qb] at pi
            cases o with
            | nx ρ2 => exact fun Z' σ' H' s' => ⟨Z', ρ2, s', pi⟩
            | ct ρ2 => exact fun Z' σ' H' s' => ⟨Z', ρ2, s', pi⟩
            | br ρ2 => exact fun Z' σ' H' s' => pi Z' σ' H' (s'.weak g01)
            | rt d => exact pi
          | ex c => rw [qb] at pi; exact pi
          | bad => rw [qb] at pi; exact pi
        cases t with
        | v k =>
          have fb' : RR.ok (ρi.set k (some (false, d))) = .ok ρ1 := fb'
          cases fb'
          exact key _ (si'.set rd k)
        | t is =>
          cases d <;> simp only [bindT, reduceCtorEq] at fb'
          split at fb'
          · rename_i l' hl'
            cases fb'
            obtain ⟨z, a, xs, rfl, ha, ra⟩ := rd
            exact ⟨a, xs, rfl, SqT.ext exUnhide ha, by rw [ra.length, hl'], tgs_of (by rw [ra.length, hl']) (key _ (StS.setAll is si' ra))⟩
          · cases fb'
    · rintro σn Hn ⟨Zi, ρi, si, pi⟩
      rw [List.drop_length] at pi
      exact pi Zi σn Hn (si.weak g01)
def execWhile (fc : Env → RR Bool) (body : Env → RR Out) : Nat → Env → RR Out
  | 0, _ => .bad
  | n + 1, ρ => fc ρ >>= fun k => if k then (match body ρ with
    | .ok (.nx ρ2) => execWhile fc body n ρ2
    | .ok (.ct ρ2) => execWhile fc body n ρ2
    | .ok (.br ρ2) => .ok (.nx ρ2)
    | r => r) else .ok (.nx ρ)
theorem s_while {c : Expr} {body : List Stmt} {n : Nat} {fc : Env → RR D} {fb : Env → RR Out} (hp : PassesOwn (model X.prog X.w) X.A X.env X.xe) (hc : PT X c (tDT X.K T W fun ρ => fc ρ >>= truR)) (hb : PSs X body (tS X.K T W mr fb)) :
    PS X (.While c body [] pos) (tS X.K T W mr fun ρ => execWhile (fun ρ => fc ρ >>= truR) fb n ρ) := by
  refine psImp (ps_while hp hc hb) fun D σ H ⟨H0, Z0, G0, Z, ρ, hz, s, p⟩ => ?_
  dsimp only at p
  refine ⟨fun m σ H => ∃ Zi ρi, StS X.K T H0 Z0 G0 Zi σ H ρi ∧ PostD X.K T H0 Z0 G0 W mr D (execWhile (fun ρ => fc ρ >>= truR) fb m ρi), ⟨n, Z, ρ, s, p⟩, ?_⟩
  rintro m σi Hi ⟨Zi, ρi, si, pi⟩
  cases m with
  | zero => exact pi.elim
  | succ m =>
    unfold execWhile at pi
    refine S_exprX si pi fun k H1 _ e1 p1 => ?_
    cases k with
    | false => exact p1 Zi _ _ (si.to e1)
    | true =>
      rw [if_pos rfl] at p1 ⊢
      refine ⟨fun σ H => ∃ Zi ρi, StS X.K T H0 Z0 G0 Zi σ H ρi ∧ PostD X.K T H0 Z0 G0 W mr D (execWhile (fun ρ => fc ρ >>= truR) fb m ρi), fun σ' H' h => ⟨m, Nat.lt_succ_self m, h⟩, H0, Z0, G0, Zi, ρi, hz, si.to e1, ?_⟩
      cases qb : fb ρi with
      | ok o =>
        rw [qb] at p1
        cases o with
        | nx ρ2 => exact fun Z' σ' H' s' => ⟨Z', ρ2, s', p1⟩
        | ct ρ2 => exact fun Z' σ' H' s' => ⟨Z', ρ2, s', p1⟩
        | br ρ2 => exact p1
        | rt d => exact p1
      | ex c => rw [qb] at p1; exact p1
      | bad => rw [qb] at p1; exact p1
end
end Py
end
section
set_option maxHeartbeats 1000000
namespace Py
open PySem PySem.Spec PyProof.Rows L2 LamX

/-! ### is, is not -/
def isNon : D → Bool
  | .non => true
  | _ => false
def isG (d e : D) : Option Bool := match e with
  | .non => some (isNon d)
  | .bl b => match d with
    | .bl a => some (decide (a = b))
    | _ => none
  | _ => none
def isntG (d e : D) : Option Bool := (isG d e).map (!·)
theorem isNon_rep {K : PySem.W.Frag} {G H : Hp} {d : D} {v : V} (hG : ExtN G H) (h : RepB K G H d v) : decide (v = .non) = isNon d := by
  have h := h.rep hG
  cases d with
  | non => rw [show v = _ from h]; rfl
  | bl b => rw [show v = _ from h]; rfl
  | int b => rw [show v = _ from h]; rfl
  | str b => obtain ⟨_, _, rfl⟩ := h; rfl
  | tup b => obtain ⟨_, _, _, rfl, _⟩ := h; rfl
  | lst b => obtain ⟨_, _, _, rfl, _⟩ := h; rfl
  | dic b c => obtain ⟨_, _, rfl, _⟩ := h; rfl
  | scr b => obtain ⟨_, _, rfl, _⟩ := h; rfl
section
variable {X : Cx} {T : Tb} {W : WX} {mr : Md} {pos : Pos}
theorem op_isG : OpR X (compareOp .Is) (rDC X.K T isG) := by
  refine opImp (OpR.or op_isN op_is_bl) fun x y H Q h => ?_
  obtain ⟨G, d, e, k, hG, ht, hd, he, hg, hq⟩ := h
  cases e <;> simp only [isG, Option.some.injEq, reduceCtorEq] at hg
  · subst hg
    cases he
    exact .inl ⟨rfl, by rw [isNon_rep hG hd]; exact hq⟩
  · cases d <;> simp only [Option.some.injEq, reduceCtorEq] at hg
    subst hg
    cases hd; cases he
    exact .inr ⟨_, _, rfl, rfl, hq⟩
theorem op_isntG : OpR X (compareOp .IsNot) (rDC X.K T isntG) := by
  refine opImp (OpR.or op_notN op_isnot_bl) fun x y H Q h => ?_
  obtain ⟨G, d, e, k, hG, ht, hd, he, hg, hq⟩ := h
  unfold isntG at hg
  cases e <;> simp only [isG, Option.map_some, Option.map_none, Option.some.injEq, reduceCtorEq] at hg
  · subst hg
    cases he
    exact .inl ⟨rfl, by rw [isNon_rep hG hd]; exact hq⟩
  · cases d <;> simp only [Option.map_some, Option.map_none, Option.some.injEq, reduceCtorEq] at hg
    subst hg
    cases hd; cases he
    exact .inr ⟨_, _, rfl, rfl, hq⟩

/-! ### x.append(e), x.extend(e), x[k] = e -/
def fewB (es : List Expr) : Bool := decide (es.length < 30)
theorem few_of {es : List Expr} {cpos : Pos} {env : PySem.Env} (h : es.all notStar = true) (hf : fewB es = true) : ((backTo cpos (starEach es env)).all (fun x => !x.1) && (backToKw cpos (keywordEach [] env)).all (fun x => x.1.isSome)
      && decide (es.length + ([] : List Keyword).length + (if ([] : List Keyword).isEmpty then 0 else 1) < 30)) = true := by
  have e1 : (backTo cpos (starEach es env)).all (fun x => !x.1) = true := by
    have := back_star (pos := cpos) h env
    rw [List.any_eq_false] at this
    rw [List.all_eq_true]
    intro x hx
    have q := this x hx
    simpa using q
  rw [e1]
  simp only [fewB, decide_eq_true_eq] at hf
  have e2 : (backToKw cpos (keywordEach [] env)).all (fun x => x.1.isSome) = true := by rfl
  rw [e2]
  simp only [List.length_nil, List.isEmpty_nil, if_true, Bool.and_self, Bool.true_and, decide_eq_true_eq]
  omega
def appO (i : Nat) (f : Env → RR D) (ρ : Env) : RR Out := match ρ[i]? with
  | some (some (true, .lst l)) => if l.length < lim then f ρ >>= fun d => .ok (.nx (ρ.set i (some (true, .lst (l ++ [d]))))) else .bad
  | _ => .bad
theorem mr_of {id : String} {r : V → List V → Hp → VK → Prop} (h : MtM X id r) : MtR X id r := h
theorem s_app {i : Nat} {x : Str} {e : Expr} {p1 p2 cpos : Pos} {m : Md} {f : Env → RR D} (hm : m ≠ .bo) (hN : X.N[i]? = some x) (hv : Vis X.env.scope x) (hd : (x == ("__debug__" : Str)) = false) (hcd : (x == ("__classdict__" : Str)) = false) (hs : notStar e = true)
    (hline : (p2.endLine == cpos.line) = true) (he : PE X e (tD X.K T W m f)) :
    PS X (.Expr (.Call (.Attribute (.Name x p1) "append" p2) [e] [] cpos) pos) (tS X.K T W mr (appO i f)) := by
  have hcall := pe_bm (T := "list") PySem.F.plainAttrs_list PySem.F.slot_list_append PySem.F.type_list_append (mr_of mt_append) (pe_var (pos := p1) hN hv hd hcd) (pa_cons he pa_nil (star_of hs [] X.env)) (by rfl) (few_of (by simp [hs]) (by rfl)) hline (star_of hs [] X.env) (by rfl) (apos := p2) (cpos := cpos)
  refine psImp (ps_expr hcall) fun D σ H ⟨H0, Z0, G0, Z, ρ, hz, s, p⟩ => ?_
  unfold appO at p
  split at p
  · rename_i l hi
    split at p
    · rename_i hl
      obtain ⟨v, e1, a, rfl, za, oa⟩ := s.e.slot i _ hi
      obtain ⟨z, xs, h1, h2⟩ := oa
      refine ⟨.ref a, e1, .inl ⟨rfl, xs, SqL.of h1⟩, S_expr s p fun d v H1 _ ex r1 p1 => ?_⟩
      have s1 := s.to ex
      have h1' : H1 a = some (.lst xs) := ex.ext a _ h1 (fun ps q => by cases q)
      have rs := r1.sh hm s.e.zdom
      have h2' := Reps.ext (exHide ex.ext) _ _ h2
      have hlen := h2.length
      refine ⟨a, xs, v, rfl, rfl, h1', by rw [lim_eq]; omega, p1 Z _ _ (s1.mut hi e1 h1' (fun ps q => by cases q) (fun ps q => by cases q) (fun ps q => by cases q) ⟨?_, _, upd_same, h2'.append ⟨v, [], rfl, rs, rfl⟩⟩)⟩
      rw [List.length_append, List.length_singleton, lim_eq]; omega
    · exact p.elim
  · exact p.elim
def extO (i : Nat) (f : Env → RR D) (ρ : Env) : RR Out := match ρ[i]? with
  | some (some (true, .lst l)) => f ρ >>= fun d => match d with
    | .lst l2 => if l.length + l2.length ≤ lim then .ok (.nx (ρ.set i (some (true, .lst (l ++ l2))))) else .bad
    | _ => .bad
  | _ => .bad
theorem s_ext {i : Nat} {x : Str} {e : Expr} {p1 p2 cpos : Pos} {m : Md} {f : Env → RR D} (hN : X.N[i]? = some x) (hv : Vis X.env.scope x) (hd : (x == ("__debug__" : Str)) = false) (hcd : (x == ("__classdict__" : Str)) = false) (hs : notStar e = true)
    (hline : (p2.endLine == cpos.line) = true) (he : PE X e (tD X.K T W m f)) :
    PS X (.Expr (.Call (.Attribute (.Name x p1) "extend" p2) [e] [] cpos) pos) (tS X.K T W mr (extO i f)) := by
  have hcall := pe_bm (T := "list") PySem.F.plainAttrs_list PySem.F.slot_list_extend PySem.F.type_list_extend (mr_of mt_extend) (pe_var (pos := p1) hN hv hd hcd) (pa_cons he pa_nil (star_of hs [] X.env)) (by rfl) (few_of (by simp [hs]) (by rfl)) hline (star_of hs [] X.env) (by rfl) (apos := p2) (cpos := cpos)
  refine psImp (ps_expr hcall) fun D σ H ⟨H0, Z0, G0, Z, ρ, hz, s, p⟩ => ?_
  unfold extO at p
  split at p
  · rename_i l hi
    obtain ⟨v, e1, a, rfl, za, oa⟩ := s.e.slot i _ hi
    obtain ⟨z, xs, h1, h2⟩ := oa
    refine ⟨.ref a, e1, .inl ⟨rfl, xs, SqL.of h1⟩, S_expr s p fun d v H1 _ ex r1 p1 => ?_⟩
    have s1 := s.to ex
    have h1' : H1 a = some (.lst xs) := ex.ext a _ h1 (fun ps q => by cases q)
    have h2' := Reps.ext (exHide ex.ext) _ _ h2
    have hlen := h2.length
    cases d with
    | lst l2 =>
      by_cases hl : l.length + l2.length ≤ lim
      · have p1 : PostD X.K T H0 Z0 G0 W mr D (if l.length + l2.length ≤ lim then .ok (.nx (ρ.set i (some (true, .lst (l ++ l2))))) else .bad) := p1
        rw [if_pos hl] at p1
        obtain ⟨b, rfl, z2, ys, k1, k2⟩ := r1.b
        have hlen2 := k2.length
        refine ⟨a, b, xs, ys, rfl, rfl, h1', k1, by rw [lim_eq]; omega, p1 Z _ _ (s1.mut hi e1 h1' (fun ps q => by cases q) (fun ps q => by cases q) (fun ps q => by cases q) ⟨?_, _, upd_same, h2'.append k2⟩)⟩
        rw [List.length_append, lim_eq]; omega
      · have p1 : PostD X.K T H0 Z0 G0 W mr D (if l.length + l2.length ≤ lim then .ok (.nx (ρ.set i (some (true, .lst (l ++ l2))))) else .bad) := p1
        rw [if_neg hl] at p1
        exact p1.elim
    | _ => exact (show False from p1).elim
  · exact p.elim
/-- d[k] = v -/
def replD : List Key → List D → Key → D → List D
  | k :: ks, v :: vs, j, x => (if k = j then x else v) :: replD ks vs j x
  | _, _, _, _ => []
def putKs (ks : List Key) (vs : List D) (j : Key) (x : D) : List Key × List D := if keyIn ks j then (ks, replD ks vs j x) else (ks ++ [j], vs ++ [x])
theorem replD_rep {K : PySem.W.Frag} {H : Hp} {j : Key} {x : D} {v : V} (rx : Rep K H x v) : ∀ {kvs : List (Key × V)} {vs : List D}, Reps K H vs (kvs.map (·.2)) →
    Reps K H (replD (kvs.map (·.1)) vs j x) ((kvs.map fun kv => if kv.1 = j then (kv.1, v) else kv).map (·.2))
  | [], vs, r => by
    cases vs with
    | nil => rfl
    | cons d ds => obtain ⟨_, _, e, _⟩ := r; cases e
  | (k, w) :: kvs, vs, r => by
    cases vs with
    | nil => cases (show _ = [] from r)
    | cons d ds =>
      obtain ⟨u, us, e, r1, r2⟩ := r
      have e : w :: kvs.map (·.2) = u :: us := e
      cases e
      have ih := replD_rep (j := j) rx (kvs := kvs) r2
      simp only [List.map_cons, replD]
      refine ⟨_, _, rfl, ?_, ih⟩
      by_cases h : k = j
      · simp only [h, if_true]; exact rx
      · simp only [h, if_false]; exact r1
theorem putKs_rep {K : PySem.W.Frag} {H : Hp} {j : Key} {x : D} {v : V} (rx : Rep K H x v) {kvs : List (Key × V)} {vs : List D} (r : Reps K H vs (kvs.map (·.2))) :
    (putK kvs j v).map (·.1) = (putKs (kvs.map (·.1)) vs j x).1 ∧ Reps K H (putKs (kvs.map (·.1)) vs j x).2 ((putK kvs j v).map (·.2)) := by
  unfold putK putKs
  rw [keyIn_eq, ← valV_any]
  cases q : kvs.any fun kv => decide (kv.1 = j) with
  | true =>
    simp only [if_true]
    refine ⟨?_, replD_rep rx r⟩
    rw [List.map_map]
    apply List.map_congr_left
    intro a _
    show (if a.1 = j then (a.1, v) else a).1 = a.1
    split <;> rfl
  | false =>
    simp only [Bool.false_eq_true, if_false, List.map_append, List.map_cons, List.map_nil]
    exact ⟨trivial, r.append ⟨v, [], rfl, rx, rfl⟩⟩
def putO (i : Nat) (fk fv : Env → RR D) (ρ : Env) : RR Out := fv ρ >>= fun x => match ρ[i]? with
  | some (some (true, .dic ks vs)) => fk ρ >>= fun k => match keyOfD k with
    | some j => if ks.length < lim then .ok (.nx (ρ.set i (some (true, .dic (putKs ks vs j x).1 (putKs ks vs j x).2)))) else .bad
    | none => .bad
  | _ => .bad
theorem s_put {i : Nat} {x : Str} {ek e : Expr} {p1 p2 : Pos} {m mk : Md} {fk f : Env → RR D} (hu : X.A.units + 1 < cLine) (hm : m ≠ .bo) (hN : X.N[i]? = some x) (hv : Vis X.env.scope x) (hd : (x == ("__debug__" : Str)) = false) (hcd : (x == ("__classdict__" : Str)) = false)
    (hs : notComp e = true) (hk : PE X ek (tD X.K T W mk fk)) (he : PE X e (tD X.K T W m f)) :
    PS X (.Assign [.Subscript (.Name x p1) ek p2] e pos) (tS X.K T W mr (putO i fk f)) := by
  refine psImp (ps_dput hu (pe_var (pos := p1) hN hv hd hcd) hk he (swaps_of hs _ _ _)) fun D σ H ⟨H0, Z0, G0, Z, ρ, hz, s, p⟩ => ?_
  refine S_expr s p fun d v H1 _ ex r1 p1 => ?_
  have s1 := s.to ex
  split at p1
  · rename_i ks vs hi
    obtain ⟨u, e1, a, rfl, za, oa⟩ := s1.e.slot i _ hi
    refine ⟨.ref a, e1, S_expr s1 p1 fun dk vk H2 _ ex2 r2 p2 => ?_⟩
    split at p2
    · rename_i j hj
      split at p2
      · rename_i hl
        have s2 := s1.to ex2
        have rs := (r1.ext ex2.ext).sh hm s.e.zdom
        obtain ⟨kvs, h1, rfl, h2⟩ := oa.ext (exHide ex2.ext) ex2.ext
        rw [keyOfD_rep hj r2.b]
        obtain ⟨q1, q2⟩ := putKs_rep (j := j) rs h2
        refine ⟨a, _, rfl, DPut.k h1 (by rw [lim_eq]; simpa using hl), p2 Z _ _ (s2.mut hi e1 h1 (fun ps q => by cases q) (fun ps q => by cases q) (fun ps q => by cases q) ⟨_, upd_same, q1, q2⟩)⟩
      · exact p2.elim
    · exact p2.elim
  · exact p1.elim
/-- {} -/
theorem d_dnew : PE X (.Dict [] [] pos) (tD X.K T W .fr fun _ => .ok (.dic [] [])) :=
  peImp pe_dnewK fun σ H Q ⟨ρ, Z, st, p⟩ => fun a na => p _ _ (ext_new st.tabs na) ⟨a, rfl, .inl na, own_dic (kvs := []) (.inl na) rfl rfl⟩
/-- -e -/
def negD (d : D) : Option D := match d with
  | .int i => some (.int (-i))
  | _ => none
theorem d_neg {e : Expr} {m : Md} {f : Env → RR D} (he : PE X e (tD X.K T W m f)) : PE X (.UnaryOp .USub e pos) (tD X.K T W .sh fun ρ => f ρ >>= fun d => RR.of (negD d)) := by
  refine peImp (pe_un un_neg he) fun σ H Q ⟨ρ, Z, st, p⟩ => ⟨ρ, Z, st, Post.then p fun d v H1 _ e1 r1 p1 => ?_⟩
  cases d <;> (try exact (show False from p1).elim)
  have e2 : v = .int _ := r1.b
  subst e2
  exact ⟨_, rfl, p1 _ H1 (Ext.refl e1.tabs) rfl⟩
/-- l.index(x) -/
def idxOf (x : D) : List D → Nat → Option Nat
  | [], _ => none
  | d :: l, i => if eqP d x then some i else idxOf x l (i + 1)
end
end Py
end
section
set_option maxHeartbeats 2000000
namespace Py
open PySem PySem.Spec PyProof.Rows L2 LamX

/-! ### sets: what is met first -/
abbrev KL := List (Value × NestedKey)
section
variable {α : Type}
def ddS (L : List (α × NestedKey)) (p : α × NestedKey) : List (α × NestedKey) := if p.2 ∈ L.map (·.2) then L else L ++ [p]
def ddK (ks : List (α × NestedKey)) : List (α × NestedKey) := ks.foldl ddS []
theorem ddK_take {ks : List (α × NestedKey)} {i : Nat} {p : α × NestedKey} (h : ks[i]? = some p) : ddK (ks.take (i + 1)) = ddS (ddK (ks.take i)) p := by
  unfold ddK
  rw [List.take_add_one, h, List.foldl_append]; rfl
theorem ddS_perm {L L1 L2 : List (α × NestedKey)} {p : α × NestedKey} (pm : L.Perm L1) (h1 : p.2 ∈ L.map (·.2) → L2 = L) (h2 : p.2 ∉ L.map (·.2) → L2.Perm (p :: L)) : L2.Perm (ddS L1 p) := by
  unfold ddS
  have e : p.2 ∈ L1.map (·.2) ↔ p.2 ∈ L.map (·.2) := (pm.map (·.2)).mem_iff.symm
  by_cases c : p.2 ∈ L.map (·.2)
  · rw [if_pos (e.2 c), h1 c]; exact pm
  · rw [if_neg fun q => c (e.1 q)]
    exact (h2 c).trans ((pm.cons p).trans (List.perm_append_singleton p L1).symm)
theorem ddK_len : ∀ (ks : List (α × NestedKey)), (ddK ks).length ≤ ks.length := by
  intro ks
  have : ∀ (ks L : List (α × NestedKey)), (ks.foldl ddS L).length ≤ L.length + ks.length := by
    intro ks
    induction ks with
    | nil => intro L; exact Nat.le_refl _
    | cons p ks ih =>
      intro L
      rw [List.foldl_cons, List.length_cons]
      have h1 := ih (ddS L p)
      have h2 : (ddS L p).length ≤ L.length + 1 := by
        unfold ddS
        split
        · omega
        · rw [List.length_append, List.length_singleton]; omega
      omega
  have h := this ks []
  rw [List.length_nil, Nat.zero_add] at h
  exact h
theorem ddK_sub {ks : List (α × NestedKey)} : ∀ p ∈ ddK ks, p ∈ ks := by
  have : ∀ (ks L : List (α × NestedKey)), ∀ p ∈ ks.foldl ddS L, p ∈ L ∨ p ∈ ks := by
    intro ks
    induction ks with
    | nil => intro L p h; exact .inl h
    | cons q ks ih =>
      intro L p h
      rw [List.foldl_cons] at h
      rcases ih _ p h with h | h
      · unfold ddS at h
        split at h
        · exact .inl h
        · rcases List.mem_append.mp h with h | h
          · exact .inl h
          · rw [List.mem_singleton.mp h]; exact .inr List.mem_cons_self
      · exact .inr (List.mem_cons_of_mem _ h)
  intro p h
  rcases this ks [] p h with h | h
  · cases h
  · exact h
theorem ddK_nodup (ks : List (α × NestedKey)) : ((ddK ks).map (·.2)).Nodup := by
  have : ∀ (ks L : List (α × NestedKey)), (L.map (·.2)).Nodup → ((ks.foldl ddS L).map (·.2)).Nodup := by
    intro ks
    induction ks with
    | nil => intro L h; exact h
    | cons q ks ih =>
      intro L h
      rw [List.foldl_cons]
      refine ih _ ?_
      unfold ddS
      split
      · exact h
      · rename_i c
        rw [List.map_append, List.map_cons, List.map_nil, List.nodup_append]
        refine ⟨h, List.nodup_cons.mpr ⟨by simp, List.nodup_nil⟩, fun a ha b hb e => ?_⟩
        rw [List.mem_singleton.mp hb] at e
        exact c (e ▸ ha)
  exact this ks [] List.nodup_nil

theorem ddS_map {β : Type} (f : α → β) (L : List (α × NestedKey)) (p : α × NestedKey) : (ddS L p).map (fun q => (f q.1, q.2)) = ddS (L.map fun q => (f q.1, q.2)) (f p.1, p.2) := by
  unfold ddS
  rw [List.map_map]
  have e : L.map ((fun q : β × NestedKey => q.2) ∘ fun q => (f q.1, q.2)) = L.map (·.2) := rfl
  rw [e]
  dsimp only
  split
  · rfl
  · rw [List.map_append]; rfl
theorem ddK_map {β : Type} (f : α → β) (ks : List (α × NestedKey)) : (ddK ks).map (fun q => (f q.1, q.2)) = ddK (ks.map fun q => (f q.1, q.2)) := by
  have : ∀ (ks L : List (α × NestedKey)), (ks.foldl ddS L).map (fun q => (f q.1, q.2)) = (ks.map fun q => (f q.1, q.2)).foldl ddS (L.map fun q => (f q.1, q.2)) := by
    intro ks
    induction ks with
    | nil => intro L; rfl
    | cons p ks ih =>
      intro L
      rw [List.foldl_cons, List.map_cons, List.foldl_cons, ih, ddS_map]
  exact this ks []
end
/-! ### filling a set from a list -/
structure Adds (P : Program) (w : World) (A : Around) (h0 : Heap) (S : Addr) (ks : KL) (R : Heap → KL → Prop) : Prop where
  keep : ∀ h h' L, R h L → (∀ o, h.get? S = some o → h'.get? S = some o) → (∀ b o, h0.get? b = some o → h'.get? b = some o) → R h' L
  new : ∀ h, h.get? S = some { cls := .type "set", dict := none, data := .set #[] 0 (.fresh 0 0 (!w.params.followText "set-order")) } → (∀ b o, h0.get? b = some o → h.get? b = some o) → R h []
  add : ∀ (s : Shared) (E : Value → Shared → Prop) (L : KL) (p : Value × NestedKey) (Q : Bool → Shared → Prop), R s.heap L → (∀ q ∈ L, q ∈ ks) → p ∈ ks → L.length < ks.length → (∀ b o, h0.get? b = some o → s.heap.get? b = some o) →
    (∀ b h' L', Heap.SameBut S s.heap h' → R h' L' → (p.2 ∈ L.map (·.2) → L' = L) → (p.2 ∉ L.map (·.2) → L'.Perm (p :: L)) → Q b { s with heap := h' }) →
    wpAny (model P w) A (setAddHashed S p.1 (p.2.hash w)) Q E s

section
variable {P : Program} {w : World} {A : Around} {E : Value → Shared → Prop} {s : Shared}
theorem set_loop {I : Addr} {fp wr : List Addr} {G : Array GenState → Array GenState → Prop} {n : Nat} {Pv : Nat → Value → Prop} {St : Nat → Shared → Prop} {Rz : Result → Shared → Prop} {R : Heap → KL → Prop}
    (W : WalksS P w A.in1 I fp wr G n Pv St) (S : Addr) (hSf : S ∉ fp) (ks : KL) (hn : n = ks.length) (hval : ∀ i v, Pv i v → ∃ p, ks[i]? = some p ∧ v = p.1)
    (h0 : Heap) (hk : ∀ p ∈ ks, NestedIs h0 p.2 p.1) (hd : ∀ p ∈ ks, p.2.depth ≤ 8) (hS0 : h0.get? S = none) (hw0 : ∀ b ∈ wr, h0.get? b = none) (hu : A.units + 10 < cLine) (ad : Adds P w A.in1 h0 S ks R) :
    ∀ (k i : Nat) (s : Shared), n - i = k → i ≤ n → St i s → (∀ b o, h0.get? b = some o → s.heap.get? b = some o) → (∃ L, R s.heap L ∧ L.Perm (ddK (ks.take i))) →
      (∀ s' L, Moved (S :: wr) G s s' → R s'.heap L → L.Perm (ddK ks) → (∀ b o, h0.get? b = some o → s'.heap.get? b = some o) → Rz (.ok (.ret .none)) s') →
      codeAny (model P w) A (.builtin "set.update.loop" ⟨[.ref S, .ref I], []⟩) Rz s := by
  have hSw : S ∉ wr := fun h => hSf (W.sub _ h)
  have hsub : ∀ b ∈ wr, b ∈ S :: wr := fun b hb => List.mem_cons_of_mem _ hb
  have keepM : ∀ {s s' : Shared}, Moved wr G s s' → (∀ b o, h0.get? b = some o → s.heap.get? b = some o) → ∀ b o, h0.get? b = some o → s'.heap.get? b = some o := fun hm hkp b o e =>
    hm.heap b o (fun hb => by rw [hw0 b hb] at e; cases e) (hkp b o e)
  intro k
  induction k with
  | zero =>
    intro i s hk' hi hst hkp ⟨L, hS, g⟩ hR
    have hin : i = n := by omega
    subst hin
    refine codeAny_builtin F.entry_set_update_loop ?_
    rw [Around.under_plainId F.plain_set_update_loop _]
    show wpAny _ A.in1 (pyNext (.ref I) >>= _) _ _ s
    refine wpAny_bind (W.done s _ _ hst fun s' hm => ?_)
    show wpAny _ A.in1 (ret Value.none) _ _ s'
    have hkp' := keepM hm hkp
    rw [hn, List.take_length] at g
    exact wpAny_pure (hR s' L (hm.mono hsub) (ad.keep _ _ _ hS (fun o e => hm.heap S o hSw e) hkp') g hkp')
  | succ k ih =>
    intro i s hk' hi hst hkp ⟨L, hS, g⟩ hR
    have hlt : i < n := by omega
    refine codeAny_builtin F.entry_set_update_loop ?_
    rw [Around.under_plainId F.plain_set_update_loop _]
    show wpAny _ A.in1 (pyNext (.ref I) >>= _) _ _ s
    refine wpAny_bind (W.item i s _ _ hlt hst fun v s' hP hst' hm => ?_)
    obtain ⟨p, hp, rfl⟩ := hval i v hP
    have hkp' := keepM hm hkp
    have hmem : p ∈ ks := List.mem_of_getElem? hp
    have sub : ∀ q ∈ L, q ∈ ks := fun q hq => List.mem_of_mem_take (ddK_sub q (g.mem_iff.mp hq))
    have hL : L.length < ks.length := by
      have h1 := ddK_len (ks.take i)
      have h2 := g.length_eq
      rw [List.length_take] at h1
      omega
    have hS' : R s'.heap L := ad.keep _ _ _ hS (fun o e => hm.heap S o hSw e) hkp'
    have hx : NestedIs s'.heap p.2 p.1 := NestedIs.at (fun b o vs m e _ => hkp' b o e) _ _ (hk p hmem)
    show wpAny _ A.in1 (holding [p.1] (setAdd S p.1) >>= _) _ _ s'
    refine wpAny_bind (wpAny_holding ?_)
    unfold setAdd
    refine wpAny_holding ?_
    have hdp := hd p hmem
    refine wpAny_bind (pyHash_key p.2 p.1 A.in1 s' _ hx (by rw [Around.in1_units]; omega) ?_)
    refine ad.add { s' with toks := s'.toks + p.2.draws } _ L p _ hS' sub hmem hL hkp' fun b h' L' hsb hS2 c1 c2 => ?_
    have hkp2 : ∀ b o, h0.get? b = some o → h'.get? b = some o := fun b o e => (hsb.2 b (fun z => by rw [z, hS0] at e; cases e)).trans (hkp' b o e)
    refine wpAny_pure ⟨plainId_quiet F.plain_set_update_loop _, ih (i + 1) _ (by omega) hlt (W.frame _ s' _ _ hst' (Nat.le_add_right _ _) fun b hb o e => ?_) hkp2 ⟨L', hS2, by rw [ddK_take hp]; exact ddS_perm g c1 c2⟩ fun s'' L2 hm'' hS'' g'' hkp'' => ?_⟩
    · rw [hsb.2 b (fun h : b = S => hSf (by rw [← h]; exact hb))]; exact e
    · refine hR s'' L2 (Moved.trans W.gtrans ((hm.mono hsub).then_heap (Nat.le_add_right _ _) fun b o hb e => ?_) hm'') hS'' g'' hkp''
      rw [hsb.2 b (fun h : b = S => hb (by rw [h]; exact List.mem_cons_self))]; exact e
set_option maxRecDepth 100000 in
set_option maxHeartbeats 3200000 in
/-- set(xs) -/
theorem call_setG {l : Addr} {items : Array Value} {R : Heap → KL → Prop} (ks : KL) {Q : Value → Shared → Prop} (hh : A.handled = none) (hl : s.heap.IsList l items) (hit : items.toList = ks.map (·.1))
    (hk : ∀ p ∈ ks, NestedIs s.heap p.2 p.1) (hdp : ∀ p ∈ ks, p.2.depth ≤ 8) (hu : A.units + 15 < cLine) (ad : ∀ A' : Around, A'.units ≤ A.units + 6 → Adds P w A' s.heap s.heap.objs.size ks R)
    (h : ∀ (h' : Heap) (tk : Nat) L, R h' L → L.Perm (ddK ks) → (∀ b o, s.heap.get? b = some o → h'.get? b = some o) → Q (.ref s.heap.objs.size) { s with heap := h', toks := tk }) :
    wpAny (model P w) A (call (.type "set") [.ref l]) Q E s := by
  have hisz : items.size = ks.length := by
    have q := congrArg List.length hit
    rw [Array.length_toList, List.length_map] at q
    exact q
  obtain ⟨c, tl, hmro⟩ := F.called_set.mro
  have hmade := F.called_set.made
  have hsub := F.called_set.sub
  refine wpAny_call (codeAny_of_tree ?_)
  show wpAny _ _ (callAny (.type "set") _) _ _ _
  refine wpAny_pure ⟨Code.quiet_builtin _ (by decide +kernel), codeAny_builtin F.entry_type_call ?_⟩
  rw [Around.under_plain (weight_type_call_type "set" [.ref l] []) rfl]
  have h1 := F.called_set.notType
  have h2 := F.called_set.canCreate
  have hct := F.typeCall_set_1 (.ref l)
  repeat (any_goals (first | assumption | wp_step))
  refine codeAny_mono (code_set_led1 (.ref l) (E := E) (Q₁ := fun obj s₁ => obj = .ref s.heap.objs.size ∧ s₁ = { s with heap := s.heap.push { cls := .type "set", dict := none, data := .set #[] 0 (.fresh 0 0 (!w.params.followText "set-order")) } }) ⟨rfl, rfl⟩) fun r s₁ hr => ?_
  cases r with
  | error e => exact hr
  | ok fl =>
    cases fl with
    | ret obj =>
      obtain ⟨rfl, rfl⟩ := hr
      have hS : (s.heap.push { cls := .type "set", dict := none, data := .set #[] 0 (.fresh 0 0 (!w.params.followText "set-order")) }).get? s.heap.objs.size = some { cls := .type "set", dict := none, data := .set #[] 0 (.fresh 0 0 (!w.params.followText "set-order")) } := Heap.get?_push_size _ rfl
      have hT : Shared.TypeIs { s with heap := s.heap.push { cls := .type "set", dict := none, data := .set #[] 0 (.fresh 0 0 (!w.params.followText "set-order")) } } (.ref s.heap.objs.size) "set" := ⟨_, hS, rfl⟩
      have hli := F.called_set.init.lookup
      have hbi := F.called_set.init.bind (.ref s.heap.objs.size)
      repeat (any_goals (first | assumption | wp_step))
      refine codeAny_mono (codeAny_call_builtin (R := wants (fun r s₂ => r = .none ∧ ∃ h' tk L, s₂ = { s with heap := h', toks := tk } ∧ R h' L ∧ L.Perm (ddK ks) ∧
          (∀ b o, s.heap.get? b = some o → h'.get? b = some o)) E) F.called_set.init.plain F.entry_set_init (check_set_init_1 hT ?_)) fun r₂ s₂ hr₂ => ?_
      · obtain ⟨ol, hol, hcl, nl, hdl⟩ := hl
        obtain ⟨ocls, odict, odata, oslots⟩ := ol
        simp only at hcl hdl
        subst hcl; subst hdl
        have hol' : (s.heap.push { cls := .type "set", dict := none, data := .set #[] 0 (.fresh 0 0 (!w.params.followText "set-order")) }).get? l = some { cls := .type "list", dict := odict, data := .seq items nl, slots := oslots } := Heap.get?_push_of_some _ hol
        have hsls := F.sub_list_set
        have hslf := F.sub_list_frozenset
        have hne : (Value.type "list" == Value.type "dict") = false := by decide
        have hl1 : (s.heap.push { cls := .type "set", dict := none, data := .set #[] 0 (.fresh 0 0 (!w.params.followText "set-order")) }).IsList l items := ⟨_, hol', rfl, nl, rfl⟩
        unfold Builtin.«set.__init__» noKeywords Builtin.Frozenset.updateFrom
        generalize hPI : pyIter = PI
        wp_walk
        subst hPI
        refine wpAny_pyIter_list hl1 ?_
        refine wpAny_bind (wpAny_runValue ?_)
        have hlS : l < s.heap.objs.size := Heap.lt_size hol
        have hh3 : A.in1.in1.in1.handled = none := by simp [hh]
        have hneI : l ≠ (s.heap.push { cls := .type "set", dict := none, data := .set #[] 0 (.fresh 0 0 (!w.params.followText "set-order")) }).objs.size := by
          rw [Heap.size_push]; exact Nat.ne_of_lt (Nat.lt_succ_of_lt hlS)
        have hSf : s.heap.objs.size ∉ [(s.heap.push { cls := .type "set", dict := none, data := .set #[] 0 (.fresh 0 0 (!w.params.followText "set-order")) }).objs.size, l] := by
          rw [Heap.size_push]; simp only [List.mem_cons, List.mem_singleton, List.not_mem_nil, or_false, not_or]
          exact ⟨Nat.ne_of_lt (Nat.lt_succ_self _), Nat.ne_of_gt hlS⟩
        have hval : ∀ (i : Nat) (v : Value), items[i]? = some v → ∃ p, ks[i]? = some p ∧ v = p.1 := fun i v hv => by
          have q : items.toList[i]? = some v := by rw [Array.getElem?_toList]; exact hv
          rw [hit, List.getElem?_map] at q
          cases hq : ks[i]? with
          | none => rw [hq] at q; cases q
          | some p =>
            rw [hq] at q
            exact ⟨p, rfl, (Option.some.inj q).symm⟩
        have none_of : ∀ b, s.heap.objs.size ≤ b → s.heap.get? b = none := fun b hb => by
          cases q : s.heap.get? b with
          | none => rfl
          | some o => exact absurd (Nat.lt_of_lt_of_le (Heap.lt_size q) hb) (Nat.lt_irrefl _)
        refine set_loop (A := A.in1.in1) ((Walks.list hh3 _ l hneI items).toS) s.heap.objs.size
          hSf ks hisz hval s.heap hk hdp (none_of _ (Nat.le_refl _)) (fun b hb => none_of b (by
            rw [List.mem_singleton.mp hb, Heap.size_push]
            exact Nat.le_succ _)) (by simp only [Around.in1_units]; omega) (ad _ (by simp only [Around.in1_units]; omega)) (items.size - 0) 0 _ (by omega) (Nat.zero_le _)
          ⟨⟨_, Heap.get?_push_size _ rfl, rfl, rfl⟩, (hl1.push _)⟩ (fun b o e => Heap.get?_push_of_some _ (Heap.get?_push_of_some _ e)) ?hS0 ?hR
        case hS0 =>
          have hget : ((s.heap.push { cls := .type "set", dict := none, data := .set #[] 0 (.fresh 0 0 (!w.params.followText "set-order")) }).push { cls := .type "list_iterator", data := .fields #[.ref l, .int 0 0] }).get? s.heap.objs.size
              = some { cls := .type "set", dict := none, data := .set #[] 0 (.fresh 0 0 (!w.params.followText "set-order")) } := Heap.get?_push_of_some _ hS
          exact ⟨[], (ad A (by omega)).new _ hget (fun b o e => Heap.get?_push_of_some _ (Heap.get?_push_of_some _ e)), List.Perm.refl _⟩
        case hR =>
          intro s' L hm hS' g' hkp
          obtain ⟨h', g2, d', tk', os'⟩ := s'
          have eg : g2 = s.gens := hm.gens
          have ed : d' = s.drawn := hm.drawn
          have eo : os' = s.os := hm.os
          subst eg; subst ed; subst eo
          show wpAny _ _ _ _ _ _
          refine wpAny_pure ?_
          show wpAny _ _ (ret Value.none) _ _ _
          exact wpAny_pure ⟨rfl, h', tk', L, rfl, hS', g', hkp⟩
      · cases r₂ with
        | error e => exact hr₂
        | ok fl₂ =>
          cases fl₂ with
          | ret r =>
            obtain ⟨rfl, h', tk, L, rfl, hS', g', hk'⟩ := hr₂
            repeat (any_goals (first | assumption | wp_step))
            exact h _ _ _ hS' g' hk'
          | _ => exact hr₂.elim
    | _ => exact hr.elim
set_option maxRecDepth 100000 in
set_option maxHeartbeats 3200000 in
/-- set(xs) -/
theorem call_setGT {l : Addr} {items : Array Value} {R : Heap → KL → Prop} (ks : KL) {Q : Value → Shared → Prop} (hh : A.handled = none) (hl : s.heap.IsTuple l items) (hit : items.toList = ks.map (·.1))
    (hk : ∀ p ∈ ks, NestedIs s.heap p.2 p.1) (hdp : ∀ p ∈ ks, p.2.depth ≤ 8) (hu : A.units + 15 < cLine) (ad : ∀ A' : Around, A'.units ≤ A.units + 6 → Adds P w A' s.heap s.heap.objs.size ks R)
    (h : ∀ (h' : Heap) (tk : Nat) L, R h' L → L.Perm (ddK ks) → (∀ b o, s.heap.get? b = some o → h'.get? b = some o) → Q (.ref s.heap.objs.size) { s with heap := h', toks := tk }) :
    wpAny (model P w) A (call (.type "set") [.ref l]) Q E s := by
  have hisz : items.size = ks.length := by
    have q := congrArg List.length hit
    rw [Array.length_toList, List.length_map] at q
    exact q
  obtain ⟨c, tl, hmro⟩ := F.called_set.mro
  have hmade := F.called_set.made
  have hsub := F.called_set.sub
  refine wpAny_call (codeAny_of_tree ?_)
  show wpAny _ _ (callAny (.type "set") _) _ _ _
  refine wpAny_pure ⟨Code.quiet_builtin _ (by decide +kernel), codeAny_builtin F.entry_type_call ?_⟩
  rw [Around.under_plain (weight_type_call_type "set" [.ref l] []) rfl]
  have h1 := F.called_set.notType
  have h2 := F.called_set.canCreate
  have hct := F.typeCall_set_1 (.ref l)
  repeat (any_goals (first | assumption | wp_step))
  refine codeAny_mono (code_set_led1 (.ref l) (E := E) (Q₁ := fun obj s₁ => obj = .ref s.heap.objs.size ∧ s₁ = { s with heap := s.heap.push { cls := .type "set", dict := none, data := .set #[] 0 (.fresh 0 0 (!w.params.followText "set-order")) } }) ⟨rfl, rfl⟩) fun r s₁ hr => ?_
  cases r with
  | error e => exact hr
  | ok fl =>
    cases fl with
    | ret obj =>
      obtain ⟨rfl, rfl⟩ := hr
      have hS : (s.heap.push { cls := .type "set", dict := none, data := .set #[] 0 (.fresh 0 0 (!w.params.followText "set-order")) }).get? s.heap.objs.size = some { cls := .type "set", dict := none, data := .set #[] 0 (.fresh 0 0 (!w.params.followText "set-order")) } := Heap.get?_push_size _ rfl
      have hT : Shared.TypeIs { s with heap := s.heap.push { cls := .type "set", dict := none, data := .set #[] 0 (.fresh 0 0 (!w.params.followText "set-order")) } } (.ref s.heap.objs.size) "set" := ⟨_, hS, rfl⟩
      have hli := F.called_set.init.lookup
      have hbi := F.called_set.init.bind (.ref s.heap.objs.size)
      repeat (any_goals (first | assumption | wp_step))
      refine codeAny_mono (codeAny_call_builtin (R := wants (fun r s₂ => r = .none ∧ ∃ h' tk L, s₂ = { s with heap := h', toks := tk } ∧ R h' L ∧ L.Perm (ddK ks) ∧
          (∀ b o, s.heap.get? b = some o → h'.get? b = some o)) E) F.called_set.init.plain F.entry_set_init (check_set_init_1 hT ?_)) fun r₂ s₂ hr₂ => ?_
      · obtain ⟨ol, hol, hcl, nl, hdl⟩ := hl
        obtain ⟨ocls, odict, odata, oslots⟩ := ol
        simp only at hcl hdl
        subst hcl; subst hdl
        have hol' : (s.heap.push { cls := .type "set", dict := none, data := .set #[] 0 (.fresh 0 0 (!w.params.followText "set-order")) }).get? l = some { cls := .type "tuple", dict := odict, data := .seq items nl, slots := oslots } := Heap.get?_push_of_some _ hol
        have hsls := F.sub_tuple_set
        have hslf := F.sub_tuple_frozenset
        have hne : (Value.type "tuple" == Value.type "dict") = false := by decide
        have hl1 : (s.heap.push { cls := .type "set", dict := none, data := .set #[] 0 (.fresh 0 0 (!w.params.followText "set-order")) }).IsTuple l items := ⟨_, hol', rfl, nl, rfl⟩
        unfold Builtin.«set.__init__» noKeywords Builtin.Frozenset.updateFrom
        generalize hPI : pyIter = PI
        wp_walk
        subst hPI
        refine wpAny_pyIter_tuple hl1 ?_
        refine wpAny_bind (wpAny_runValue ?_)
        have hlS : l < s.heap.objs.size := Heap.lt_size hol
        have hh3 : A.in1.in1.in1.handled = none := by simp [hh]
        have hneI : l ≠ (s.heap.push { cls := .type "set", dict := none, data := .set #[] 0 (.fresh 0 0 (!w.params.followText "set-order")) }).objs.size := by
          rw [Heap.size_push]; exact Nat.ne_of_lt (Nat.lt_succ_of_lt hlS)
        have hSf : s.heap.objs.size ∉ [(s.heap.push { cls := .type "set", dict := none, data := .set #[] 0 (.fresh 0 0 (!w.params.followText "set-order")) }).objs.size, l] := by
          rw [Heap.size_push]; simp only [List.mem_cons, List.mem_singleton, List.not_mem_nil, or_false, not_or]
          exact ⟨Nat.ne_of_lt (Nat.lt_succ_self _), Nat.ne_of_gt hlS⟩
        have hval : ∀ (i : Nat) (v : Value), items[i]? = some v → ∃ p, ks[i]? = some p ∧ v = p.1 := fun i v hv => by
          have q : items.toList[i]? = some v := by rw [Array.getElem?_toList]; exact hv
          rw [hit, List.getElem?_map] at q
          cases hq : ks[i]? with
          | none => rw [hq] at q; cases q
          | some p =>
            rw [hq] at q
            exact ⟨p, rfl, (Option.some.inj q).symm⟩
        have none_of : ∀ b, s.heap.objs.size ≤ b → s.heap.get? b = none := fun b hb => by
          cases q : s.heap.get? b with
          | none => rfl
          | some o => exact absurd (Nat.lt_of_lt_of_le (Heap.lt_size q) hb) (Nat.lt_irrefl _)
        refine set_loop (A := A.in1.in1) ((Walks.tuple hh3 _ l hneI items).toS) s.heap.objs.size
          hSf ks hisz hval s.heap hk hdp (none_of _ (Nat.le_refl _)) (fun b hb => none_of b (by
            rw [List.mem_singleton.mp hb, Heap.size_push]
            exact Nat.le_succ _)) (by simp only [Around.in1_units]; omega) (ad _ (by simp only [Around.in1_units]; omega)) (items.size - 0) 0 _ (by omega) (Nat.zero_le _)
          ⟨⟨_, Heap.get?_push_size _ rfl, rfl, rfl⟩, (hl1.push _)⟩ (fun b o e => Heap.get?_push_of_some _ (Heap.get?_push_of_some _ e)) ?hS0 ?hR
        case hS0 =>
          have hget : ((s.heap.push { cls := .type "set", dict := none, data := .set #[] 0 (.fresh 0 0 (!w.params.followText "set-order")) }).push { cls := .type "tuple_iterator", data := .fields #[.ref l, .int 0 0] }).get? s.heap.objs.size
              = some { cls := .type "set", dict := none, data := .set #[] 0 (.fresh 0 0 (!w.params.followText "set-order")) } := Heap.get?_push_of_some _ hS
          exact ⟨[], (ad A (by omega)).new _ hget (fun b o e => Heap.get?_push_of_some _ (Heap.get?_push_of_some _ e)), List.Perm.refl _⟩
        case hR =>
          intro s' L hm hS' g' hkp
          obtain ⟨h', g2, d', tk', os'⟩ := s'
          have eg : g2 = s.gens := hm.gens
          have ed : d' = s.drawn := hm.drawn
          have eo : os' = s.os := hm.os
          subst eg; subst ed; subst eo
          show wpAny _ _ _ _ _ _
          refine wpAny_pure ?_
          show wpAny _ _ (ret Value.none) _ _ _
          exact wpAny_pure ⟨rfl, h', tk', L, rfl, hS', g', hkp⟩
      · cases r₂ with
        | error e => exact hr₂
        | ok fl₂ =>
          cases fl₂ with
          | ret r =>
            obtain ⟨rfl, h', tk, L, rfl, hS', g', hk'⟩ := hr₂
            repeat (any_goals (first | assumption | wp_step))
            exact h _ _ _ hS' g' hk'
          | _ => exact hr₂.elim
    | _ => exact hr.elim
end
end Py
end
section
set_option maxHeartbeats 2000000
namespace Py
open PySem PySem.Spec PyProof.Rows L2 LamX

/-! ### a set at S as a walk needs it -/
structure SetObj (w : World) (h : Heap) (S : Addr) (L : KL) : Prop where
  ex : ∃ o es ep t, h.get? S = some o ∧ o.ExactSet ∧ o.data = .set es ep t ∧ t.fits es.size = true ∧ Ris t.place.toList ∧ (w.params.followText "set-order" = true ∨ t.led = true) ∧ es.toList.Perm (L.map fun p => (p.2.hash w, p.1)) ∧ es.size < scanBound
/-! ### keys carried by value -/
def LeafP (p : Value × NestedKey) : Prop := ∃ lf : Leaf, lf.key = p.2 ∧ Leaf.isOf lf p.1 = true
structure ScanR (w : World) (S : Addr) (h : Heap) (L : KL) : Prop where
  ob : SetObj w h S L
  nd : (L.map (·.2)).Nodup
  leaf : ∀ p ∈ L, LeafP p
theorem leaf_scan {k : Leaf} {v : Value} (e : Leaf.isOf k v = true) : v.scannable = true := by
  cases k with
  | none => cases v <;> first | rfl | exact absurd e Bool.false_ne_true
  | num i => cases v <;> first | rfl | exact absurd e Bool.false_ne_true
  | text x =>
    obtain ⟨t, rfl⟩ := Value.isStrOf_shape (show Value.isStrOf x v = true from e)
    rfl
section
variable {P : Program} {w : World} {A : Around} {E : Value → Shared → Prop} {s : Shared} {a : Addr}
theorem rows_mem {L : KL} {es : List (Int × Value)} (pm : es.Perm (L.map fun p => (p.2.hash w, p.1))) {e : Int × Value} (h : e ∈ es) : ∃ p ∈ L, e = (p.2.hash w, p.1) := by
  obtain ⟨p, hp, q⟩ := List.mem_map.mp (pm.mem_iff.mp h)
  exact ⟨p, hp, q.symm⟩
theorem rows_elems {L : KL} {es : List (Int × Value)} (pm : es.Perm (L.map fun p => (p.2.hash w, p.1))) (lf : ∀ p ∈ L, LeafP p) : ElemsOf (leafKind P w) es := fun e he => by
  obtain ⟨p, hp, rfl⟩ := rows_mem pm he
  obtain ⟨k, h1, h2⟩ := lf p hp
  exact ⟨⟨k, h2, by rw [← h1]; rfl⟩, leaf_scan h2⟩
theorem scan_tail {g : Bool → Sem Unit} (hg : ∀ (b : Bool) (s₁ : Shared) (Q' : Unit → Shared → Prop), Q' () s₁ → wpAny (model P w) A (g b) Q' E s₁)
    {o : Obj} {es : Array (Int × Value)} {ep : Nat} {t : SetTable} (ho : s.heap.get? a = some o) (hex : o.ExactSet) (hd : o.data = .set es ep t)
    {es1 : Array (Int × Value)} {t2 : SetTable} {L : KL} (pm1 : es1.toList.Perm (L.map fun p => (p.2.hash w, p.1)))
    (hb1 : es1.size < scanBound) (hf2 : t2.fits es1.size = true) (hr : Ris t2.place.toList) (hl : w.params.followText "set-order" = true ∨ t2.led = true) {wasDummy : Bool} {R : Option Bool → Shared → Prop}
    (hR : ∀ h', Heap.SameBut a s.heap h' → SetObj w h' a L → R (some true) { s with heap := h' }) :
    wpAny (model P w) A (do
        storeSet a es1 t2
        if (!wasDummy && t2.tooFull) = true then do
            g (relayAll t2 es1 (SetTable.grown es1.size)).2.2
            storeSet a (relayAll t2 es1 (SetTable.grown es1.size)).1 (relayAll t2 es1 (SetTable.grown es1.size)).2.1
            pure (some true)
          else pure (some true)) R E s := by
  refine wpAny_bind (wpAny_storeSet_of ho hd ?_ (fits_of_scanBound hb1))
  have ho1 := store_at (es' := es1) (t' := t2) ho hd
  have sb1 := Heap.SameBut.update s.heap a (Obj.putSet es1 t2)
  split
  · have pm := relayAll_perm t2 es1 (SetTable.grown es1.size)
    have hf3 := relayAll_fits t2 es1 (SetTable.grown es1.size)
    have hr3 := relayAll_ris t2 es1 (SetTable.grown es1.size)
    have hl3 := relayAll_led t2 es1 (SetTable.grown es1.size)
    generalize relayAll t2 es1 (SetTable.grown es1.size) = Z at pm hf3 hr3 hl3 ⊢
    obtain ⟨es2, t3, gave⟩ := Z
    dsimp only at pm hf3 hr3 hl3 ⊢
    have hsz : es2.size = es1.size := by rw [← Array.length_toList, pm.length_eq, Array.length_toList]
    have hb2 : es2.size < scanBound := by rw [hsz]; exact hb1
    refine wpAny_bind (hg _ _ _ ?_)
    refine wpAny_bind (wpAny_storeSet_of ho1 rfl ?_ (fits_of_scanBound hb2))
    have ho2 := store_at (es' := es2) (t' := t3) ho1 rfl
    refine wpAny_pure (hR _ (sb1.trans (Heap.SameBut.update _ a _)) ?_)
    exact ⟨_, es2, _, t3, ho2, hex, rfl, hf3, hr3, hl.imp id (fun z => by rw [hl3]; exact z), pm.trans pm1, hb2⟩
  · exact wpAny_pure (hR _ sb1 ⟨_, es1, _, t2, ho1, hex, rfl, hf2, hr, hl, pm1, hb1⟩)
theorem scan_add {L : KL} {p : Value × NestedKey} {Q : Bool → Shared → Prop} (R : ScanR w a s.heap L) (hp : LeafP p) (room : L.length + 1 < scanBound)
    (hQ : ∀ b h' L', Heap.SameBut a s.heap h' → ScanR w a h' L' → (p.2 ∈ L.map (·.2) → L' = L) → (p.2 ∉ L.map (·.2) → L'.Perm (p :: L)) → Q b { s with heap := h' }) :
    wpAny (model P w) A (setAddHashed a p.1 (p.2.hash w)) Q E s := by
  obtain ⟨o, es, ep, t, ho, hex, hd, hf, hr, hl, pm0, hb⟩ := R.ob.ex
  obtain ⟨lf, hk, hv⟩ := hp
  obtain ⟨v, k⟩ := p
  dsimp only at hk hv hQ ⊢
  subst hk
  have hsc : v.scannable = true := leaf_scan hv
  have hel : ElemsOf (leafKind P w) es.toList := rows_elems pm0 R.leaf
  have hn : es.size = L.length := by rw [← Array.length_toList, pm0.length_eq, List.length_map]
  have key_iff : ∀ e ∈ es.toList, ((leafKind P w).is lf e.2 = true ↔ ∃ q ∈ L, e = (q.2.hash w, q.1) ∧ q.2 = lf.key) := fun e he => by
    obtain ⟨q, hq, rfl⟩ := rows_mem pm0 he
    obtain ⟨lq, e1, e2⟩ := R.leaf q hq
    constructor
    · intro h
      have e3 : lq = lf := (leafKind P w).inj q.1 lq lf e2 h
      exact ⟨q, hq, rfl, by rw [← e1, e3]⟩
    · rintro ⟨q', hq', e3, e4⟩
      have e5 : q.1 = q'.1 := congrArg Prod.snd e3
      obtain ⟨lq', e6, e7⟩ := R.leaf q' hq'
      have e8 : lq' = lf := Leaf.key_inj (e6.trans e4)
      show Leaf.isOf lf q.1 = true
      rw [e5, ← e8]; exact e7
  unfold setAddHashed setAddHashedIn
  refine wpAny_holding (wpAny_bind (wpAny_setState_of ho hd hf ?_))
  dsimp only
  rw [byScan_of hsc hb hel]
  simp only [↓reduceIte]
  unfold setAddByScan
  refine wpAny_bind ?_
  refine wpAny_bind (wpAny_rule ?_)
  refine wpAny_bind (wpAny_setScan_of (knd := leafKind P w) (k := lf) hv ho hd hf hel ?_)
  cases hfi : List.findIdx? (fun e => (leafKind P w).is lf e.2) es.toList with
  | some j =>
    dsimp only
    obtain ⟨hj, pj, _⟩ := List.findIdx?_eq_some_iff_getElem.mp hfi
    obtain ⟨q, hq, _, e4⟩ := (key_iff _ (List.getElem_mem hj)).1 pj
    have hin : lf.key ∈ L.map (·.2) := List.mem_map.mpr ⟨q, hq, e4⟩
    exact wpAny_pure (wpAny_pure (hQ _ s.heap L (Heap.SameBut.refl a s.heap) R (fun _ => rfl) fun z => absurd hin z))
  | none =>
    dsimp only
    have hnk : lf.key ∉ L.map (·.2) := fun z => by
      obtain ⟨q, hq, e4⟩ := List.mem_map.mp z
      have hm : (q.2.hash w, q.1) ∈ es.toList := pm0.mem_iff.mpr (List.mem_map.mpr ⟨q, hq, rfl⟩)
      have c := List.findIdx?_eq_none_iff.mp hfi _ hm
      rw [(key_iff _ hm).2 ⟨q, hq, rfl, e4⟩] at c
      cases c
    have hgw : ∀ (b : Bool) {s₁ : Shared} {Q' : Unit → Shared → Prop}, Q' () s₁ → wpAny (model P w) A (match b with | true => rule "set.scan.the-table-gave-way" | false => pure ()) Q' E s₁ :=
      fun b s₁ Q' q => by cases b <;> first | exact wpAny_pure q | exact wpAny_rule q
    have pm := layNew_perm t es (lf.key.hash w) v
    have hf1 := layNew_fits t es (lf.key.hash w) v
    have hr1 := layNew_ris t es (lf.key.hash w) v hr
    have hl1 := layNew_led t es (lf.key.hash w) v
    generalize layNew t es (lf.key.hash w) v = Z at pm hf1 hr1 hl1 ⊢
    obtain ⟨es1, t1, wasDummy, gave⟩ := Z
    dsimp only at pm hf1 hr1 hl1 ⊢
    rw [Array.toList_push] at pm
    have pc : es1.toList.Perm ((lf.key.hash w, v) :: es.toList) := pm.trans (List.perm_append_singleton _ _)
    have pm1 : es1.toList.Perm (((v, lf.key) :: L).map fun p => (p.2.hash w, p.1)) := pc.trans (pm0.cons _)
    have hsz : es1.size = L.length + 1 := by rw [← Array.length_toList, pc.length_eq, List.length_cons, Array.length_toList, hn]
    have hb1 : es1.size < scanBound := by rw [hsz]; exact room
    have hled : w.params.followText "set-order" = true ∨ t1.led = true := hl.imp id fun z => by rw [hl1]; exact z
    have fin : ∀ h', Heap.SameBut a s.heap h' → SetObj w h' a ((v, lf.key) :: L) → Q true { s with heap := h' } := fun h' sb r =>
      hQ true h' ((v, lf.key) :: L) sb ⟨r, by rw [List.map_cons]; exact List.nodup_cons.mpr ⟨hnk, R.nd⟩, fun p hp => by
        rcases List.mem_cons.mp hp with rfl | hp
        · exact ⟨lf, rfl, hv⟩
        · exact R.leaf p hp⟩ (fun z => absurd z hnk) fun _ => List.Perm.refl _
    refine wpAny_bind (hgw _ ?_)
    split
    · refine wpAny_bind ?_
      rw [hashByValue_scannable 8 hsc]
      refine wpAny_pure ?_
      refine scan_tail ?_ ho hex hd pm1 hb1 ?_ ?_ ?_ ?_
      · intro b s₁ Q' q; cases b <;> first | exact wpAny_pure q | exact wpAny_rule q
      · first | (split <;> first | exact hf1 | exact SetTable.fits_plain_off hf1) | exact hf1
      · first | (split <;> exact hr1) | exact hr1
      · first | (split <;> exact hled) | exact hled
      · intro h' sb r; dsimp only; exact wpAny_pure (fin h' sb r)
    · refine wpAny_bind (wpAny_pure ?_)
      simp only [↓reduceIte]
      refine scan_tail ?_ ho hex hd pm1 hb1 hf1 hr1 hled ?_
      · intro b s₁ Q' q; cases b <;> first | exact wpAny_pure q | exact wpAny_rule q
      · intro h' sb r; dsimp only; exact wpAny_pure (fin h' sb r)
theorem scan_adds {h0 : Heap} {ks : KL} (hlf : ∀ p ∈ ks, LeafP p) (hb : ks.length + 1 < scanBound) : Adds P w A h0 a ks (ScanR w a) where
  keep := fun h h' L R hS _ => by
    obtain ⟨o, es, ep, t, ho, r⟩ := R.ob.ex
    exact ⟨⟨o, es, ep, t, hS o ho, r⟩, R.nd, R.leaf⟩
  new := fun h ho _ => ⟨⟨_, #[], 0, _, ho, ⟨rfl, rfl, rfl⟩, rfl, by rfl, List.Pairwise.nil, by
    show _ ∨ (!w.params.followText "set-order") = true
    cases w.params.followText "set-order"
    · exact .inr rfl
    · exact .inl rfl, List.Perm.refl _, by decide⟩, List.nodup_nil, fun p hp => by cases hp⟩
  add := fun s E L p Q R sub hp hL _ hQ => scan_add R (hlf p hp) (by omega) hQ
end
end Py
end
section
set_option maxHeartbeats 4000000
namespace Py
open PySem PySem.Spec PyProof.Rows L2 LamX

/-! ### the round of i -> 5 i + 1 at 2 ^ k -/
def gS : Nat → Nat
  | 0 => 0
  | n + 1 => 5 * gS n + 1
theorem gS_add (a : Nat) : ∀ b, gS (a + b) = 5 ^ b * gS a + gS b
  | 0 => by simp [gS]
  | b + 1 => by
    show 5 * gS (a + b) + 1 = _
    rw [gS_add a b, gS, Nat.pow_succ]
    have : 5 * (5 ^ b * gS a + gS b) = 5 ^ b * 5 * gS a + 5 * gS b := by rw [Nat.mul_add, Nat.mul_comm (5 ^ b) 5, Nat.mul_assoc]
    omega
theorem five_mod : ∀ n, 5 ^ n % 4 = 1
  | 0 => rfl
  | n + 1 => by rw [Nat.pow_succ, Nat.mul_mod, five_mod n]
theorem gS_four : ∀ n, 4 * gS n + 1 = 5 ^ n
  | 0 => rfl
  | n + 1 => by
    have := gS_four n
    rw [Nat.pow_succ, gS]
    omega
theorem gS_par : ∀ n, gS n % 2 = n % 2
  | 0 => rfl
  | n + 1 => by
    have := gS_par n
    rw [gS]
    omega
theorem gS_dvd : ∀ k n, 2 ^ k ∣ gS n → 2 ^ k ∣ n
  | 0, n, _ => by rw [Nat.pow_zero]; exact Nat.one_dvd n
  | k + 1, n, h => by
    have h2 : 2 ∣ gS n := Nat.dvd_trans ⟨2 ^ k, by rw [Nat.pow_succ, Nat.mul_comm]⟩ h
    have hp := gS_par n
    obtain ⟨m, rfl⟩ : ∃ m, n = m + m := ⟨n / 2, by omega⟩
    have e : gS (m + m) = (5 ^ m + 1) * gS m := by rw [gS_add, Nat.add_mul, Nat.one_mul]
    have f := five_mod m
    obtain ⟨o, ho, hodd⟩ : ∃ o, 5 ^ m + 1 = 2 * o ∧ o % 2 = 1 := ⟨(5 ^ m + 1) / 2, by omega, by omega⟩
    rw [e, ho, Nat.pow_succ, Nat.mul_comm (2 ^ k) 2, Nat.mul_assoc] at h
    have h3 : 2 ^ k ∣ o * gS m := Nat.dvd_of_mul_dvd_mul_left (by decide) h
    have co : Nat.Coprime (2 ^ k) o := by
      refine Nat.Coprime.pow_left k ?_
      rw [Nat.coprime_comm]
      unfold Nat.Coprime
      have hd := Nat.gcd_dvd_right o 2
      have hd2 := Nat.gcd_dvd_left o 2
      have hle : Nat.gcd o 2 ≤ 2 := Nat.le_of_dvd (by decide) hd
      have hpos : 0 < Nat.gcd o 2 := Nat.gcd_pos_of_pos_right _ (by decide)
      rcases (by omega : Nat.gcd o 2 = 1 ∨ Nat.gcd o 2 = 2) with q | q
      · exact q
      · rw [q] at hd2; omega
    have h4 : 2 ^ k ∣ gS m := co.dvd_of_dvd_mul_left h3
    obtain ⟨c, hc⟩ := gS_dvd k m h4
    exact ⟨c, by rw [Nat.pow_succ]; rw [hc]; rw [Nat.mul_comm (2 ^ k) 2, Nat.mul_assoc]; omega⟩
theorem lcg_form (m i : Nat) : ∀ n, lcgI m i n % (m + 1) = (5 ^ n * i + gS n) % (m + 1)
  | 0 => by simp [lcgI, gS]
  | n + 1 => by
    show (lcgI m i n * 5 + 1) % (m + 1) % (m + 1) = _
    rw [Nat.mod_mod, Nat.add_mod, Nat.mul_mod, lcg_form m i n, ← Nat.mul_mod, ← Nat.add_mod, gS, Nat.pow_succ]
    congr 1
    have x1 : 5 ^ n * 5 * i = 5 * (5 ^ n * i) := by rw [Nat.mul_comm (5 ^ n) 5, Nat.mul_assoc]
    rw [x1]
    omega
def MaskG (m : Nat) : Prop := m % 2 = 1 ∧ ∀ i j, i ≤ m → j ≤ m → ∃ k, k ≤ m ∧ lcgI m i k = j
theorem lcg_le {m i : Nat} (hi : i ≤ m) : ∀ n, lcgI m i n ≤ m
  | 0 => hi
  | n + 1 => Nat.le_of_lt_succ (Nat.mod_lt _ (Nat.succ_pos _))
theorem maskG {k m : Nat} (hm : m + 1 = 2 ^ (k + 1)) : MaskG m := by
  refine ⟨by rw [Nat.pow_succ] at hm; omega, fun i j hi hj => ?_⟩
  have inj : ∀ a b, a < b → b ≤ m → lcgI m i a = lcgI m i b → False := by
    intro a b hab hb e
    obtain ⟨d, rfl⟩ : ∃ d, b = a + d := ⟨b - a, by omega⟩
    have e1 := lcg_form m i a
    have e2 := lcg_form m i (a + d)
    rw [← e, e1] at e2
    have e3 : 5 ^ (a + d) * i + gS (a + d) = (5 ^ a * i + gS a) + 5 ^ a * ((4 * i + 1) * gS d) := by
      have h1 := gS_four d
      rw [Nat.add_comm a d, gS_add, Nat.pow_add, ← h1]
      have x1 : (4 * gS d + 1) * 5 ^ a * i = 5 ^ a * i + 5 ^ a * (4 * i * gS d) := by
        rw [Nat.add_mul, Nat.add_mul, Nat.one_mul]
        have : 4 * gS d * 5 ^ a * i = 5 ^ a * (4 * i * gS d) := by
          rw [Nat.mul_comm (4 * gS d) (5 ^ a), Nat.mul_assoc, Nat.mul_right_comm]
        omega
      rw [x1, Nat.add_mul (4 * i) 1, Nat.one_mul, Nat.mul_add (5 ^ a)]
      omega
    rw [e3] at e2
    have dv : (m + 1) ∣ 5 ^ a * ((4 * i + 1) * gS d) := by
      have := Nat.sub_mod_eq_zero_of_mod_eq e2.symm
      rw [Nat.add_sub_cancel_left] at this
      exact Nat.dvd_of_mod_eq_zero this
    rw [hm] at dv
    have odd : ∀ o, o % 2 = 1 → Nat.Coprime (2 ^ (k + 1)) o := fun o hodd => by
      refine Nat.Coprime.pow_left _ ?_
      rw [Nat.coprime_comm]
      unfold Nat.Coprime
      have hd := Nat.gcd_dvd_right o 2
      have hd2 := Nat.gcd_dvd_left o 2
      have hle : Nat.gcd o 2 ≤ 2 := Nat.le_of_dvd (by decide) hd
      have hpos : 0 < Nat.gcd o 2 := Nat.gcd_pos_of_pos_right _ (by decide)
      rcases (by omega : Nat.gcd o 2 = 1 ∨ Nat.gcd o 2 = 2) with q | q
      · exact q
      · rw [q] at hd2; omega
    have d1 := (odd (5 ^ a) (by have := five_mod a; omega)).dvd_of_dvd_mul_left dv
    have d2 := (odd (4 * i + 1) (by omega)).dvd_of_dvd_mul_left d1
    have d3 := gS_dvd _ _ d2
    have := Nat.le_of_dvd (by omega) d3
    omega
  have nd : ((List.range (m + 1)).map (lcgI m i)).Nodup := by
    rw [List.nodup_iff_pairwise_ne, List.pairwise_map]
    refine List.Pairwise.imp_of_mem (fun {a b} ha hb hne e => ?_) (List.nodup_iff_pairwise_ne.mp List.nodup_range)
    have la := List.mem_range.mp ha
    have lb := List.mem_range.mp hb
    rcases Nat.lt_trichotomy a b with q | q | q
    · exact inj a b q (by omega) e
    · exact hne q
    · exact inj b a q (by omega) e.symm
  have mem : j ∈ (List.range (m + 1)).map (lcgI m i) := by
    rcases Classical.em (j ∈ (List.range (m + 1)).map (lcgI m i)) with c | c
    · exact c
    · exfalso
      have := nat_nodup_len ((List.range (m + 1)).map (lcgI m i)) ((List.range (m + 1)).erase j) nd fun x hx => by
        have hne : x ≠ j := fun e => c (e ▸ hx)
        obtain ⟨n, _, rfl⟩ := List.mem_map.mp hx
        exact (List.mem_erase_of_ne hne).2 (List.mem_range.mpr (Nat.lt_succ_of_le (lcg_le hi n)))
      rw [List.length_map, List.length_range, List.length_erase_of_mem (List.mem_range.mpr (Nat.lt_succ_of_le hj)), List.length_range] at this
      omega
  obtain ⟨n, hn, e⟩ := List.mem_map.mp mem
  exact ⟨n, Nat.le_of_lt_succ (List.mem_range.mp hn), e⟩
end Py
end
section
set_option maxHeartbeats 4000000
namespace Py
open PySem PySem.Spec PyProof.Rows L2 LamX

/-! ### tables of any size: each slot is found again -/
theorem wayG_le {m : Nat} {h : Int} {k : Nat} : way m h k ≤ m := by
  have hi : SetTable.bits h % (m + 1) ≤ m := Nat.le_of_lt_succ (Nat.mod_lt _ (Nat.succ_pos _))
  have r := runEnd_bd hi
  have q := nth_in (m := m) k (runAt m (SetTable.bits h % (m + 1)) (SetTable.bits h)) (by
    show SetTable.bits h % (m + 1) + (SetTable.runEnd m (SetTable.bits h % (m + 1)) - SetTable.bits h % (m + 1)) ≤ m
    omega)
  have : (nth m (runAt m (SetTable.bits h % (m + 1)) (SetTable.bits h)) k).j ≤ m := by omega
  exact this
theorem run_meetsG {m : Nat} (hm : MaskG m) (h : Int) {j : Nat} (hj : j ≤ m) : ∃ n, n ≤ m + 12 ∧ runI m (SetTable.bits h) n = j := by
  obtain ⟨k, hk, e⟩ := hm.2 _ j (runI_le m (SetTable.bits h) 12) hj
  exact ⟨12 + k, by omega, by rw [runI_tail (bits_lt h)]; exact e⟩
theorem meetsG {m : Nat} (hm : MaskG m) (h : Int) {j : Nat} (hj : j ≤ m) : ∃ k, k < 10 * SetTable.turns m ∧ way m h k = j := by
  obtain ⟨n, hn, e⟩ := run_meetsG hm h hj
  obtain ⟨k, hk, e2⟩ := run_nth m (SetTable.bits h) n
  exact ⟨k, by unfold SetTable.turns; omega, (congrArg SetTable.Probe.j e2).trans e⟩
structure TabG (t : SetTable) (hs : List Int) : Prop where
  ris : Ris t.place.toList
  dm : t.dummies = #[]
  sz : t.place.toList.length = hs.length
  mok : MaskG t.mask
  bd : ∀ x ∈ t.place.toList, x ≤ t.mask
  reach : ∀ (i : Nat) (h : Int) (j : Nat), hs[i]? = some h → t.place.toList[i]? = some j → ∃ k, way t.mask h k = j ∧ ∀ k', k' < k → way t.mask h k' ∈ t.place.toList
section
variable {t : SetTable} {hs : List Int}
theorem TabG.size (T : TabG t hs) : t.place.size = hs.length := by rw [← Array.length_toList]; exact T.sz
theorem TabG.first (T : TabG t hs) (hl : hs.length ≤ t.mask) (h : Int) : ∃ K, K < 10 * SetTable.turns t.mask ∧ way t.mask h K ∉ t.place.toList ∧ ∀ k, k < K → way t.mask h k ∈ t.place.toList := by
  obtain ⟨j, hj, hn⟩ := st_missing t.place.toList (t.mask + 1) (by rw [T.sz]; omega)
  obtain ⟨k, hk, e⟩ := meetsG T.mok h (Nat.le_of_lt_succ hj)
  obtain ⟨K, h1, h2, h3⟩ := st_least (p := fun k => way t.mask h k ∉ t.place.toList) k (by show way t.mask h k ∉ _; rw [e]; exact hn)
  exact ⟨K, Nat.lt_of_le_of_lt h1 hk, h2, fun k' hk' => Classical.not_not.mp (h3 k' hk')⟩
theorem TabG.before (T : TabG t hs) {h : Int} {K i j : Nat} (hK : way t.mask h K ∉ t.place.toList) (hi : hs[i]? = some h) (hj : t.place.toList[i]? = some j) : ∃ k, k < K ∧ way t.mask h k = j := by
  obtain ⟨k, e, hb⟩ := T.reach i h j hi hj
  have ne : k ≠ K := fun c => hK (by rw [← c, e]; exact List.mem_of_getElem? hj)
  have nl : ¬ K < k := fun c => hK (hb K c)
  exact ⟨k, by omega, e⟩
theorem TabG.put (T : TabG t hs) {h : Int} {K : Nat} (hK : way t.mask h K ∉ t.place.toList) (hb : ∀ k, k < K → way t.mask h k ∈ t.place.toList) :
    SetTable.below t.place (way t.mask h K) ≤ hs.length ∧
    TabG (t.put (way t.mask h K)).1 (hs.take (SetTable.below t.place (way t.mask h K)) ++ h :: hs.drop (SetTable.below t.place (way t.mask h K))) ∧
    (t.put (way t.mask h K)).1.fill = hs.length + 1 := by
  generalize hj : way t.mask h K = j at hK
  have hp : SetTable.below t.place j ≤ hs.length := by rw [← T.size]; exact (below_cut T.ris j).1
  have hp2 : SetTable.below t.place j ≤ t.place.toList.length := by rw [T.sz]; exact hp
  have hnp : t.place[SetTable.below t.place j]? ≠ some j := fun e => hK (List.mem_of_getElem? (by rw [Array.getElem?_toList]; exact e))
  have hpp := put_place t j
  have hd := put_dm T.dm j
  have hlen : (t.put j).1.place.toList.length = hs.length + 1 := by rw [hpp, len_ins _ hp2, T.sz]
  have up : ∀ x, x ∈ t.place.toList → x ∈ (t.put j).1.place.toList := fun x hx => by rw [hpp]; exact mem_ins.2 (.inr hx)
  refine ⟨hp, ⟨ris_insert T.ris hnp, hd, by rw [hlen, len_ins _ hp], T.mok, fun x hx => ?_, fun i h' j' h1 h2 => ?_⟩, ?_⟩
  · rw [hpp] at hx
    rcases mem_ins.1 hx with rfl | z
    · rw [← hj]; exact wayG_le
    · exact T.bd x z
  · show ∃ k, way t.mask h' k = j' ∧ ∀ k', k' < k → way t.mask h' k' ∈ (t.put j).1.place.toList
    rw [tins_get hs hp] at h1
    rw [hpp, tins_get _ hp2] at h2
    by_cases c : i < SetTable.below t.place j
    · rw [if_pos c] at h1 h2
      obtain ⟨k, e, z⟩ := T.reach i h' j' h1 h2
      exact ⟨k, e, fun k' hk' => up _ (z k' hk')⟩
    · rw [if_neg c] at h1 h2
      by_cases d : i = SetTable.below t.place j
      · rw [if_pos d] at h1 h2
        cases h1; cases h2
        exact ⟨K, hj, fun k' hk' => up _ (hb k' hk')⟩
      · rw [if_neg d] at h1 h2
        obtain ⟨k, e, z⟩ := T.reach (i - 1) h' j' h1 h2
        exact ⟨k, e, fun k' hk' => up _ (z k' hk')⟩
  · show (t.put j).1.place.size + (t.put j).1.dummies.size = hs.length + 1
    rw [hd, ← Array.length_toList, hlen]; rfl
end
/-! a table laid anew -/
theorem freeG {m : Nat} (hm : MaskG m) (owner : Array (Option Nat)) (h : Int) {j : Nat} (hj : j ≤ m) (hf : oAt owner j = none) :
    ∃ K, SetTable.layClean.free m owner (SetTable.turns m) (SetTable.bits h % (m + 1)) (SetTable.bits h) = some (way m h K) ∧ oAt owner (way m h K) = none ∧ ∀ k, k < K → oAt owner (way m h k) ≠ none := by
  obtain ⟨n, hn, e⟩ := run_meetsG hm h hj
  have hw : way m h (off m (SetTable.bits h % (m + 1)) (SetTable.bits h) n) = j := by
    have h1 := nth_off m n (SetTable.bits h % (m + 1)) (SetTable.bits h)
    rw [itL_run] at h1
    exact (congrArg SetTable.Probe.j h1).trans e
  obtain ⟨K, k1, k2, k3⟩ := st_least (p := fun k => oAt owner (way m h k) = none) (off m (SetTable.bits h % (m + 1)) (SetTable.bits h) n) (by show oAt owner (way m h _) = none; rw [hw]; exact hf)
  refine ⟨K, free_spec m owner (SetTable.turns m) n _ _ K (by unfold SetTable.turns; omega) k1 (fun k hk => ?_) ?_, k2, k3⟩
  · have q := k3 k hk
    show (oAt owner (way m h k)).isNone = false
    cases z : oAt owner (way m h k) with
    | none => exact (q z).elim
    | some _ => rfl
  · show (oAt owner (way m h K)).isNone = true
    rw [show oAt owner (way m h K) = none from k2]; rfl
theorem ownG_step {m : Nat} (hm : MaskG m) {done : List Int} {owner : Array (Option Nat)} (W : Own m done owner) (hl : done.length ≤ m) (h : Int) :
    ∃ j, SetTable.layClean.free m owner (SetTable.turns m) (SetTable.bits h % (m + 1)) (SetTable.bits h) = some j ∧ Own m (done ++ [h]) (owner.setIfInBounds j (some done.length)) := by
  obtain ⟨ps, hps, hin⟩ := W.ps
  obtain ⟨j0, h0, hn0⟩ := st_missing ps (m + 1) (by omega)
  have hj0 : oAt owner j0 = none := by
    cases z : oAt owner j0 with
    | none => rfl
    | some k => exact (hn0 (hin j0 (Nat.le_of_lt_succ h0) (by rw [z]; exact fun e => nomatch e))).elim
  obtain ⟨K, e1, e2, e3⟩ := freeG hm owner h (Nat.le_of_lt_succ h0) hj0
  have hjm : way m h K ≤ m := wayG_le
  have hself := oAt_set_self (some done.length) (show way m h K < owner.size by rw [W.sz]; omega)
  have other : ∀ i, i ≠ way m h K → oAt (owner.setIfInBounds (way m h K) (some done.length)) i = oAt owner i := fun i c => oAt_set_ne _ c
  have mono : ∀ i, oAt owner i ≠ none → oAt (owner.setIfInBounds (way m h K) (some done.length)) i ≠ none := fun i hi => by
    by_cases c : i = way m h K
    · subst c; exact (hi e2).elim
    · rw [other i c]; exact hi
  refine ⟨_, e1, by rw [Array.size_setIfInBounds]; exact W.sz, fun j k hj e => ?_, fun k hk => ?_, way m h K :: ps, by simp [hps], fun j hj e => ?_⟩
  · by_cases c : j = way m h K
    · subst c
      rw [hself] at e
      cases e
      exact ⟨h, K, by simp, rfl, fun k' hk' => mono _ (e3 k' hk')⟩
    · rw [other j c] at e
      obtain ⟨h', K', a1, a2, a3⟩ := W.at_ j k hj e
      exact ⟨h', K', by rw [List.getElem?_append_left (List.getElem?_eq_some_iff.mp a1).1]; exact a1, a2, fun k' hk' => mono _ (a3 k' hk')⟩
  · rw [List.length_append, List.length_singleton] at hk
    by_cases c : k < done.length
    · obtain ⟨j, hj, e⟩ := W.all k c
      exact ⟨j, hj, by rw [other j fun z => by rw [z, e2] at e; cases e]; exact e⟩
    · exact ⟨way m h K, hjm, by rw [hself, show k = done.length by omega]⟩
  · by_cases c : j = way m h K
    · rw [c]; exact List.mem_cons_self
    · rw [other j c] at e
      exact List.mem_cons_of_mem _ (hin j hj e)
theorem foldG {m : Nat} (hm : MaskG m) : ∀ (rest done : List Int) (owner : Array (Option Nat)), Own m done owner → done.length + rest.length ≤ m →
    ∃ owner', rest.foldl (stepF m) (some (owner, done.length)) = some (owner', (done ++ rest).length) ∧ Own m (done ++ rest) owner'
  | [], done, owner, W, _ => ⟨owner, by rw [List.append_nil]; rfl, by rw [List.append_nil]; exact W⟩
  | h :: rest, done, owner, W, hl => by
    rw [List.length_cons] at hl
    obtain ⟨j, e, W'⟩ := ownG_step hm W (by omega) h
    have hl' : (done ++ [h]).length = done.length + 1 := List.length_append
    obtain ⟨owner', f, W2⟩ := foldG hm rest (done ++ [h]) _ W' (by rw [hl']; omega)
    rw [hl', show done ++ [h] ++ rest = done ++ h :: rest by simp] at f
    rw [show done ++ [h] ++ rest = done ++ h :: rest by simp] at W2
    exact ⟨owner', by rw [List.foldl_cons, stepF_some e]; exact f, W2⟩
theorem relaidG (t : SetTable) {hs : Array Int} {wanted M : Nat} (hw : SetTable.sizeAbove wanted - 1 = M) (hM : MaskG M) (hn : hs.size ≤ M) :
    ∃ t' order, t.relaid hs wanted = some (t', order) ∧ order.toList.Perm (List.range hs.size) ∧ TabG t' (order.toList.map fun i => hs.getD i 0) ∧ t'.mask = M ∧ t'.led = t.led ∧ t'.plain = t.plain := by
  obtain ⟨owner, f, W⟩ := foldG hM hs.toList [] _ (Own.init M) (by rw [Array.length_toList]; show 0 + hs.size ≤ M; omega)
  rw [List.nil_append] at f W
  have e : SetTable.layClean M hs = some owner := by
    rw [layClean_eq]
    have f' : hs.toList.foldl (stepF M) (some (Array.replicate (M + 1) none, 0)) = some (owner, hs.toList.length) := f
    rw [f']; rfl
  have hr : t.relaid hs wanted = some (tabOf t M owner, ((liveOf M owner).map (·.2)).toArray) := by
    rw [relaid_eq, hw, e]; rfl
  obtain ⟨r1, r2⟩ := ris_live (fun j => owner.getD j none) (List.range (M + 1)) (by unfold Ris; exact List.pairwise_lt_range)
  have r1 : Ris ((liveOf M owner).map (·.1)) := r1
  have r2 : ∀ x ∈ (liveOf M owner).map (·.1), x ∈ List.range (M + 1) := r2
  have hall : ∀ k, k < hs.size → k ∈ (liveOf M owner).map (·.2) := fun k hk => by
    obtain ⟨j, b1, b2⟩ := W.all k (by rw [Array.length_toList]; exact hk)
    exact List.mem_map.mpr ⟨(j, k), (mem_live W.sz).2 ⟨b1, b2⟩, rfl⟩
  have hlen : (liveOf M owner).length = hs.size := by
    obtain ⟨ps, p1, p2⟩ := W.ps
    have a := nat_nodup_len ((liveOf M owner).map (·.1)) ps (List.Pairwise.imp (fun {a b} (h : a < b) => Nat.ne_of_lt h) (show List.Pairwise (· < ·) ((liveOf M owner).map (·.1)) from r1)) fun x hx => by
      obtain ⟨⟨y, k⟩, hq, rfl⟩ := List.mem_map.mp hx
      obtain ⟨b1, b2⟩ := (mem_live W.sz).1 hq
      exact p2 y b1 (by rw [b2]; exact fun z => nomatch z)
    have b := nat_nodup_len (List.range hs.size) ((liveOf M owner).map (·.2)) List.nodup_range fun k hk => hall k (List.mem_range.mp hk)
    rw [List.length_map, p1] at a
    rw [List.length_map, List.length_range] at b
    have hz : hs.toList.length = hs.size := Array.length_toList
    omega
  refine ⟨_, _, hr, perm_range hs.size _ ?_ hall, ⟨r1, rfl, ?_, hM, fun x hx => Nat.le_of_lt_succ (List.mem_range.mp (r2 x hx)), fun i h j h1 h2 => ?_⟩, rfl, rfl, rfl⟩
  · show ((liveOf M owner).map (·.2)).length = hs.size
    rw [List.length_map]; exact hlen
  · show ((liveOf M owner).map (·.1)).length = (((liveOf M owner).map (·.2)).map fun i => hs.getD i 0).length
    rw [List.length_map, List.length_map, List.length_map]
  · have h1 : (((liveOf M owner).map (·.2)).map fun i => hs.getD i 0)[i]? = some h := h1
    have h2 : ((liveOf M owner).map (·.1))[i]? = some j := h2
    rw [List.getElem?_map, List.getElem?_map] at h1
    rw [List.getElem?_map] at h2
    cases hq : (liveOf M owner)[i]? with
    | none => rw [hq] at h2; cases h2
    | some q =>
      obtain ⟨y, k⟩ := q
      rw [hq] at h1 h2
      cases h2
      have eh : hs.getD k 0 = h := Option.some.inj h1
      obtain ⟨b1, b2⟩ := (mem_live W.sz).1 (List.mem_of_getElem? hq)
      obtain ⟨h0, K, a1, a2, a3⟩ := W.at_ y k b1 b2
      have e0 : hs.getD k 0 = h0 := by
        rw [Array.getD_eq_getD_getElem?, ← Array.getElem?_toList, a1]; rfl
      have ehh : h0 = h := e0.symm.trans eh
      subst ehh
      refine ⟨K, a2, fun k' hk' => ?_⟩
      show way M h0 k' ∈ (liveOf M owner).map (·.1)
      cases z : oAt owner (way M h0 k') with
      | none => exact (a3 k' hk' z).elim
      | some k2 => exact List.mem_map.mpr ⟨(way M h0 k', k2), (mem_live W.sz).2 ⟨wayG_le, z⟩, rfl⟩
end Py
end
section
set_option maxHeartbeats 4000000
namespace Py
open PySem PySem.Spec PyProof.Rows L2 LamX

/-! ### small questions asked of nested keys -/
section
variable {P : Program} {w : World}
def ClassAt (P : Program) (w : World) (n : Nat) (s : Shared) (v : Value) : Prop := ∀ (A : Around) (E : Value → Shared → Prop) (Q : Bool → Shared → Prop), Q false s → wpAny (model P w) A (ofAClassStatement n v) Q E s
def HashAt (P : Program) (w : World) (n : Nat) (s : Shared) (v : Value) : Prop := ∀ (A : Around) (E : Value → Shared → Prop) (Q : Bool → Shared → Prop), (∀ b, Q b s) → wpAny (model P w) A (hashByValue n v) Q E s
theorem ClassAt.tuple {n : Nat} {s : Shared} {a : Addr} {o : Obj} {vs : Array Value} {m : Nat} (ho : s.heap.get? a = some o) (hc : o.cls = .type "tuple") (hd : o.data = .seq vs m) (hq : ∀ v ∈ vs.toList, ClassAt P w n s v) : ClassAt P w (n + 1) s (.ref a) := fun A E Q h => by
  have hT : s.TypeIs (.ref a) "tuple" := ⟨o, ho, hc⟩
  unfold ofAClassStatement
  refine wpAny_bind (wpAny_typeOf hT ?_)
  dsimp only
  have e : (("tuple" : String) == "tuple") = true := by decide
  simp only [e, if_true, Bool.not_true, Bool.false_eq_true, if_false]
  try refine wpAny_bind (wpAny_pure ?_)
  try simp only [Bool.not_true, Bool.false_eq_true, if_false]
  show wpAny _ _ (seqItems? (.ref a) >>= _) _ _ s
  refine wpAny_bind (wpAny_seqItems ho hd ?_)
  dsimp only
  refine wpAny_bind ?_
  show wpAny _ _ (forIn vs _ _) _ _ s
  rw [← Array.forIn_toList]
  refine wpAny_forIn_list _ (fun rest r s' => r.1 = none ∧ s' = s ∧ ∀ v ∈ rest, ClassAt P w n s v) _ ?_ ?_ _ _ ⟨rfl, rfl, hq⟩
  · rintro v rest r s' ⟨hr, rfl, hall⟩
    refine wpAny_bind (hall v List.mem_cons_self _ _ _ ?_)
    simp only [Bool.false_eq_true, if_false]
    exact wpAny_pure ⟨rfl, rfl, fun u hu' => hall u (List.mem_cons_of_mem _ hu')⟩
  · rintro ⟨r1, r2⟩ s' ⟨hr, rfl, _⟩
    simp only at hr
    subst hr
    exact wpAny_pure h
theorem HashAt.tuple {n : Nat} {s : Shared} {a : Addr} {o : Obj} {vs : Array Value} {m : Nat} (ho : s.heap.get? a = some o) (hc : o.cls = .type "tuple") (hd : o.data = .seq vs m) (hq : ∀ v ∈ vs.toList, HashAt P w n s v) : HashAt P w (n + 1) s (.ref a) := fun A E Q h => by
  have hT : s.TypeIs (.ref a) "tuple" := ⟨o, ho, hc⟩
  unfold hashByValue
  refine wpAny_bind (wpAny_specialOf hT F.slot_tuple_hash.lookup ?_)
  show wpAny _ _ (seqItems? (.ref a) >>= _) _ _ s
  refine wpAny_bind (wpAny_seqItems ho hd ?_)
  refine wpAny_bind ?_
  show wpAny _ _ (forIn vs _ _) _ _ s
  rw [← Array.forIn_toList]
  refine wpAny_forIn_list _ (fun rest r s' => s' = s ∧ ∀ v ∈ rest, HashAt P w n s v) _ ?_ ?_ _ _ ⟨rfl, hq⟩
  · rintro v rest r s' ⟨rfl, hall⟩
    refine wpAny_bind (hall v List.mem_cons_self _ _ _ fun b => ?_)
    cases b with
    | true =>
      simp only [Bool.not_true, Bool.false_eq_true, if_false]
      exact wpAny_pure ⟨rfl, fun u hu' => hall u (List.mem_cons_of_mem _ hu')⟩
    | false =>
      simp only [Bool.not_false, if_true]
      exact wpAny_pure (wpAny_pure (h false))
  · rintro ⟨r1, r2⟩ s' ⟨rfl, _⟩
    cases r1 with
    | none => exact wpAny_pure (h true)
    | some b => exact wpAny_pure (h b)
mutual
theorem class_key : ∀ (k : NestedKey) (v : Value) (n : Nat) (s : Shared), NestedIs s.heap k v → k.depth ≤ n → ClassAt P w n s v
  | .none, _, n, s, x, _ => by cases x; intro A E Q h; cases n <;> exact wpAny_pure h
  | .num i, _, n, s, x, _ => by cases x <;> (intro A E Q h; cases n <;> exact wpAny_pure h)
  | .text y, _, n, s, x, _ => by cases x; intro A E Q h; cases n <;> exact wpAny_pure h
  | .tup ks, _, n, s, x, hn => by
    cases x with
    | tup hg hc hd hk =>
      simp only [NestedKey.depth] at hn
      cases n with
      | zero => omega
      | succ n => exact .tuple hg hc hd (class_keys ks _ n s hk (by omega))
theorem class_keys : ∀ (ks : List NestedKey) (vs : List Value) (n : Nat) (s : Shared), NestedAll s.heap ks vs → NestedKey.depthAll ks ≤ n → ∀ v ∈ vs, ClassAt P w n s v
  | [], _, n, s, x, _, v, hv => by cases x; cases hv
  | k :: ks, _, n, s, x, hn, v, hv => by
    cases x with
    | cons x1 x2 =>
      simp only [NestedKey.depthAll] at hn
      rcases List.mem_cons.mp hv with e | hv
      · rw [e]; exact class_key k _ n s x1 (by omega)
      · exact class_keys ks _ n s x2 (by omega) v hv
end
mutual
theorem hash_key : ∀ (k : NestedKey) (v : Value) (n : Nat) (s : Shared), NestedIs s.heap k v → k.depth ≤ n → HashAt P w n s v
  | .none, _, n, s, x, _ => by cases x; intro A E Q h; cases n <;> exact wpAny_pure (h _)
  | .num i, _, n, s, x, _ => by cases x <;> (intro A E Q h; cases n <;> exact wpAny_pure (h _))
  | .text y, _, n, s, x, _ => by cases x; intro A E Q h; cases n <;> exact wpAny_pure (h _)
  | .tup ks, _, n, s, x, hn => by
    cases x with
    | tup hg hc hd hk =>
      simp only [NestedKey.depth] at hn
      cases n with
      | zero => omega
      | succ n => exact .tuple hg hc hd (hash_keys ks _ n s hk (by omega))
theorem hash_keys : ∀ (ks : List NestedKey) (vs : List Value) (n : Nat) (s : Shared), NestedAll s.heap ks vs → NestedKey.depthAll ks ≤ n → ∀ v ∈ vs, HashAt P w n s v
  | [], _, n, s, x, _, v, hv => by cases x; cases hv
  | k :: ks, _, n, s, x, hn, v, hv => by
    cases x with
    | cons x1 x2 =>
      simp only [NestedKey.depthAll] at hn
      rcases List.mem_cons.mp hv with e | hv
      · rw [e]; exact hash_key k _ n s x1 (by omega)
      · exact hash_keys ks _ n s x2 (by omega) v hv
end
end
/-- a row of a set of tuples -/
def TupP (h : Heap) (p : Value × NestedKey) : Prop := ∃ a, p.1 = .ref a ∧ NestedIs h p.2 (.ref a) ∧ p.2.depth ≤ 8
def rwL (w : World) (L : KL) : List (Int × Value) := L.map fun p => (p.2.hash w, p.1)
def hsL (w : World) (L : KL) : List Int := L.map fun p => p.2.hash w
def Mask6 (m : Nat) : Prop := m = 7 ∨ m = 31 ∨ m = 127 ∨ m = 511 ∨ m = 2047 ∨ m = 8191
theorem mask6 {m : Nat} (h : Mask6 m) : MaskG m := by
  rcases h with h | h | h | h | h | h <;> subst h
  · exact maskG (k := 2) rfl
  · exact maskG (k := 4) rfl
  · exact maskG (k := 6) rfl
  · exact maskG (k := 8) rfl
  · exact maskG (k := 10) rfl
  · exact maskG (k := 12) rfl
structure TupT (w : World) (S : Addr) (h : Heap) (L : KL) (es : Array (Int × Value)) (ep : Nat) (t : SetTable) : Prop where
  ob : ∃ o, h.get? S = some o ∧ o.ExactSet ∧ o.data = .set es ep t
  rows : es.toList = rwL w L
  tab : TabG t (hsL w L)
  nd : (L.map (·.2)).Nodup
  tup : ∀ p ∈ L, TupP h p
  led : w.params.followText "set-order" = true ∨ t.led = true
  room : L.length * 5 < t.mask * 3
  m6 : Mask6 t.mask
  few : L.length < 4095
section
variable {P : Program} {w : World} {A : Around} {E : Value → Shared → Prop} {s : Shared} {S : Addr} {L : KL} {es : Array (Int × Value)} {ep : Nat} {t : SetTable}
theorem rwL_len : (rwL w L).length = L.length := List.length_map _
theorem hsL_len : (hsL w L).length = L.length := List.length_map _
theorem TupT.size (R : TupT w S s.heap L es ep t) : es.size = L.length := by rw [← Array.length_toList, R.rows, rwL_len]
theorem TupT.fits (R : TupT w S s.heap L es ep t) : t.fits es.size = true := by
  have h1 := R.tab.size
  rw [hsL_len] at h1
  have h3 := R.room
  unfold SetTable.fits SetTable.fill
  rw [R.tab.dm, R.size, Bool.and_eq_true, beq_iff_eq, decide_eq_true_eq]
  refine ⟨h1, ?_⟩
  show t.place.size + 0 ≤ t.mask
  omega
theorem TupT.entry (R : TupT w S s.heap L es ep t) {i : Nat} {p : Value × NestedKey} (h : L[i]? = some p) : es[i]? = some (p.2.hash w, p.1) := by
  rw [← Array.getElem?_toList, R.rows]
  unfold rwL
  rw [List.getElem?_map, h]; rfl
theorem nth_dm {m : Nat} : ∀ (n : Nat) (p : SetTable.Probe), p.dummy = none → (nth m p n).dummy = none
  | 0, p, h => h
  | n + 1, p, h => nth_dm n (adv m p) (by unfold adv; split <;> exact h)
/-- the search, from the c-th step of the way on -/
theorem tup_from (R : TupT w S s.heap L es ep t) {x : Addr} {k : NestedKey} (hx : NestedIs s.heap k (.ref x)) (hdx : k.depth ≤ 8) (hu : A.units + 8 < cLine) {K : Nat} (hKf : K < 10 * SetTable.turns t.mask)
    (hK : way t.mask (k.hash w) K ∉ t.place.toList) (hKb : ∀ c, c < K → way t.mask (k.hash w) c ∈ t.place.toList) {Q : SetFound → Shared → Prop}
    (hin : k ∈ L.map (·.2) → Q (.there none) s) (hout : k ∉ L.map (·.2) → Q (.free (way t.mask (k.hash w) K) false) s) :
    ∀ (f c : Nat) (stand : Option SetTable.Probe), stand.getD (t.probeStart (k.hash w)) = nth t.mask (runAt t.mask (SetTable.bits (k.hash w) % (t.mask + 1)) (SetTable.bits (k.hash w))) c → c ≤ K → K - c < f →
      (∀ (i : Nat) p, L[i]? = some p → p.2 = k → ∃ c', c ≤ c' ∧ c' < K ∧ t.place.toList[i]? = some (way t.mask (k.hash w) c')) →
      wpAny (model P w) A (setSearchFrom S (.ref x) (k.hash w) true f stand) Q E s
  | 0, c, stand, _, _, hf, _ => absurd hf (Nat.not_lt_zero _)
  | f + 1, c, stand, hst, hc, hf, hre => by
    obtain ⟨o, ho, hex, hd⟩ := R.ob
    have hgw : ¬ t.gaveWay = true := by
      unfold SetTable.gaveWay
      rw [(mask6 R.m6).1]
      decide
    rw [setSearchFrom_succ]
    refine wpAny_bind (wpAny_setState_of ho hd R.fits ?_)
    dsimp only
    refine wp_if_neg hgw ?_
    try refine wpAny_bind (wpAny_pure ?_)
    generalize hst0 : runAt t.mask (SetTable.bits (k.hash w) % (t.mask + 1)) (SetTable.bits (k.hash w)) = p0 at hst
    have hw : ∀ q, (nth t.mask (nth t.mask p0 c) q).j = way t.mask (k.hash w) (c + q) := fun q => by rw [← nth_add, ← hst0]
    have spec := go_spec t R.tab.ris R.tab.dm (fun i => (es[i]?.map (·.1)).getD 0) (k.hash w) (10 * SetTable.turns t.mask) (K - c) (nth t.mask p0 c) (nth_dm c p0 (by rw [← hst0]; rfl)) (by omega)
      (fun q hq => by rw [hw]; exact hKb (c + q) (by omega)) (by rw [hw, show c + (K - c) = K by omega]; exact hK)
    have hashAt : ∀ (i : Nat) p, L[i]? = some p → (fun i => (es[i]?.map (·.1)).getD 0) i = p.2.hash w := fun i p hp => by
      show (es[i]?.map (·.1)).getD 0 = _
      rw [R.entry hp]; rfl
    rcases spec with ⟨q, i, hq, hi, hh, hno, hpr⟩ | ⟨hno, hpr⟩
    · have hpr' : t.probe (fun i => (es[i]?.map (·.1)).getD 0) (k.hash w) (stand.getD (t.probeStart (k.hash w))) = some (.candidate (way t.mask (k.hash w) (c + q)) i (nth t.mask p0 (c + (q + 1)))) := by
        rw [hst, ← hw, nth_add t.mask c p0 (q + 1)]
        exact hpr
      rw [hpr']
      dsimp only
      rw [hw] at hi
      have hil : i < L.length := by
        have h1 : i < t.place.toList.length := (List.getElem?_eq_some_iff.mp hi).1
        rw [R.tab.sz, hsL_len] at h1
        exact h1
      have hp : L[i]? = some L[i] := List.getElem?_eq_getElem hil
      generalize hpe : L[i] = p at hp
      have hmem : p ∈ L := List.mem_of_getElem? hp
      obtain ⟨b, hb1, hb2, hb3⟩ := R.tup p hmem
      have rest : wpAny (model P w) A (searchRest S (.ref x) (k.hash w) true f es t (way t.mask (k.hash w) (c + q)) i (nth t.mask p0 (c + (q + 1)))) Q E s := by
        unfold searchRest
        rw [R.entry hp, hb1]
        dsimp only
        refine wpAny_bind (wpAny_holding ((nestedKind P w).eqBool (x := p.2) (y := k) hu ⟨hb2, hb3⟩ ⟨hx, hdx⟩ ?_))
        refine wpAny_bind (wpAny_setState_of ho hd R.fits ?_)
        dsimp only
        by_cases hkk : p.2 = k
        · refine wp_if_pos (by simp [hkk]) ?_
          exact wpAny_pure (hin (List.mem_map.mpr ⟨p, hmem, hkk⟩))
        · refine wp_if_neg (by simp [hkk]) ?_
          try refine wpAny_bind (wpAny_pure ?_)
          rw [sameMem]
          dsimp only
          have hsl : t.slot (way t.mask (k.hash w) (c + q)) = .live i := slot_live R.tab.ris hi
          simp only [if_true, hsl, R.entry hp, hb1]
          refine wpAny_bind (wpAny_isSame_ref_self (wpAny_bind (wpAny_pure ?_)))
          simp only [if_true]
          refine wp_if_neg (by simp [hkk]) ?_
          refine tup_from R hx hdx hu hKf hK hKb hin hout f (c + (q + 1)) _ (by rw [hst0]; rfl) (by omega) (by omega) fun i0 p0' h0 hk0 => ?_
          obtain ⟨c', a1, a2, a3⟩ := hre i0 p0' h0 hk0
          refine ⟨c', ?_, a2, a3⟩
          rcases Nat.lt_trichotomy c' (c + q) with z | z | z
          · exfalso
            refine hno (c' - c) i0 (by omega) (by rw [hw, show c + (c' - c) = c' by omega]; exact a3) ?_
            exact (hashAt i0 p0' h0).trans (by rw [hk0])
          · exfalso
            rw [z] at a3
            have s0 := slot_live R.tab.ris a3
            rw [hsl] at s0
            injection s0 with s0
            rw [← s0, hp] at h0
            exact hkk ((congrArg Prod.snd (Option.some.inj h0)).trans hk0)
          · omega
      by_cases hl : t.led = true
      · refine wp_if_neg (by simp [hl]) ?_
        try refine wpAny_bind (wpAny_pure ?_)
        exact rest
      · refine wp_if_pos (by simp [hl]) ?_
        refine wpAny_bind ?_
        have hall : ∀ y ∈ ((es.filter (·.1 == k.hash w)).toList.map (·.2)), ∃ p ∈ L, y = p.1 := fun y hy => by
          obtain ⟨e, he, rfl⟩ := List.mem_map.mp hy
          have he2 : e ∈ es.toList := by
            have : e ∈ es.filter (·.1 == k.hash w) := by simpa using he
            simpa using (Array.mem_filter.mp this).1
          rw [R.rows] at he2
          obtain ⟨p2, hp2, e2⟩ := List.mem_map.mp he2
          exact ⟨p2, hp2, by rw [← e2]⟩
        unfold searchCouldBeSeen
        refine wpAny_bind ?_
        refine wpAny_forIn_list _ (fun rest r s' => r.1 = none ∧ s' = s ∧ ∀ y ∈ rest, ∃ p ∈ L, y = p.1) _ ?_ ?_ _ _ ⟨rfl, rfl, hall⟩
        · rintro v rest' r s' ⟨hr, rfl, hy⟩
          obtain ⟨pv, hpv, rfl⟩ := hy v List.mem_cons_self
          obtain ⟨b', hb1', hb2', hb3'⟩ := R.tup pv hpv
          have rest'' : ∀ y ∈ rest', ∃ p ∈ L, y = p.1 := fun u hu' => hy u (List.mem_cons_of_mem _ hu')
          rw [hb1']
          dsimp only
          by_cases hv : (x == b' || (carriedByValue (.ref x) && carriedByValue (.ref b'))) = true
          · refine wp_if_pos hv ?_
            exact wpAny_pure ⟨rfl, rfl, rest''⟩
          · refine wp_if_neg hv ?_
            refine wpAny_bind (quiet_key _ _ 8 _ hx hdx _ _ _ ?_)
            simp only [Bool.not_true, Bool.false_eq_true, if_false]
            refine wpAny_bind (quiet_key _ _ 8 _ hb2' hb3' _ _ _ ?_)
            simp only [Bool.not_true, Bool.false_eq_true, if_false]
            refine wpAny_bind (class_key _ _ 8 _ hx hdx _ _ _ ?_)
            simp only [Bool.false_eq_true, if_false]
            refine wpAny_bind (class_key _ _ 8 _ hb2' hb3' _ _ _ ?_)
            simp only [Bool.false_eq_true, if_false]
            exact wpAny_pure ⟨rfl, rfl, rest''⟩
        · rintro ⟨r1, r2⟩ s' ⟨hr, rfl, _⟩
          simp only at hr
          subst hr
          refine wpAny_pure ?_
          refine wp_if_neg (by decide) ?_
          try refine wpAny_bind (wpAny_pure ?_)
          exact rest
    · have hpr' : t.probe (fun i => (es[i]?.map (·.1)).getD 0) (k.hash w) (stand.getD (t.probeStart (k.hash w))) = some (.empty (way t.mask (k.hash w) K) none) := by
        have e2 : way t.mask (k.hash w) K = (nth t.mask (nth t.mask p0 c) (K - c)).j := by rw [hw, show c + (K - c) = K by omega]
        rw [hst, e2]
        exact hpr
      rw [hpr']
      dsimp only
      refine wpAny_pure (hout fun hm => ?_)
      obtain ⟨p1, h0, hk0⟩ := List.mem_map.mp hm
      obtain ⟨i0, hi0, e0⟩ := List.getElem_of_mem h0
      have h00 : L[i0]? = some p1 := by rw [List.getElem?_eq_getElem hi0, e0]
      obtain ⟨c', a1, a2, a3⟩ := hre i0 p1 h00 hk0
      refine hno (c' - c) i0 (by omega) (by rw [hw, show c + (c' - c) = c' by omega]; exact a3) ?_
      exact (hashAt i0 p1 h00).trans (by rw [hk0])
theorem tup_search (R : TupT w S s.heap L es ep t) {x : Addr} {k : NestedKey} (hx : NestedIs s.heap k (.ref x)) (hdx : k.depth ≤ 8) (hu : A.units + 8 < cLine) {Q : SetFound → Shared → Prop}
    (hin : k ∈ L.map (·.2) → Q (.there none) s)
    (hout : ∀ K, k ∉ L.map (·.2) → way t.mask (k.hash w) K ∉ t.place.toList → (∀ c, c < K → way t.mask (k.hash w) c ∈ t.place.toList) → Q (.free (way t.mask (k.hash w) K) false) s) :
    wpAny (model P w) A (setSearch S (.ref x) (k.hash w) true) Q E s := by
  have hroom := R.room
  obtain ⟨K, hKf, hK, hKb⟩ := R.tab.first (by rw [hsL_len]; omega) (k.hash w)
  have hbig : K < 100000 := by
    have : 10 * SetTable.turns t.mask ≤ 82060 := by
      unfold SetTable.turns
      rcases R.m6 with e | e | e | e | e | e <;> omega
    omega
  unfold setSearch
  refine tup_from R hx hdx hu hKf hK hKb hin (fun hn => hout K hn hK hKb) 100000 0 none rfl (Nat.zero_le _) (by omega) fun i p hp hk => ?_
  have hi : (hsL w L)[i]? = some (k.hash w) := by unfold hsL; rw [List.getElem?_map, hp, ← hk]; rfl
  have hil : i < t.place.toList.length := by
    rw [R.tab.sz, hsL_len]; exact (List.getElem?_eq_some_iff.mp hp).1
  have hj := List.getElem?_eq_getElem hil
  obtain ⟨c, hc, e⟩ := R.tab.before hK hi hj
  exact ⟨c, Nat.zero_le _, hc, by rw [hj, e]⟩
end
end Py
end
section
set_option maxHeartbeats 4000000
namespace Py
open PySem PySem.Spec PyProof.Rows L2 LamX
section
variable {P : Program} {w : World} {A : Around} {E : Value → Shared → Prop} {s : Shared} {S : Addr} {L : KL} {es : Array (Int × Value)} {ep : Nat} {t : SetTable}
theorem nested_same {h h' : Heap} {k : NestedKey} {v : Value} {o : Obj} (x : NestedIs h k v) (ho : h.get? S = some o) (hd : o.data = .set es ep t) (hs : Heap.SameBut S h h') : NestedIs h' k v :=
  NestedIs.at (fun b ob vs n hb hc => (hs.2 b fun e => by
    subst e
    rw [ho] at hb
    cases hb
    rw [hd] at hc
    cases hc).trans hb) k v x
theorem tupP_same {h h' : Heap} {p : Value × NestedKey} {o : Obj} (x : TupP h p) (ho : h.get? S = some o) (hd : o.data = .set es ep t) (hs : Heap.SameBut S h h') : TupP h' p := by
  obtain ⟨a, e, h1, h2⟩ := x
  exact ⟨a, e, nested_same h1 ho hd hs, h2⟩
theorem getD_map {α : Type} (f : α → Int) (L : List α) (es : Array Int) (h : es.toList = L.map f) {i : Nat} (hi : i < L.length) : es.getD i 0 = f L[i] := by
  rw [Array.getD_eq_getD_getElem?, ← Array.getElem?_toList, h, List.getElem?_map, List.getElem?_eq_getElem hi]; rfl
/-- rows in another order -/
theorem rows_order (L : KL) (es : Array (Int × Value)) (order : Array Nat) (hr : es.toList = rwL w L) (hp : order.toList.Perm (List.range L.length)) :
    ∃ L2 : KL, (order.filterMap (es[·]?)).toList = rwL w L2 ∧ L2.Perm L ∧ hsL w L2 = order.toList.map fun i => (es.map (·.1)).getD i 0 := by
  have hall : ∀ i ∈ order.toList, i < L.length := fun i hi => List.mem_range.mp (hp.mem_iff.mp hi)
  have ent : ∀ i (h : i < L.length), es[i]? = some ((L[i]).2.hash w, (L[i]).1) := fun i h => by
    rw [← Array.getElem?_toList, hr]
    unfold rwL
    rw [List.getElem?_map, List.getElem?_eq_getElem h]; rfl
  have hk : (es.map (·.1)).toList = L.map (fun p => p.2.hash w) := by
    rw [Array.toList_map, hr]
    unfold rwL
    rw [List.map_map]; rfl
  have key : ∀ l : List Nat, (∀ i ∈ l, i < L.length) → l.filterMap (fun i => es[i]?) = rwL w (l.filterMap fun i => L[i]?) ∧ hsL w (l.filterMap fun i => L[i]?) = l.map fun i => (es.map (·.1)).getD i 0 := by
    intro l
    induction l with
    | nil => intro _; exact ⟨rfl, rfl⟩
    | cons i l ih =>
      intro hl
      have hi := hl i List.mem_cons_self
      obtain ⟨e1, e2⟩ := ih fun j hj => hl j (List.mem_cons_of_mem _ hj)
      rw [List.filterMap_cons_some (ent i hi), List.filterMap_cons_some (List.getElem?_eq_getElem hi), e1]
      refine ⟨rfl, ?_⟩
      unfold hsL at e2 ⊢
      rw [List.map_cons, List.map_cons, e2, getD_map (fun p : Value × NestedKey => p.2.hash w) L _ hk hi]
  obtain ⟨e1, e2⟩ := key order.toList hall
  refine ⟨_, by rw [Array.toList_filterMap]; exact e1, ?_, e2⟩
  have h1 : (order.toList.filterMap fun i => L[i]?).Perm ((List.range L.length).filterMap fun i => L[i]?) := hp.filterMap _
  have h2 : ∀ (M : KL), (List.range M.length).filterMap (fun i => M[i]?) = M := by
    intro M
    induction M with
    | nil => rfl
    | cons a M ih =>
      rw [List.length_cons, List.range_succ_eq_map, List.filterMap_cons_some (by rfl : (a :: M)[0]? = some a), List.filterMap_map]
      congr 1
  rw [h2] at h1
  exact h1
theorem tup_relay {o : Obj} (ho : s.heap.get? S = some o) (hex : o.ExactSet) (hd : o.data = .set es ep t) (hrows : es.toList = rwL w L) (hf : t.fits es.size = true)
    (nd : (L.map (·.2)).Nodup) (tup : ∀ p ∈ L, TupP s.heap p) (ld : w.params.followText "set-order" = true ∨ t.led = true) (few : L.length < 4095) {wanted M : Nat}
    (hw : SetTable.sizeAbove wanted - 1 = M) (hM : Mask6 M) (hw2 : SetTable.sizeAbove wanted ≤ 8192) (hn : L.length * 5 < M * 3) {Q : Unit → Shared → Prop}
    (hQ : ∀ h' L' es' ep' t', Heap.SameBut S s.heap h' → TupT w S h' L' es' ep' t' → L'.Perm L → Q () { s with heap := h' }) : wpAny (model P w) A (setRelay S wanted) Q E s := by
  have hsl : es.size = L.length := by rw [← Array.length_toList, hrows]; exact List.length_map _
  obtain ⟨t', order, e, hp, T, em, el, _⟩ := relaidG t (hs := es.map (·.1)) (wanted := wanted) hw (mask6 hM) (by rw [Array.size_map, hsl]; omega)
  rw [Array.size_map, hsl] at hp
  obtain ⟨L2, r1, r2, r3⟩ := rows_order L es order hrows hp
  rw [← r3] at T
  have hs2 : (order.filterMap (es[·]?)).size = es.size := by
    rw [← Array.length_toList, r1]
    unfold rwL
    rw [List.length_map, r2.length_eq, hsl]
  rw [setRelay_eq]
  refine wpAny_bind (wpAny_setState_of ho hd hf ?_)
  dsimp only
  refine wp_if_neg (by rw [sizeLine_eq]; omega) ?_
  try refine wpAny_bind (wpAny_pure ?_)
  rw [e]
  dsimp only
  refine wpAny_bind ?_
  refine wp_if_neg (by rw [hs2]; simp) ?_
  try refine wpAny_bind (wpAny_pure ?_)
  refine wpAny_pure ?_
  dsimp only
  refine wpAny_storeSet_of ho hd ?_ (by rw [hs2, hsl, sizeLine_eq]; omega)
  have sb : Heap.SameBut S s.heap (s.heap.update S (Obj.putSet (order.filterMap (es[·]?)) t')) := Heap.SameBut.update ..
  refine hQ _ L2 (order.filterMap (es[·]?)) (ep + 1) t' sb ?_ r2
  refine ⟨⟨_, store_at ho hd, ⟨hex.1, hex.2.1, hex.2.2⟩, rfl⟩, r1, T, (r2.map (·.2)).nodup_iff.mpr nd, fun p hpm => tupP_same (tup p (r2.mem_iff.mp hpm)) ho hd sb, by rw [el]; exact ld, ?_, by rw [em]; exact hM, by rw [r2.length_eq]; exact few⟩
  rw [r2.length_eq, em]
  exact hn
theorem grow6 : SetTable.sizeAbove (SetTable.grown 5) = 32 ∧ SetTable.sizeAbove (SetTable.grown 19) = 128 ∧ SetTable.sizeAbove (SetTable.grown 77) = 512 ∧ SetTable.sizeAbove (SetTable.grown 307) = 2048 ∧ SetTable.sizeAbove (SetTable.grown 1229) = 8192 := by decide +kernel
theorem rw_put (L : KL) (p : Nat) (x : Value × NestedKey) : rwL w (L.take p ++ x :: L.drop p) = (rwL w L).take p ++ (x.2.hash w, x.1) :: (rwL w L).drop p := by
  unfold rwL
  rw [List.map_append, List.map_cons, List.map_take, List.map_drop]
theorem hs_put (L : KL) (p : Nat) (x : Value × NestedKey) : hsL w (L.take p ++ x :: L.drop p) = (hsL w L).take p ++ x.2.hash w :: (hsL w L).drop p := by
  unfold hsL
  rw [List.map_append, List.map_cons, List.map_take, List.map_drop]
/-- adding a tuple -/
theorem tup_add (R : TupT w S s.heap L es ep t) {p : Value × NestedKey} (hp : TupP s.heap p) (hu : A.units + 8 < cLine) (hfew : L.length + 1 < 4095) {Q : Bool → Shared → Prop}
    (hQ : ∀ b h' L' es' ep' t', Heap.SameBut S s.heap h' → TupT w S h' L' es' ep' t' → (p.2 ∈ L.map (·.2) → L' = L) → (p.2 ∉ L.map (·.2) → L'.Perm (p :: L)) → Q b { s with heap := h' }) :
    wpAny (model P w) A (setAddHashed S p.1 (p.2.hash w)) Q E s := by
  obtain ⟨o, ho, hex, hd⟩ := R.ob
  have hsl := R.size
  have hroom := R.room
  obtain ⟨v, k⟩ := p
  obtain ⟨x, e0, hx, hdx⟩ := hp
  dsimp only at e0 hx hdx hQ ⊢
  subst e0
  unfold setAddHashed
  refine wpAny_holding ?_
  rw [show (100000 : Nat) = 99999 + 1 from rfl, setAddHashedIn_succ]
  refine wpAny_bind (wpAny_setState_of ho hd R.fits ?_)
  dsimp only
  refine wp_if_neg (by simp [byScan, Value.scannable]) ?_
  try refine wpAny_bind (wpAny_pure ?_)
  refine wpAny_bind (tup_search R hx hdx hu (fun hm => ?_) fun K hm hK hb => ?_)
  · dsimp only
    exact wpAny_pure (hQ false s.heap L es ep t (Heap.SameBut.refl S s.heap) R (fun _ => rfl) fun z => absurd hm z)
  · dsimp only
    refine wpAny_bind (wpAny_setState_of ho hd R.fits ?_)
    dsimp only
    obtain ⟨q2, q3, q9⟩ := R.tab.put hK hb
    rw [hsL_len] at q2 q9
    have q4 : (t.put (way t.mask (k.hash w) K)).1.mask = t.mask := rfl
    have q5 : (t.put (way t.mask (k.hash w) K)).1.led = t.led := rfl
    have q1 : (t.put (way t.mask (k.hash w) K)).2 = SetTable.below t.place (way t.mask (k.hash w) K) := rfl
    generalize hpt : t.put (way t.mask (k.hash w) K) = pt at q1 q3 q4 q5 q9 ⊢
    obtain ⟨t1, p⟩ := pt
    dsimp only at q1 q3 q4 q5 q9 ⊢
    subst q1
    generalize hpp : SetTable.below t.place (way t.mask (k.hash w) K) = p at q2 q3 ⊢
    have hin : (SetTable.insertAt es p (k.hash w, Value.ref x)).toList = rwL w (L.take p ++ (Value.ref x, k) :: L.drop p) := by
      rw [SetTable.toList_insertAt, rw_put, R.rows]
    have pm : (L.take p ++ (Value.ref x, k) :: L.drop p).Perm ((Value.ref x, k) :: L) := put_perm L p _
    have hlen : (L.take p ++ (Value.ref x, k) :: L.drop p).length = L.length + 1 := pm.length_eq
    rw [← hs_put L p (Value.ref x, k)] at q3
    have nd1 : ((L.take p ++ (Value.ref x, k) :: L.drop p).map (·.2)).Nodup := by
      refine (pm.map (·.2)).nodup_iff.mpr ?_
      rw [List.map_cons]
      exact List.nodup_cons.mpr ⟨hm, R.nd⟩
    have hes : (SetTable.insertAt es p (k.hash w, Value.ref x)).size = L.length + 1 := by
      rw [← Array.length_toList, hin]
      unfold rwL
      rw [List.length_map, hlen]
    generalize SetTable.insertAt es p (k.hash w, Value.ref x) = es1 at hin hes ⊢
    generalize L.take p ++ (Value.ref x, k) :: L.drop p = L1 at pm hlen q3 nd1 hin
    -- the table's flag has no say
    have fin : ∀ t2 : SetTable, TabG t2 (hsL w L1) → t2.mask = t.mask → t2.led = t.led → t2.fill = L.length + 1 → t2.fits es1.size = true →
        wpAny (model P w) A (do
          storeSet S es1 t2
          if (!false && t2.tooFull) = true then do
            setRelay S (SetTable.grown (es.size + 1))
            pure true
          else pure true) Q E s := by
      intro t2 T2 m2 l2 f2 fit2
      refine wpAny_bind (wpAny_storeSet_of ho hd ?_ (by rw [hes, sizeLine_eq]; omega))
      have sb : Heap.SameBut S s.heap (s.heap.update S (Obj.putSet es1 t2)) := Heap.SameBut.update ..
      have ho1 := store_at (es' := es1) (t' := t2) ho hd
      generalize s.heap.update S (Obj.putSet es1 t2) = h1 at sb ho1 ⊢
      have tup1 : ∀ p ∈ L1, TupP h1 p := fun p hp => by
        rcases List.mem_cons.mp (pm.mem_iff.mp hp) with e | hp
        · rw [e]; exact tupP_same ⟨x, rfl, hx, hdx⟩ ho hd sb
        · exact tupP_same (R.tup p hp) ho hd sb
      have ld1 : w.params.followText "set-order" = true ∨ t2.led = true := by rw [l2]; exact R.led
      by_cases hf : t2.tooFull = true
      · refine wp_if_pos (by simp [hf]) ?_
        have hfull : (L.length + 1) * 5 ≥ t.mask * 3 := by
          have h := hf
          unfold SetTable.tooFull at h
          rw [decide_eq_true_eq, f2, m2] at h
          exact h
        rw [hsl]
        have go : ∀ M, SetTable.sizeAbove (SetTable.grown (L.length + 1)) - 1 = M → Mask6 M → SetTable.sizeAbove (SetTable.grown (L.length + 1)) ≤ 8192 → (L.length + 1) * 5 < M * 3 →
            wpAny (model P w) A (do setRelay S (SetTable.grown (L.length + 1)); pure true) Q E { s with heap := h1 } := fun M h1' h2' h3' h4' => by
          refine wpAny_bind (tup_relay (s := { s with heap := h1 }) ho1 ⟨hex.1, hex.2.1, hex.2.2⟩ rfl hin fit2 nd1 tup1 ld1 (by rw [hlen]; exact hfew) h1' h2' h3' (by rw [hlen]; exact h4') ?_)
          intro h2 L2 es2 ep2 t3 sb2 R2 pm2
          exact wpAny_pure (hQ true h2 L2 es2 ep2 t3 (sb.trans sb2) R2 (fun z => absurd z hm) fun _ => pm2.trans pm)
        obtain ⟨g1, g2, g3, g4, g5⟩ := grow6
        rcases R.m6 with e | e | e | e | e | e <;> rw [e] at hfull hroom
        · have e2 : L.length + 1 = 5 := by omega
          refine go 31 (by rw [e2, g1]) (.inr (.inl rfl)) (by rw [e2, g1]; decide) (by omega)
        · have e2 : L.length + 1 = 19 := by omega
          refine go 127 (by rw [e2, g2]) (.inr (.inr (.inl rfl))) (by rw [e2, g2]; decide) (by omega)
        · have e2 : L.length + 1 = 77 := by omega
          refine go 511 (by rw [e2, g3]) (.inr (.inr (.inr (.inl rfl)))) (by rw [e2, g3]; decide) (by omega)
        · have e2 : L.length + 1 = 307 := by omega
          refine go 2047 (by rw [e2, g4]) (.inr (.inr (.inr (.inr (.inl rfl))))) (by rw [e2, g4]; decide) (by omega)
        · have e2 : L.length + 1 = 1229 := by omega
          refine go 8191 (by rw [e2, g5]) (.inr (.inr (.inr (.inr (.inr rfl))))) (by rw [e2, g5]; decide) (by omega)
        · exfalso; omega
      · refine wp_if_neg (by simp [hf]) ?_
        refine wpAny_pure (hQ true h1 L1 es1 (ep + 1) t2 sb ⟨⟨_, ho1, ⟨hex.1, hex.2.1, hex.2.2⟩, rfl⟩, hin, T2, nd1, tup1, ld1, ?_, by rw [m2]; exact R.m6, by rw [hlen]; exact hfew⟩ (fun z => absurd z hm) fun _ => pm)
        have h := hf
        unfold SetTable.tooFull at h
        rw [decide_eq_true_eq, f2, m2] at h
        rw [hlen, m2]
        omega
    have fit1 : ∀ t2 : SetTable, t2.place = t1.place → t2.mask = t1.mask → t2.dummies = t1.dummies → t2.fits es1.size = true := by
      intro t2 a1 a2 a3
      have z1 := q3.size
      rw [show (hsL w L1).length = L1.length from List.length_map _, hlen] at z1
      unfold SetTable.fits SetTable.fill
      rw [a1, a2, a3, q3.dm, hes, Bool.and_eq_true, beq_iff_eq, decide_eq_true_eq]
      refine ⟨z1, ?_⟩
      show t1.place.size + 0 ≤ t1.mask
      rcases R.m6 with e | e | e | e | e | e <;> rw [e] at hroom <;> rw [z1, q4, e] <;> omega
    by_cases hpl : t1.plain = true
    · refine wp_if_pos hpl ?_
      refine wpAny_bind (hash_key _ _ 8 _ hx hdx _ _ _ fun b => ?_)
      cases b with
      | true =>
        simp only [if_true]
        exact fin t1 q3 q4 q5 q9 (fit1 t1 rfl rfl rfl)
      | false =>
        simp only [Bool.false_eq_true, if_false]
        exact fin { t1 with plain := false } ⟨q3.ris, q3.dm, q3.sz, q3.mok, q3.bd, q3.reach⟩ q4 q5 q9 (fit1 _ rfl rfl rfl)
    · refine wp_if_neg hpl ?_
      refine wpAny_bind (wpAny_pure ?_)
      simp only [if_true]
      exact fin t1 q3 q4 q5 q9 (fit1 t1 rfl rfl rfl)
end
end Py
end
section
set_option maxHeartbeats 2000000
namespace Py
open PySem PySem.Spec PyProof.Rows L2 LamX

/-! ### data as keys -/
mutual
def nkD : D → Option NestedKey
  | .non => some .none
  | .bl b => some (.num (if b = true then 1 else 0))
  | .int i => some (.num i)
  | .str x => some (.text x)
  | .tup l => (nkDs l).map .tup
  | _ => none
def nkDs : List D → Option (List NestedKey)
  | [] => some []
  | d :: l => match nkD d, nkDs l with
    | some k, some ks => some (k :: ks)
    | _, _ => none
end
def isLeafK : NestedKey → Bool
  | .tup _ => false
  | _ => true
section
variable {X : Cx} {T : Tb} {W : WX} {pos : Pos} {pins : List (Addr × Obj)} {σ : L2.St} {H : Hp} {s : Shared}
mutual
theorem nk_rep (I : Inv X pins σ H s) : ∀ (d : D) (v : V) (u : Value) (k : NestedKey), Rep X.K H d v → RelV v u → nkD d = some k → NestedIs s.heap k u
  | .non, v, u, k, h, r, e => by
    rw [show v = _ from h] at r; cases r; cases e; exact .none
  | .bl b, v, u, k, h, r, e => by
    rw [show v = _ from h] at r
    have r : u = Value.bool b := r
    subst r
    cases e; exact .bool rfl
  | .int i, v, u, k, h, r, e => by
    rw [show v = _ from h] at r
    obtain ⟨t, rfl⟩ := r
    cases e; exact .int _ _
  | .str x, v, u, k, h, r, e => by
    obtain ⟨_, _, rfl⟩ := h
    obtain ⟨t, rfl⟩ := r
    cases e; exact .text _ _
  | .tup l, v, u, k, h, r, e => by
    obtain ⟨z, a, xs, rfl, h1, h2⟩ := h
    cases r
    unfold nkD at e
    cases q : nkDs l with
    | none => rw [q] at e; cases e
    | some ks =>
      rw [q] at e
      cases e
      obtain ⟨its, rv, ⟨o, ho, hc, n, hd⟩, _⟩ := I.tuple h1
      exact .tup ho hc hd (by simpa using nks_rep I l xs its ks h2 rv q)
  | .lst l, v, u, k, h, r, e => by cases e
  | .dic a b, v, u, k, h, r, e => by cases e
  | .scr l, v, u, k, h, r, e => by cases e
theorem nks_rep (I : Inv X pins σ H s) : ∀ (l : List D) (xs : List V) (us : List Value) (ks : List NestedKey), Reps X.K H l xs → Vals xs us → nkDs l = some ks → NestedAll s.heap ks us
  | [], xs, us, ks, h, r, e => by
    rw [show xs = _ from h] at r; cases r; cases e; exact .nil
  | d :: l, xs, us, ks, h, r, e => by
    obtain ⟨v, vs, rfl, h1, h2⟩ := h
    cases r with
    | cons r1 r2 =>
      unfold nkDs at e
      cases q1 : nkD d with
      | none => rw [q1] at e; cases e
      | some k =>
        cases q2 : nkDs l with
        | none => rw [q1, q2] at e; cases e
        | some ks' =>
          rw [q1, q2] at e
          cases e
          exact .cons (nk_rep I d v _ k h1 r1 q1) (nks_rep I l vs _ ks' h2 r2 q2)
end
theorem leaf_of {h : Heap} {k : NestedKey} {u : Value} (x : NestedIs h k u) (e : isLeafK k = true) : LeafP (u, k) := by
  cases x with
  | none => exact ⟨.none, rfl, rfl⟩
  | @bool b i q => exact ⟨.num i, rfl, by show decide _ = true; rw [decide_eq_true_eq]; exact q.symm⟩
  | int i t => exact ⟨.num i, rfl, by show decide _ = true; rw [decide_eq_true_eq]⟩
  | text x t => exact ⟨.text x, rfl, by show Value.isStrOf x (.str x t) = true; simp [Value.isStrOf]⟩
  | tup _ _ _ _ => cases e
def pairsD : List D → Option (List (D × NestedKey))
  | [] => some []
  | d :: l => match nkD d, pairsD l with
    | some k, some ks => some ((d, k) :: ks)
    | _, _ => none
theorem pairs_of {G : Hp} (hG : ExtN G H) (I : Inv X pins σ H s) : ∀ {l : List D} {xs : List V} {us : List Value} {ps : List (D × NestedKey)}, Reps X.K G l xs → Vals xs us → pairsD l = some ps →
    ∃ ks : List ((Value × D) × NestedKey), ks.map (·.1.1) = us ∧ ks.map (fun p => (p.1.2, p.2)) = ps ∧ ∀ p ∈ ks, RU X.K G p.1.1 p.1.2 ∧ NestedIs s.heap p.2 p.1.1
  | [], xs, us, ps, h, r, e => by
    rw [show xs = _ from h] at r; cases r; cases e; exact ⟨[], rfl, rfl, fun p hp => by cases hp⟩
  | d :: l, xs, us, ps, h, r, e => by
    obtain ⟨v, vs, rfl, h1, h2⟩ := h
    cases r with
    | @cons _ u _ us' r1 r2 =>
      unfold pairsD at e
      cases q1 : nkD d with
      | none => rw [q1] at e; cases e
      | some k =>
        cases q2 : pairsD l with
        | none => rw [q1, q2] at e; cases e
        | some ps' =>
          rw [q1, q2] at e
          cases e
          obtain ⟨ks, e1, e2, e3⟩ := pairs_of hG I h2 r2 q2
          refine ⟨((u, d), k) :: ks, by rw [List.map_cons, e1], by rw [List.map_cons, e2], fun p hp => ?_⟩
          rcases List.mem_cons.mp hp with rfl | hp
          · exact ⟨⟨v, r1, h1⟩, nk_rep I d v _ k (Rep.ext hG _ _ h1) r1 q1⟩
          · exact e3 p hp
def isTupK : NestedKey → Bool
  | .tup ks => decide ((NestedKey.tup ks).depth ≤ 8)
  | _ => false
def setOk (ps : List (D × NestedKey)) : Bool := ((ps.all fun p => isLeafK p.2) && decide (ps.length + 1 < scanBound)) || ((ps.all fun p => isTupK p.2) && decide (ps.length + 1 < 4095))
theorem tup_adds {ks : KL} {h0 : Heap} {S : Addr} {P : Program} {w : World} {A : Around} (hk : ∀ p ∈ ks, TupP h0 p) (hl : ks.length < 4094) (hu : A.units + 10 < cLine) : Adds P w A h0 S ks (fun h L => (∀ p ∈ L, p ∈ ks) ∧ ∃ es ep t, TupT w S h L es ep t) where
  keep := fun h h' L ⟨sub, es, ep, t, R⟩ hS hh => ⟨sub, es, ep, t, ⟨let ⟨o, ho, r⟩ := R.ob; ⟨o, hS o ho, r⟩, R.rows, R.tab, R.nd, fun p hp => by
    obtain ⟨a, e, h1, h2⟩ := hk p (sub p hp)
    exact ⟨a, e, NestedIs.at (fun b o vs n hb _ => hh b o hb) _ _ h1, h2⟩, R.led, R.room, R.m6, R.few⟩⟩
  new := fun h ho _ => ⟨fun p hp => by (cases hp), #[], 0, _, ⟨⟨_, ho, ⟨rfl, rfl, rfl⟩, rfl⟩, rfl, ⟨List.Pairwise.nil, rfl, rfl, mask6 (.inl rfl), fun x hx => by (cases hx), fun i h j e => by (simp [hsL] at e)⟩, List.nodup_nil, fun p hp => by (cases hp), by
    show _ ∨ (!w.params.followText "set-order") = true
    cases w.params.followText "set-order"
    · exact .inr rfl
    · exact .inl rfl, by show 0 * 5 < 7 * 3; decide, .inl rfl, by show 0 < 4095; decide⟩⟩
  add := fun s E L p Q ⟨sub, es, ep, t, R⟩ _ hp hL hh hQ => by
    obtain ⟨a, e, h1, h2⟩ := hk p hp
    refine tup_add R ⟨a, e, NestedIs.at (fun b o vs n hb _ => hh b o hb) _ _ h1, h2⟩ (by omega) (by omega) fun b h' L' es' ep' t' sb R' c1 c2 => hQ b h' L' sb ⟨fun q hq => ?_, es', ep', t', R'⟩ c1 c2
    rcases Classical.em (p.2 ∈ L.map (·.2)) with c | c
    · rw [c1 c] at hq; exact sub q hq
    · rcases List.mem_cons.mp ((c2 c).mem_iff.mp hq) with rfl | z
      · exact hp
      · exact sub q z
theorem tupT_obj {w : World} {S : Addr} {h : Heap} {L : KL} {es : Array (Int × Value)} {ep : Nat} {t : SetTable} (R : TupT w S h L es ep t) : SetObj w h S L := by
  obtain ⟨o, ho, hex, hd⟩ := R.ob
  have h1 := R.tab.size
  have h3 := R.room
  have h4 := R.few
  have hs : es.size = L.length := by rw [← Array.length_toList, R.rows]; exact List.length_map _
  rw [show (hsL w L).length = L.length from List.length_map _] at h1
  refine ⟨o, es, ep, t, ho, hex, hd, ?_, R.tab.ris, R.led, by rw [R.rows]; exact List.Perm.refl _, by unfold scanBound; omega⟩
  unfold SetTable.fits SetTable.fill
  rw [R.tab.dm, hs, Bool.and_eq_true, beq_iff_eq, decide_eq_true_eq]
  refine ⟨h1, ?_⟩
  show t.place.size + 0 ≤ t.mask
  omega
theorem set_adds {ks : KL} {ps : List (D × NestedKey)} {h0 : Heap} {S : Addr} {P : Program} {w : World} (ok : setOk ps = true) (e : ks.map (·.2) = ps.map (·.2)) (hk : ∀ p ∈ ks, NestedIs h0 p.2 p.1) :
    (∀ p ∈ ks, p.2.depth ≤ 8) ∧ ∃ R, (∀ A : Around, A.units + 10 < cLine → Adds P w A h0 S ks R) ∧ ∀ h L, R h L → SetObj w h S L := by
  have hl : ks.length = ps.length := by
    have := congrArg List.length e
    simpa using this
  have at_ : ∀ p ∈ ks, ∃ q ∈ ps, q.2 = p.2 := fun p hp => by
    have h1 : p.2 ∈ ps.map (·.2) := by rw [← e]; exact List.mem_map.mpr ⟨p, hp, rfl⟩
    exact List.mem_map.mp h1
  simp only [setOk, Bool.or_eq_true, Bool.and_eq_true, decide_eq_true_eq, List.all_eq_true] at ok
  rcases ok with ok | ok
  · have lf : ∀ p ∈ ks, isLeafK p.2 = true := fun p hp => by
      obtain ⟨q, hq, e2⟩ := at_ p hp
      rw [← e2]; exact ok.1 q hq
    refine ⟨fun p hp => ?_, ScanR w S, fun A _ => scan_adds (fun p hp => leaf_of (hk p hp) (lf p hp)) (by omega), fun h L R => R.ob⟩
    have := lf p hp
    cases q : p.2 <;> rw [q] at this <;> first | cases this; done | simp [NestedKey.depth]
  · have tf : ∀ p ∈ ks, isTupK p.2 = true := fun p hp => by
      obtain ⟨q, hq, e2⟩ := at_ p hp
      rw [← e2]; exact ok.1 q hq
    have td : ∀ p ∈ ks, p.2.depth ≤ 8 ∧ TupP h0 p := fun p hp => by
      have h1 := tf p hp
      have h2 := hk p hp
      obtain ⟨v, k⟩ := p
      dsimp only at h1 h2 ⊢
      cases k with
      | tup l =>
        have h3 : (NestedKey.tup l).depth ≤ 8 := of_decide_eq_true h1
        refine ⟨h3, ?_⟩
        cases h2 with
        | tup a b c d => exact ⟨_, rfl, .tup a b c d, h3⟩
      | _ => cases h1
    exact ⟨fun p hp => (td p hp).1, _, fun A hA => tup_adds (fun p hp => (td p hp).2) (by omega) hA, fun h L ⟨_, es, ep, t, R⟩ => tupT_obj R⟩
def setL (l : List D) : Option (List D) := match pairsD l with
  | some ps => if setOk ps then some ((ddK ps).map (·.1)) else none
  | none => none
theorem setL_len {l u : List D} (e : setL l = some u) : u.length ≤ l.length := by
  unfold setL at e
  cases q : pairsD l with
  | none => rw [q] at e; cases e
  | some ps =>
    rw [q] at e
    simp only at e
    split at e
    · cases e
      have h1 := ddK_len ps
      have h2 : ∀ {l : List D} {ps}, pairsD l = some ps → ps.length = l.length := by
        intro l
        induction l with
        | nil => intro ps h; cases h; rfl
        | cons d l ih =>
          intro ps h
          unfold pairsD at h
          cases q1 : nkD d with
          | none => rw [q1] at h; cases h
          | some k =>
            cases q2 : pairsD l with
            | none => rw [q1, q2] at h; cases h
            | some ps' => rw [q1, q2] at h; cases h; rw [List.length_cons, List.length_cons, ih q2]
      rw [List.length_map, ← h2 q]; exact h1
    · cases e
/-- set(xs) -/
theorem call_setD {G : Hp} {E : Value → Shared → Prop} {A : Around} {a : Addr} {xs : List V} {l u : List D} {Q : Value → Shared → Prop} (hG : ExtN G H) (I : Inv X pins σ H s) (hh : A.handled = none) (hu : A.units + 30 < cLine) (ha : H a = some (.lst xs)) (r : Reps X.K G l xs) (e : setL l = some u)
    (h : ∀ (h' : Heap) (tk : Nat) (L : KL) (bs : List (Value × D)), SetObj X.w h' s.heap.objs.size L → (L.map (·.1)).Perm (bs.map (·.1)) → bs.map (·.2) = u → (∀ p ∈ bs, RU X.K G p.1 p.2) → (∀ b o, s.heap.get? b = some o → h'.get? b = some o) → Q (.ref s.heap.objs.size) { s with heap := h', toks := tk }) :
    wpAny (model X.prog X.w) A (call (.type "set") [.ref a]) Q E s := by
  obtain ⟨its, rv, pl, hz⟩ := I.list (SqL.of ha)
  unfold setL at e
  cases q : pairsD l with
  | none => rw [q] at e; cases e
  | some ps =>
    rw [q] at e
    simp only at e
    split at e
    · rename_i ok
      cases e
      obtain ⟨ks, e1, e2, e3⟩ := pairs_of hG I r rv q
      have hk : ∀ p ∈ ks.map (fun p => (p.1.1, p.2)), NestedIs s.heap p.2 p.1 := fun p hp => by
        obtain ⟨q, hq, rfl⟩ := List.mem_map.mp hp
        exact (e3 q hq).2
      obtain ⟨hd, R, ad, hR⟩ := set_adds (P := X.prog) (w := X.w) (S := s.heap.objs.size) (ks := ks.map fun p => (p.1.1, p.2)) ok (by rw [← e2, List.map_map, List.map_map]; rfl) hk
      refine call_setG (R := R) (ks.map fun p => (p.1.1, p.2)) hh pl.isList (by rw [List.map_map]; exact e1.symm) hk hd (by omega) (fun A' hA => ad A' (by omega)) fun h' tk L hL pm kp => ?_
      refine h h' tk L ((ddK ks).map (·.1)) (hR _ _ hL) ?_ ?_ (fun p hp => ?_) kp
      · have h1 := pm.map (·.1)
        rw [← ddK_map (fun p : Value × D => p.1) ks, List.map_map] at h1
        rw [List.map_map]
        exact h1
      · rw [← e2, ← ddK_map (fun p : Value × D => p.2) ks, List.map_map, List.map_map]
        rfl
      · obtain ⟨q, hq, rfl⟩ := List.mem_map.mp hp
        exact (e3 q (ddK_sub q hq)).1
    · cases e
/-- set(xs) -/
theorem call_setDT {G : Hp} {E : Value → Shared → Prop} {A : Around} {a : Addr} {xs : List V} {l u : List D} {Q : Value → Shared → Prop} (hG : ExtN G H) (I : Inv X pins σ H s) (hh : A.handled = none) (hu : A.units + 30 < cLine) (ha : SqT X.K H a xs) (r : Reps X.K G l xs) (e : setL l = some u)
    (h : ∀ (h' : Heap) (tk : Nat) (L : KL) (bs : List (Value × D)), SetObj X.w h' s.heap.objs.size L → (L.map (·.1)).Perm (bs.map (·.1)) → bs.map (·.2) = u → (∀ p ∈ bs, RU X.K G p.1 p.2) → (∀ b o, s.heap.get? b = some o → h'.get? b = some o) → Q (.ref s.heap.objs.size) { s with heap := h', toks := tk }) :
    wpAny (model X.prog X.w) A (call (.type "set") [.ref a]) Q E s := by
  obtain ⟨its, rv, pl, hz⟩ := I.tuple ha
  unfold setL at e
  cases q : pairsD l with
  | none => rw [q] at e; cases e
  | some ps =>
    rw [q] at e
    simp only at e
    split at e
    · rename_i ok
      cases e
      obtain ⟨ks, e1, e2, e3⟩ := pairs_of hG I r rv q
      have hk : ∀ p ∈ ks.map (fun p => (p.1.1, p.2)), NestedIs s.heap p.2 p.1 := fun p hp => by
        obtain ⟨q, hq, rfl⟩ := List.mem_map.mp hp
        exact (e3 q hq).2
      obtain ⟨hd, R, ad, hR⟩ := set_adds (P := X.prog) (w := X.w) (S := s.heap.objs.size) (ks := ks.map fun p => (p.1.1, p.2)) ok (by rw [← e2, List.map_map, List.map_map]; rfl) hk
      refine call_setGT (R := R) (ks.map fun p => (p.1.1, p.2)) hh (show s.heap.IsTuple a its.toArray from pl) (by rw [List.map_map]; exact e1.symm) hk hd (by omega) (fun A' hA => ad A' (by omega)) fun h' tk L hL pm kp => ?_
      refine h h' tk L ((ddK ks).map (·.1)) (hR _ _ hL) ?_ ?_ (fun p hp => ?_) kp
      · have h1 := pm.map (·.1)
        rw [← ddK_map (fun p : Value × D => p.1) ks, List.map_map] at h1
        rw [List.map_map]
        exact h1
      · rw [← e2, ← ddK_map (fun p : Value × D => p.2) ks, List.map_map, List.map_map]
        rfl
      · obtain ⟨q, hq, rfl⟩ := List.mem_map.mp hp
        exact (e3 q (ddK_sub q hq)).1
    · cases e
end
end Py
end
section
set_option maxHeartbeats 2000000
namespace Py
open PySem PySem.Spec PyProof.Rows L2 LamX

theorem perm_lift {α β : Type} (f : α → β) : ∀ {l : List α} {vs : List β}, vs.Perm (l.map f) → ∃ l' : List α, l'.Perm l ∧ vs = l'.map f
  | [], vs, h => ⟨[], List.Perm.refl _, by simpa using h⟩
  | x :: l, vs, h => by
    rw [List.map_cons] at h
    have hm : f x ∈ vs := h.mem_iff.mpr List.mem_cons_self
    obtain ⟨a, b, rfl⟩ := List.append_of_mem hm
    have h2 : (a ++ b).Perm (l.map f) := by
      have := List.perm_middle.symm.trans h
      exact List.Perm.cons_inv this
    obtain ⟨l', h3, h4⟩ := perm_lift f h2
    obtain ⟨l1, l2, rfl, h5, h6⟩ := List.append_eq_map_iff.mp h4
    refine ⟨l1 ++ x :: l2, List.perm_middle.trans (h3.cons x), ?_⟩
    rw [List.map_append, List.map_cons, h5, h6]
/-- rising strictly -/
def strictB (r : List D) : Bool := (r.all fun x => leD x x) && decide (r.Pairwise fun x y => leD x y = true ∧ leD y x = false)
theorem range_sorted (n : Nat) (σ : List Nat) (h : σ.Perm (List.range n)) : σ.mergeSort (fun a b => decide (a ≤ b)) = List.range n := by
  have h1 : (σ.mergeSort (fun a b => decide (a ≤ b))).Perm (List.range n) := (List.mergeSort_perm _ _).trans h
  have h2 : (σ.mergeSort (fun a b => decide (a ≤ b))).Pairwise (fun a b => decide (a ≤ b) = true) := List.pairwise_mergeSort (fun a b c h1 h2 => by simp at *; omega) (fun a b => by simp; omega) σ
  refine List.Perm.eq_of_pairwise (le := fun a b => decide (a ≤ b) = true) (fun a b _ _ h1 h2 => ?_) h2 ?_ h1
  · simp at h1 h2; omega
  · rw [List.pairwise_iff_getElem]
    intro i j hi hj hij
    simp; omega
theorem sort_of_perm {bs r : List D} (pm : bs.Perm r) (st : strictB r = true) : bs.mergeSort leD = r := by
  simp only [strictB, Bool.and_eq_true, decide_eq_true_eq, List.all_eq_true] at st
  have er : r = (List.range r.length).map (fun i => r.getD i .non) := by
    apply List.ext_getElem
    · simp
    · intro i h1 h2
      simp [List.getD, h1]
  have pm' : bs.Perm ((List.range r.length).map (fun i => r.getD i .non)) := by rw [← er]; exact pm
  obtain ⟨σ, h1, h2⟩ := perm_lift _ pm'
  have hm : ∀ i ∈ σ, i < r.length := fun i hi => List.mem_range.mp (h1.mem_iff.mp hi)
  have key : (σ.mergeSort (fun a b => decide (a ≤ b))).map (fun i => r.getD i .non) = (σ.map (fun i => r.getD i .non)).mergeSort leD := List.map_mergeSort fun a ha b hb => by
    have la := hm a ha
    have lb := hm b hb
    have ga : r.getD a .non = r[a] := by simp [List.getD, la]
    have gb : r.getD b .non = r[b] := by simp [List.getD, lb]
    rw [ga, gb]
    rcases Nat.lt_trichotomy a b with q | q | q
    · have := List.pairwise_iff_getElem.mp st.2 a b la lb q
      rw [this.1]; simp; omega
    · subst q
      rw [st.1 _ (List.getElem_mem la)]; simp
    · have := List.pairwise_iff_getElem.mp st.2 b a lb la q
      rw [this.2]; simp; omega
  rw [h2, ← key, range_sorted _ σ h1, ← er]
mutual
theorem Reads.lt {h : Heap} : ∀ (d : PyData) (v : Value) (as : List Addr), PySem.W.alike d d = true → Reads h v d as → ∀ a ∈ as, a < h.objs.size
  | .none, _, _, _, r, a, ha => by cases r; cases ha
  | .bool _, _, _, _, r, a, ha => by cases r; cases ha
  | .int _, _, _, _, r, a, ha => by cases r; cases ha
  | .str _, _, _, _, r, a, ha => by cases r; cases ha
  | .list xs, _, _, hal, r, a, ha => by
    cases r with
    | list h1 h2 h3 h4 =>
      rcases List.mem_cons.mp ha with rfl | ha
      · exact Heap.lt_size h1
      · exact ReadsAll.lt xs _ _ (by simpa [PySem.W.alike] using hal) h4 a ha
  | .tuple xs, _, _, hal, r, a, ha => by
    cases r with
    | tuple h1 h2 h3 h4 => exact ReadsAll.lt xs _ _ (by simpa [PySem.W.alike] using hal) h4 a ha
  | .dict _, _, _, hal, _, _, _ => absurd hal (by simp [PySem.W.alike])
theorem ReadsAll.lt {h : Heap} : ∀ (ds : List PyData) (vs : List Value) (as : List Addr), PySem.W.alikeAll ds ds = true → ReadsAll h vs ds as → ∀ a ∈ as, a < h.objs.size
  | [], _, _, _, r, a, ha => by cases r; cases ha
  | d :: ds, _, _, hal, r, a, ha => by
    cases r with
    | cons h1 h2 =>
      rcases List.mem_append.mp ha with ha | ha
      · exact Reads.lt d _ _ (PySem.W.alike_all_cons hal).1 h1 a ha
      · exact ReadsAll.lt ds _ _ (PySem.W.alike_all_cons hal).2 h2 a ha
end
section
variable {X : Cx} {T : Tb} {W : WX} {pos : Pos} {pins : List (Addr × Obj)} {σ : L2.St} {H : Hp} {s : Shared}
theorem each_pairs {G : Hp} {K : PySem.W.Frag} : ∀ {bs : List (Value × D)}, (∀ p ∈ bs, RU K G p.1 p.2) → PySem.W.EachIs (RU K G) (bs.map (·.1)) (bs.map (·.2))
  | [], _ => .nil
  | p :: bs, h => .cons (h p List.mem_cons_self) (each_pairs fun q hq => h q (List.mem_cons_of_mem _ hq))
/-- for the kernel: rising from place to place -/
def chainB : List D → Bool
  | x :: y :: l => ltF x y && chainB (y :: l)
  | _ => true
theorem chain_lt : ∀ (l : List D) (x : D), chainB (x :: l) = true → ∀ y ∈ l, PySem.W.dataLt (toPy x) (toPy y) = true
  | [], _, _, y, hy => by cases hy
  | z :: l, x, h, y, hy => by
    have h' : (ltF x z && chainB (z :: l)) = true := h
    rw [Bool.and_eq_true, ltF_eq] at h'
    rcases List.mem_cons.mp hy with rfl | hy
    · exact h'.1
    · exact PyProof.Rows.lex_trans (O := itemOrd) _ _ _ h'.1 (chain_lt l z h'.2 y hy)
theorem chain_pair : ∀ (l : List D), chainB l = true → l.Pairwise fun x y => PySem.W.dataLt (toPy x) (toPy y) = true
  | [], _ => .nil
  | x :: l, h => by
    refine .cons (chain_lt l x h) (chain_pair l ?_)
    cases l with
    | nil => rfl
    | cons y l =>
      have h' : (ltF x y && chainB (y :: l)) = true := h
      rw [Bool.and_eq_true] at h'
      exact h'.2
theorem lt_irr (x : D) : PySem.W.dataLt (toPy x) (toPy x) = false := PyProof.Rows.lex_irrefl (O := itemOrd) _
theorem lt_asym {x y : D} (h : PySem.W.dataLt (toPy x) (toPy y) = true) : PySem.W.dataLt (toPy y) (toPy x) = false := by
  cases q : PySem.W.dataLt (toPy y) (toPy x) with
  | false => rfl
  | true =>
    have := PyProof.Rows.lex_trans (O := itemOrd) _ _ _ h q
    have e := lt_irr x
    unfold PySem.W.dataLt at e
    rw [this] at e
    cases e
theorem chain_strict {l : List D} (h : chainB l = true) : strictB l = true := by
  simp only [strictB, Bool.and_eq_true, decide_eq_true_eq, List.all_eq_true]
  refine ⟨fun x _ => by unfold leD; rw [lt_irr]; rfl, (chain_pair l h).imp fun {a b} hab => ⟨by unfold leD; rw [lt_asym hab]; rfl, by unfold leD; rw [hab]; rfl⟩⟩
mutual
def kTok : NestedKey → List (Int ⊕ List Nat)
  | .none => []
  | .num i => [.inl i]
  | .text x => [.inr x.cps.toList]
  | .tup l => kToks l
def kToks : List NestedKey → List (Int ⊕ List Nat)
  | [] => [.inl 0]
  | k :: l => .inl 1 :: (kTok k ++ kToks l)
end
mutual
theorem nk_tok : ∀ (d : D) (k : NestedKey), nkD d = some k → PySem.W.keyToks (toPy d) = kTok k
  | .non, k, e => by cases e; simp [toPy, PySem.W.keyToks, kTok]
  | .bl b, k, e => by cases e; simp [toPy, PySem.W.keyToks, kTok]
  | .int i, k, e => by cases e; simp [toPy, PySem.W.keyToks, kTok]
  | .str x, k, e => by cases e; simp [toPy, PySem.W.keyToks, kTok]
  | .tup l, k, e => by
    have e : (nkDs l).map NestedKey.tup = some k := by simpa only [nkD] using e
    cases q : nkDs l with
    | none => rw [q] at e; cases e
    | some ks =>
      rw [q] at e; cases e
      simp only [toPy, PySem.W.keyToks, kTok]
      exact nks_tok l ks q
  | .lst _, k, e => by simp [nkD] at e
  | .scr _, k, e => by simp [nkD] at e
  | .dic _ _, k, e => by simp [nkD] at e
theorem nks_tok : ∀ (l : List D) (ks : List NestedKey), nkDs l = some ks → PySem.W.keyToksAll (toPys l) = kToks ks
  | [], ks, e => by cases e; simp [toPys, PySem.W.keyToksAll, kToks]
  | d :: l, ks, e => by
    unfold nkDs at e
    cases q1 : nkD d with
    | none => rw [q1] at e; cases e
    | some k =>
      cases q2 : nkDs l with
      | none => rw [q1, q2] at e; cases e
      | some ks' =>
        rw [q1, q2] at e
        cases e
        simp only [toPys, PySem.W.keyToksAll, kToks]
        rw [nk_tok d k q1, nks_tok l ks' q2]
end
theorem ddK_nd {α : Type} {ks : List (α × NestedKey)} (h : (ks.map (·.2)).Nodup) : ddK ks = ks := by
  have : ∀ (ks L : List (α × NestedKey)), ((L ++ ks).map (·.2)).Nodup → ks.foldl ddS L = L ++ ks := by
    intro ks
    induction ks with
    | nil => intro L _; simp
    | cons p ks ih =>
      intro L h
      rw [List.foldl_cons]
      have e : ddS L p = L ++ [p] := by
        unfold ddS
        rw [if_neg]
        intro hm
        rw [List.map_append, List.map_cons, List.nodup_append] at h
        exact h.2.2 _ hm _ List.mem_cons_self rfl
      rw [e, ih (L ++ [p]) (by simpa using h)]
      simp
  simpa [ddK] using this ks [] (by simpa using h)
theorem pairsD_cons {d : D} {l : List D} {ps} (h : pairsD (d :: l) = some ps) : ∃ k ps', nkD d = some k ∧ pairsD l = some ps' ∧ ps = (d, k) :: ps' := by
  unfold pairsD at h
  cases q1 : nkD d with
  | none => rw [q1] at h; cases h
  | some k =>
    cases q2 : pairsD l with
    | none => rw [q1, q2] at h; cases h
    | some ps' => rw [q1, q2] at h; cases h; exact ⟨k, ps', rfl, rfl, rfl⟩
theorem pairs_fst : ∀ {l : List D} {ps}, pairsD l = some ps → ps.map (·.1) = l
  | [], ps, h => by cases h; rfl
  | d :: l, ps, h => by
    obtain ⟨k, ps', _, h2, rfl⟩ := pairsD_cons h
    rw [List.map_cons, pairs_fst h2]
theorem pairs_nk : ∀ {l : List D} {ps}, pairsD l = some ps → ∀ p ∈ ps, p.1 ∈ l ∧ nkD p.1 = some p.2
  | [], ps, h, p, hp => by cases h; cases hp
  | d :: l, ps, h, p, hp => by
    obtain ⟨k, ps', h1, h2, rfl⟩ := pairsD_cons h
    rcases List.mem_cons.mp hp with rfl | hp
    · exact ⟨List.mem_cons_self, h1⟩
    · exact ⟨List.mem_cons_of_mem _ (pairs_nk h2 p hp).1, (pairs_nk h2 p hp).2⟩
theorem pairs_nd : ∀ {l : List D} {ps}, pairsD l = some ps → (l.Pairwise fun x y => PySem.W.dataLt (toPy x) (toPy y) = true) → (ps.map (·.2)).Nodup
  | [], ps, h, _ => by cases h; exact .nil
  | d :: l, ps, h, hp => by
    obtain ⟨k, ps', h1, h2, rfl⟩ := pairsD_cons h
    cases hp with
    | cons a b =>
      refine .cons (fun k' hk' e => ?_) (pairs_nd h2 b)
      obtain ⟨p, hp, rfl⟩ := List.mem_map.mp hk'
      dsimp only at e
      subst e
      obtain ⟨hm, hn⟩ := pairs_nk h2 p hp
      have h3 := a _ hm
      unfold PySem.W.dataLt at h3
      rw [nk_tok _ _ h1, nk_tok _ _ hn, PyProof.Rows.lex_irrefl (O := itemOrd)] at h3
      cases h3
/-- for the kernel: a list that rises already -/
def fastS (l : List D) : Bool := sortOkF l && chainB l && (match pairsD l with | some ps => setOk ps | none => false)
def ssortL (l : List D) : Option (List D) := if fastS l then some l else match setL l with
  | some u => if sortOkF u && chainB (srt leF u) then some (srt leF u) else none
  | none => none
theorem ssortL_some {l r : List D} (h : ssortL l = some r) : ∃ u, setL l = some u ∧ sortOk u = true ∧ strictB (u.mergeSort leD) = true ∧ r = u.mergeSort leD := by
  unfold ssortL at h
  split at h
  · rename_i hf
    cases h
    simp only [fastS, Bool.and_eq_true] at hf
    obtain ⟨⟨h1, h2⟩, h3⟩ := hf
    cases q : pairsD l with
    | none => rw [q] at h3; cases h3
    | some ps =>
      rw [q] at h3
      have h3 : setOk ps = true := h3
      have hp := chain_pair l h2
      have e : setL l = some l := by
        unfold setL
        rw [q]
        show (if setOk ps = true then _ else _) = _
        rw [if_pos h3, ddK_nd (pairs_nd q hp), pairs_fst q]
      have hs : l.mergeSort leD = l := List.mergeSort_of_pairwise (hp.imp fun {a b} hab => by unfold leD; rw [lt_asym hab]; rfl)
      rw [sortOkF_eq] at h1
      exact ⟨l, e, h1, by rw [hs]; exact chain_strict h2, hs.symm⟩
  · cases q : setL l with
    | none => rw [q] at h; cases h
    | some u =>
      rw [q] at h
      dsimp only at h
      split at h
      · rename_i hc
        cases h
        rw [Bool.and_eq_true, sortOkF_eq, leF_eq, srt_eq] at hc
        exact ⟨u, rfl, hc.1, chain_strict hc.2, by rw [leF_eq, srt_eq]⟩
      · cases h
/-- sorted(set): the set at S -/
theorem call_sortedSet {G : Hp} (hG : ExtN G H) {A : Around} {E : Value → Shared → Prop} {S : Addr} {L : KL} {bs : List (Value × D)} {u : List D} {Q : Value → Shared → Prop} (I : Inv X pins σ H s) (hh : A.handled = none) (hu : A.units + 100 < cLine)
    (hL : SetObj X.w s.heap S L) (pm : (L.map (·.1)).Perm (bs.map (·.1))) (eu : bs.map (·.2) = u) (hb : ∀ p ∈ bs, RU X.K G p.1 p.2) (ok : sortOk u = true) (st : strictB (u.mergeSort leD) = true)
    (hQ : ∀ s' p ys, Inv X pins σ (upd H p (.lst ys)) s' → H p = none → Reps X.K G (u.mergeSort leD) ys → Q (.ref p) s') :
    wpAny (model X.prog X.w) A (call (.builtin "sorted") [.ref S]) Q E s := by
  obtain ⟨o, es, ep, t, ho, hex, hd, hf, hr, hl, pe, hsz⟩ := hL.ex
  refine Calls.call_function_entry kind_sorted plain_sorted entry_sorted (args_sorted1 _) ?_
  unfold Builtin.«sorted»
  refine wpAny_bind (m := checkCount "sorted" 1 1 _) (wpAny_pure ?_)
  refine wpAny_bind (collect_set (A := A.in1) hh ⟨o, ho, hex.1, hd⟩ hf hsz hr hl fun s1 vs k1 hz g1 o1 pv => ?_)
  have pvb : vs.Perm (bs.map (·.1)) := by
    refine (pv.trans ?_).trans pm
    have := pe.map (·.2)
    rw [List.map_map] at this
    exact this
  obtain ⟨cs, pc, rfl⟩ := perm_lift _ pvb
  have hlen : cs.length = u.length := by rw [pc.length_eq, ← eu, List.length_map]
  have hcl : cs.length ≤ sizeLine := by
    have h1 : cs.length = es.size := by
      have := pv.length_eq
      rw [List.length_map, List.length_map, Array.length_toList] at this
      exact this
    rw [h1]; exact fits_of_scanBound hsz
  have pcu : (cs.map (·.2)).Perm u := by rw [← eu]; exact pc.map _
  have hc : ∀ p ∈ cs, RU X.K G p.1 p.2 := fun p hp => hb p (pc.mem_iff.mp hp)
  refine wpAny_bind (wpAny_newList ?_ (by rw [List.length_map]; exact hcl))
  have hoL : (s1.heap.push (seqObj "list" (cs.map (·.1)).toArray 0)).get? s1.heap.objs.size = some (seqObj "list" (cs.map (·.1)).toArray 0) := Heap.get?_push_size _ rfl
  simp only [sortOk, Bool.and_eq_true, decide_eq_true_eq] at ok
  obtain ⟨⟨⟨c1, c2⟩, c3⟩, c4⟩ := ok
  have c3' : PySem.W.AllAlike (u.map toPy) := fun x hx y hy => by
    rw [← toPys_map] at hx hy
    exact List.all_eq_true.mp (List.all_eq_true.mp c3 x hx) y hy
  have mem_u : ∀ {d}, d ∈ cs.map (·.2) → d ∈ u := fun hd => pcu.mem_iff.mp hd
  have ker : PySem.W.EachIs (fun v d => ∃ as, Reads (s1.heap.push (seqObj "list" (cs.map (·.1)).toArray 0)) v (toPy d) as ∧ s1.heap.objs.size ∉ as) (cs.map (·.1)) (cs.map (·.2)) := by
    have : ∀ l : List (Value × D), (∀ p ∈ l, p ∈ cs) → PySem.W.EachIs (fun v d => ∃ as, Reads (s1.heap.push (seqObj "list" (cs.map (·.1)).toArray 0)) v (toPy d) as ∧ s1.heap.objs.size ∉ as) (l.map (·.1)) (l.map (·.2)) := by
      intro l
      induction l with
      | nil => intro _; exact .nil
      | cons p l ih =>
        intro hl
        refine .cons ?_ (ih fun q hq => hl q (List.mem_cons_of_mem _ hq))
        have hp := hl p List.mem_cons_self
        have hpu : p.2 ∈ u := mem_u (List.mem_map.mpr ⟨p, hp, rfl⟩)
        obtain ⟨x, rx, hx⟩ := hc p hp
        obtain ⟨as, r⟩ := Dp.reads I _ x _ (Rep.dp p.2 x (nods_mem c1 _ hpu) (Rep.ext hG _ _ hx)).1 rx
        have hal : PySem.W.alike (toPy p.2) (toPy p.2) = true := c3' _ (List.mem_map.mpr ⟨_, hpu, rfl⟩) _ (List.mem_map.mpr ⟨_, hpu, rfl⟩)
        refine ⟨as, PyProof.Rows.Reads.keeps (fun b o e => Heap.get?_push_of_some _ (k1 b o e)) r, fun hm => ?_⟩
        exact absurd hz (Nat.not_le_of_lt (Reads.lt _ _ _ hal r _ hm))
    exact this cs fun p hp => hp
  have ker2 : PySem.W.EachIs (RU X.K G) (cs.map (·.1)) (cs.map (·.2)) := each_pairs hc
  refine wpAny_bind (wpAny_holding (PySem.W.list_sort_data (s := { s1 with heap := s1.heap.push (seqObj "list" (cs.map (·.1)).toArray 0) }) (β := D) (enc := toPy) (R := RU X.K G) hoL ker2 ker ?_ ?_ (by rw [List.length_map]; exact hcl) ?_ fun out hol hout => ?_))
  · intro x hx y hy
    have h1 := (pcu.map toPy)
    exact c3' x (h1.mem_iff.mp hx) y (h1.mem_iff.mp hy)
  · have h1 := (pcu.map toPy)
    rw [Bool.or_eq_true] at c4
    rcases c4 with c4 | c4
    · refine .inl fun d hd => ?_
      have hd := h1.mem_iff.mp hd
      rw [← toPys_map] at hd
      have := List.all_eq_true.mp c4 d hd
      clear hd
      cases d with
      | tuple t =>
        cases t with
        | nil => simp [isTupNE] at this
        | cons x r => exact ⟨x, r, rfl⟩
      | _ => simp [isTupNE] at this
    · refine .inr fun d hd => ?_
      have hd := h1.mem_iff.mp hd
      rw [← toPys_map] at hd
      have := List.all_eq_true.mp c4 d hd
      cases d <;> simp [notTupN] at this ⊢
  · intro d hd
    have h1 := dep_py d
    have h2 := deps_mem (mem_u hd)
    simp only [Around.in1_units]
    omega
  · have es : (cs.map (·.2)).mergeSort (PySem.W.dataLe false toPy) = u.mergeSort leD := sort_of_perm (pcu.trans (List.mergeSort_perm u leD).symm) st
    rw [es] at hout
    obtain ⟨ys, v1, v2⟩ := each_back hout
    obtain ⟨c, hcc⟩ := sortedHeap_at (vs := cs.map (·.1)) (out := out.toArray) hoL
    have np : H s1.heap.objs.size = none := I.hok.fresh hz
    have keep : ∀ b u, s.heap.get? b = some u → (sortedHeap (s1.heap.push (seqObj "list" (cs.map (·.1)).toArray 0)) s1.heap.objs.size (cs.map (·.1)) out.toArray).get? b = some u := fun b u e => by
      have q := k1 b u e
      have hlt := Heap.lt_size q
      rw [sortedHeap_old (Nat.ne_of_lt hlt) (by rw [size_push']; exact Nat.lt_succ_of_lt hlt)]
      exact Heap.get?_push_of_some _ q
    have hyl : ys.length ≤ sizeLine := by
      rw [v2.length, List.length_mergeSort, ← hlen]; exact hcl
    have J : Inv X pins σ (upd H s1.heap.objs.size (.lst ys)) { s with heap := sortedHeap (s1.heap.push (seqObj "list" (cs.map (·.1)).toArray 0)) s1.heap.objs.size (cs.map (·.1)) out.toArray, gens := s1.gens, drawn := s1.drawn, toks := s1.toks } :=
      I.call (ch := []) (Un.laid keep hz np) (I.hok.laid keep hz ⟨hyl, out, c, v1, hcc⟩) (by rw [g1]; exact I.bare) (fun _ z => nomatch z)
    refine wpAny_pure ⟨_, rfl, ?_⟩
    have e : ({ s1 with heap := sortedHeap (s1.heap.push (seqObj "list" (cs.map (·.1)).toArray 0)) s1.heap.objs.size (cs.map (·.1)) out.toArray } : Shared) = { s with heap := sortedHeap (s1.heap.push (seqObj "list" (cs.map (·.1)).toArray 0)) s1.heap.objs.size (cs.map (·.1)) out.toArray, gens := s1.gens, drawn := s1.drawn, toks := s1.toks } := by
      cases s1
      cases s
      cases o1
      rfl
    show Q (.ref s1.heap.objs.size) { s1 with heap := sortedHeap (s1.heap.push (seqObj "list" (cs.map (·.1)).toArray 0)) s1.heap.objs.size (cs.map (·.1)) out.toArray }
    rw [e]
    exact hQ _ _ ys J np v2
end
end Py
end
section
set_option maxHeartbeats 2000000
namespace Py
open PySem PySem.Spec PyProof.Rows L2 LamX
section
variable {X : Cx} {T : Tb} {W : WX} {pos : Pos}
def ssD (d : D) : RR D := match d with
  | .lst l => (RR.of (ssortL l)) >>= fun r => .ok (.lst r)
  | .tup l => (RR.of (ssortL l)) >>= fun r => .ok (.lst r)
  | _ => .bad
def lsD (d : D) : RR D := match d with
  | .lst l => (RR.of (setL l)) >>= fun r => .ok (.int r.length)
  | .tup l => (RR.of (setL l)) >>= fun r => .ok (.int r.length)
  | _ => .bad
theorem d_sset {e : Expr} {p p2 q : Pos} {m : Md} {f : Env → RR D} (hc : X.calm = true) (hu : X.A.units + 200 < cLine) (hg : Gl X "sorted") (hm : X.mg "sorted" = none) (hg2 : Gl X "set") (hm2 : X.mg "set" = none) (hs : notStar e = true) (he : PE X e (tD X.K T W m f)) :
    PE X (.Call (.Name "sorted" p) [.Call (.Name "set" p2) [e] [] q] [] pos) (tD X.K T W .fr fun ρ => f ρ >>= ssD) := by
  refine ⟨fun pins s σ H Q I ⟨ρ, Z, st, p⟩ => ?_⟩
  refine Call_ (ld_blt I hg hm PyProof.Rows.boot_sorted ?_)
  refine PyProof.Rows.callWith_builtin1 (PyProof.Rows.args_cons ?_ rfl) rfl rfl
  refine Call_ (ld_blt I hg2 hm2 PyProof.Rows.boot_set ?_)
  have na := star_of hs [] X.env
  refine PyProof.Rows.callWith_type1 (PyProof.Rows.args_cons (thn (he.run pins s σ H _ I ⟨ρ, Z, st, Post.then p fun d v H1 _ e1 r1 p1 => (show (fun v H1 => ∃ d, Ext T H H1 ∧ RepV X.K Z H H1 m d v ∧ Post X.K T Z W σ H1 .fr Q (ssD d)) v H1 from ⟨d, e1, r1, p1⟩)⟩) fun v s1 ⟨x, H1, I1, rx, d, e1, r1, p1⟩ => PyProof.Rows.args_nil ?_) na) na rfl
  cases d with
  | lst l =>
    dsimp only [ssD] at p1
    cases q0 : ssortL l with
    | none => rw [q0] at p1; exact (show False from p1).elim
    | some r =>
      rw [q0] at p1
      have p1 : Post X.K T Z W σ H1 .fr Q (.ok (.lst r)) := p1
      obtain ⟨u, q1, ok1, ok2, rfl⟩ := ssortL_some q0
      obtain ⟨a, rfl, z, xs, ha, ra⟩ := r1.b
      cases rx
      refine call_setD (G := hide H1 Z) exUnhide I1 (I1.ok.hd hc) (by omega) ha ra q1 fun h' tk L bs hL pm eu hb kp => PyProof.Rows.args_nil ?_
      have I2 : Inv X pins σ H1 { s1 with heap := h', toks := tk } := I1.kept kp
      refine call_sortedSet (G := hide H1 Z) exUnhide I2 (I1.ok.hd hc) (by omega) hL pm eu hb ok1 ok2 fun s' p ys J np rr => ?_
      refine ⟨.ref p, _, J, rfl, p1 _ _ (ext_new e1.tabs np) ⟨p, rfl, .inl np, own_lst ?_ (.inl np) rr⟩⟩
      rw [List.length_mergeSort]
      exact Nat.le_trans (setL_len q1) z
  | tup l =>
    dsimp only [ssD] at p1
    cases q0 : ssortL l with
    | none => rw [q0] at p1; exact (show False from p1).elim
    | some r =>
      rw [q0] at p1
      have p1 : Post X.K T Z W σ H1 .fr Q (.ok (.lst r)) := p1
      obtain ⟨u, q1, ok1, ok2, rfl⟩ := ssortL_some q0
      obtain ⟨z, a, xs, rfl, ha, ra⟩ := r1.b
      cases rx
      refine call_setDT (G := hide H1 Z) exUnhide I1 (I1.ok.hd hc) (by omega) (SqT.ext exUnhide ha) ra q1 fun h' tk L bs hL pm eu hb kp => PyProof.Rows.args_nil ?_
      have I2 : Inv X pins σ H1 { s1 with heap := h', toks := tk } := I1.kept kp
      refine call_sortedSet (G := hide H1 Z) exUnhide I2 (I1.ok.hd hc) (by omega) hL pm eu hb ok1 ok2 fun s' p ys J np rr => ?_
      refine ⟨.ref p, _, J, rfl, p1 _ _ (ext_new e1.tabs np) ⟨p, rfl, .inl np, own_lst ?_ (.inl np) rr⟩⟩
      rw [List.length_mergeSort]
      exact Nat.le_trans (setL_len q1) z
  | _ => exact (show False from p1).elim
theorem d_lset {e : Expr} {p p2 q : Pos} {m : Md} {f : Env → RR D} (hc : X.calm = true) (hu : X.A.units + 200 < cLine) (hg : Gl X "len") (hm : X.mg "len" = none) (hg2 : Gl X "set") (hm2 : X.mg "set" = none) (hs : notStar e = true) (he : PE X e (tD X.K T W m f)) :
    PE X (.Call (.Name "len" p) [.Call (.Name "set" p2) [e] [] q] [] pos) (tD X.K T W .sh fun ρ => f ρ >>= lsD) := by
  refine ⟨fun pins s σ H Q I ⟨ρ, Z, st, p⟩ => ?_⟩
  refine Call_ (ld_blt I hg hm PySem.boot_len ?_)
  refine PyProof.Rows.callWith_builtin1 (PyProof.Rows.args_cons ?_ rfl) rfl rfl
  refine Call_ (ld_blt I hg2 hm2 PyProof.Rows.boot_set ?_)
  have na := star_of hs [] X.env
  refine PyProof.Rows.callWith_type1 (PyProof.Rows.args_cons (thn (he.run pins s σ H _ I ⟨ρ, Z, st, Post.then p fun d v H1 _ e1 r1 p1 => (show (fun v H1 => ∃ d, Ext T H H1 ∧ RepV X.K Z H H1 m d v ∧ Post X.K T Z W σ H1 .sh Q (lsD d)) v H1 from ⟨d, e1, r1, p1⟩)⟩) fun v s1 ⟨x, H1, I1, rx, d, e1, r1, p1⟩ => PyProof.Rows.args_nil ?_) na) na rfl
  cases d with
  | lst l =>
    unfold lsD at p1
    cases q1 : setL l with
    | none => simp only [q1] at p1; exact p1.elim
    | some u =>
      simp only [q1] at p1
      have p1 : Post X.K T Z W σ H1 .sh Q (.ok (.int u.length)) := p1
      obtain ⟨a, rfl, z, xs, ha, ra⟩ := r1.b
      cases rx
      refine call_setD (G := hide H1 Z) exUnhide I1 (I1.ok.hd hc) (by omega) ha ra q1 fun h' tk L bs hL pm eu hb kp => PyProof.Rows.args_nil ?_
      have I2 : Inv X pins σ H1 { s1 with heap := h', toks := tk } := I1.kept kp
      obtain ⟨o, es, ep, t, ho, hex, hd, hf, hr, hl, pe, hsz⟩ := hL.ex
      have hn : es.size = u.length := by
        have h1 := pe.length_eq
        have h2 := pm.length_eq
        rw [List.length_map, Array.length_toList] at h1
        rw [List.length_map, List.length_map] at h2
        rw [h1, h2, ← eu, List.length_map]
      refine call_len_set ho hex hd hf (by unfold scanBound at hsz; omega) ⟨.int u.length, H1, I2.tok _, ⟨_, by rw [hn]⟩, p1 _ H1 (Ext.refl e1.tabs) rfl⟩
  | tup l =>
    unfold lsD at p1
    cases q1 : setL l with
    | none => simp only [q1] at p1; exact p1.elim
    | some u =>
      simp only [q1] at p1
      have p1 : Post X.K T Z W σ H1 .sh Q (.ok (.int u.length)) := p1
      obtain ⟨z, a, xs, rfl, ha, ra⟩ := r1.b
      cases rx
      refine call_setDT (G := hide H1 Z) exUnhide I1 (I1.ok.hd hc) (by omega) (SqT.ext exUnhide ha) ra q1 fun h' tk L bs hL pm eu hb kp => PyProof.Rows.args_nil ?_
      have I2 : Inv X pins σ H1 { s1 with heap := h', toks := tk } := I1.kept kp
      obtain ⟨o, es, ep, t, ho, hex, hd, hf, hr, hl, pe, hsz⟩ := hL.ex
      have hn : es.size = u.length := by
        have h1 := pe.length_eq
        have h2 := pm.length_eq
        rw [List.length_map, Array.length_toList] at h1
        rw [List.length_map, List.length_map] at h2
        rw [h1, h2, ← eu, List.length_map]
      refine call_len_set ho hex hd hf (by unfold scanBound at hsz; omega) ⟨.int u.length, H1, I2.tok _, ⟨_, by rw [hn]⟩, p1 _ H1 (Ext.refl e1.tabs) rfl⟩
  | _ => exact (show False from p1).elim
end
end Py
end
section
set_option maxHeartbeats 2000000
namespace Py
open PySem PySem.Spec PyProof.Rows L2 LamX
section
variable {X : Cx} {T : Tb} {W : WX} {pos : Pos} {tg : Expr}
/-! ### zip -/
def zipL : List D → List D → List D
  | a :: l, b :: r => .tup [a, b] :: zipL l r
  | _, _ => []
theorem zipL_len : ∀ (l r : List D), (zipL l r).length = min l.length r.length
  | [], r => by simp [zipL]
  | a :: l, [] => by simp [zipL]
  | a :: l, b :: r => by simp [zipL, zipL_len l r]
theorem zipL_get : ∀ {l r : List D} {i : Nat} {a b : D}, l[i]? = some a → r[i]? = some b → (zipL l r)[i]? = some (.tup [a, b])
  | [], r, i, a, b, h, _ => by simp at h
  | _ :: l, [], i, a, b, _, h => by simp at h
  | x :: l, y :: r, 0, a, b, h1, h2 => by
    simp at h1 h2; subst h1 h2; rfl
  | x :: l, y :: r, i + 1, a, b, h1, h2 => by
    simp at h1 h2
    simpa [zipL] using zipL_get h1 h2
theorem pair_rep {K : PySem.W.Frag} {G : Hp} {l r : List D} {xs ys : List V} (hl : Reps K G l xs) (hr : Reps K G r ys) : ∀ i H x H' Z, i < min l.length r.length → ExtN G (hide H Z) → Tabs T H → (∀ a, Z a = true → ¬ FreshAt H a) → YPair (fun i => xs[i]?) (fun i => ys[i]?) i H x H' →
    ∃ d, (zipL l r)[i]? = some d ∧ Ext T H H' ∧ Rep K (hide H' Z) d x := by
  rintro i H x H' Z hi e t hz ⟨p, u, v, rfl, np, rfl, h1, h2⟩
  obtain ⟨d1, a1, a2⟩ := hl.getV h1
  obtain ⟨d2, b1, b2⟩ := hr.getV h2
  refine ⟨_, zipL_get a1 b1, ext_new t np, rep_tup t hz np (by show 2 ≤ sizeLine; decide) ⟨u, [v], rfl, Rep.ext e _ _ a2, v, [], rfl, Rep.ext e _ _ b2, rfl⟩⟩
theorem walkL {K : PySem.W.Frag} {G F : Hp} {a b : Addr} {l r : List D} {xs ys : List V} (ha : F a = some (.lst xs) ∨ G a = some (.lst xs)) (hb : F b = some (.lst ys) ∨ G b = some (.lst ys)) (hl : Reps K G l xs) (hr : Reps K G r ys) : WalkD K T G F (Itz K a b) (zipL l r) := by
  have go : ∀ {a : Addr} {xs : List V} {H : Hp} {Z : Addr → Bool}, (F a = some (.lst xs) ∨ G a = some (.lst xs)) → ExtN G (hide H Z) → ExtN F H → SqL K H a xs := fun h g f => by
    rcases h with h | h
    · exact SqL.of (f _ _ h fun ps q => by cases q)
    · exact SqL.ext exUnhide (SqL.of (g _ _ h fun ps q => by cases q))
  refine ⟨_, _, walk_zip (by rw [zipL_len, hl.length, hr.length]), fun H Z g f => ⟨go ha g f, go hb g f⟩, fun i H x H' Z hi g _ t hz y => pair_rep hl hr i H x H' Z (by rw [zipL_len] at hi; exact hi) g t hz y⟩
theorem walk_zipT {K : PySem.W.Frag} {a b : Addr} {xs ys : List V} {n : Nat} (hn : n = min xs.length ys.length) : Walk (RZ.ItzT K a b) n (fun H => SqT K H a xs ∧ SqT K H b ys) (YPair (fun i => xs[i]?) (fun i => ys[i]?)) := by
  subst hn
  refine ⟨fun i _ hi q => ?_, fun _ q => ⟨xs, ys, q.1, q.2, by omega⟩, fun i H v H' _ q y => ?_⟩
  · have h1 : i < xs.length := by omega
    have h2 : i < ys.length := by omega
    exact ⟨xs, ys, xs[i], ys[i], q.1, q.2, by simp [h1], by simp [h2]⟩
  · obtain ⟨T, x, z, h1, h2, h3, h4, h5⟩ := y
    exact ⟨T, x, z, h1, h2, h3, h4 xs q.1, h5 ys q.2⟩
theorem walkT {K : PySem.W.Frag} {G F : Hp} {a b : Addr} {l r : List D} {xs ys : List V} (ha : SqT K G a xs) (hb : SqT K G b ys) (hl : Reps K G l xs) (hr : Reps K G r ys) : WalkD K T G F (RZ.ItzT K a b) (zipL l r) :=
  ⟨_, _, walk_zipT (by rw [zipL_len, hl.length, hr.length]), fun H Z g f => ⟨SqT.ext exUnhide (SqT.ext g ha), SqT.ext exUnhide (SqT.ext g hb)⟩, fun i H x H' Z hi g _ t hz y => pair_rep hl hr i H x H' Z (by rw [zipL_len] at hi; exact hi) g t hz y⟩
def zipD : D → D → RR (List D)
  | .lst a, .lst b => .ok (zipL a b)
  | .tup a, .tup b => .ok (zipL a b)
  | _, _ => .bad
theorem src_zip {e1 e2 : Expr} {elts : List Expr} {kk : Nat} {tpos p : Pos} {m1 m2 : Md} {f1 f2 : Env → RR D} (hg : Gl X "zip") (hm : X.mg "zip" = none) (hm1 : m1 ≠ .bo) (hm2 : m2 ≠ .bo) (hs1 : notStar e1 = true) (hs2 : notStar e2 = true) (h1 : PE X e1 (tD X.K T W m1 f1)) (h2 : PE X e2 (tD X.K T W m2 f2)) :
    SrcOk X T W (.Tuple elts kk tpos) (.Call (.Name "zip" p) [e1, e2] [] pos) false (fun ρ => f1 ρ >>= fun a => f2 ρ >>= fun b => zipD a b) := by
  refine ⟨_, RZ.pi_zipA hg hm (pa_cons h1 (pa_cons h2 pa_nil (star_of hs2 [] X.env)) (star_of hs1 _ X.env)) (by rw [star_of hs1, star_of hs2]) (by rw [star_of hs2]; rfl), fun σ H R ⟨ρ, Z, st, p⟩ => ⟨ρ, Z, st, ?_⟩⟩
  cases q1 : f1 ρ with
  | ex c => rw [q1] at p; exact p
  | bad => rw [q1] at p; exact p
  | ok d1 =>
    rw [q1] at p
    intro v1 H1 x1 r1
    refine ⟨ρ, Z, st.ext x1, ?_⟩
    cases q2 : f2 ρ with
    | ex c => rw [RR.bind_ok, q2] at p; exact fun H' e' => p H' (x1.trans e')
    | bad => rw [RR.bind_ok, q2] at p; exact p
    | ok d2 =>
      rw [RR.bind_ok, q2, RR.bind_ok] at p
      intro v2 H2 x2 r2
      have hz := st.zdom
      have s1 := (r1.ext x2.ext).sh hm1 hz
      have s2 := r2.sh hm2 (st.ext x1).zdom
      cases d1 with
      | lst l =>
        cases d2 with
        | lst r =>
          obtain ⟨z1, a, xs, rfl, ha, ra⟩ := s1
          obtain ⟨z2, b, ys, rfl, hb, rb⟩ := s2
          refine ⟨a, b, xs, ys, rfl, .inl ⟨SqL.ext exUnhide (SqL.of ha), SqL.ext exUnhide (SqL.of hb), p _ H2 (x1.trans x2) (by rw [zipL_len]; omega) (walkL (.inr ha) (.inr hb) ra rb)⟩⟩
        | _ => exact (show False from p).elim
      | tup l =>
        cases d2 with
        | tup r =>
          obtain ⟨z1, a, xs, rfl, ha, ra⟩ := s1
          obtain ⟨z2, b, ys, rfl, hb, rb⟩ := s2
          refine ⟨a, b, xs, ys, rfl, .inr ⟨SqT.ext exUnhide ha, SqT.ext exUnhide hb, p _ H2 (x1.trans x2) (by rw [zipL_len]; omega) (walkT ha hb ra rb)⟩⟩
        | _ => exact (show False from p).elim
      | _ => exact (show False from p).elim
/-! ### list(range(n)) -/
theorem d_lrng {e : Expr} {p p2 q : Pos} {m : Md} {f : Env → RR D} (hc : X.calm = true) (hg : Gl X "list") (hm : X.mg "list" = none) (hg2 : Gl X "range") (hm2 : X.mg "range" = none) (hs : notStar e = true) (he : PE X e (tD X.K T W m f)) :
    PE X (.Call (.Name "list" p) [.Call (.Name "range" p2) [e] [] q] [] pos) (tD X.K T W .fr fun ρ => f ρ >>= fun d => rng1D d >>= fun l => .ok (.lst l)) := by
  refine peImp (pe_listRg hc hg hm (prg_1 hg2 hm2 he (star_of hs [] X.env))) fun σ H Q ⟨ρ, Z, st, p⟩ => ⟨ρ, Z, st, Post.then p fun d v H1 _ e1 r1 p1 => ?_⟩
  cases d with
  | int b =>
    have e2 : v = .int b := r1.b
    subst e2
    have p1 : Post X.K T Z W σ H1 .fr Q ((if rngOk 0 b then RR.ok (rangeD 0 b) else .bad) >>= fun l => .ok (.lst l)) := p1
    split at p1
    · rename_i hc
      simp only [rngOk, Bool.and_eq_true, decide_eq_true_eq] at hc
      have hc2 := hc.2
      unfold lim at hc2
      refine ⟨b, rfl, ⟨by omega, by omega, by omega, by omega, hc2⟩, fun a na => p1 _ _ (ext_new e1.tabs na) ⟨a, rfl, .inl na, own_lst (by unfold rangeD; rw [List.length_map, List.length_range, lim_eq]; exact hc.2) (.inl na) ?_⟩⟩
      unfold rangeD rgV
      generalize List.range (b - 0).toNat = l
      induction l with
      | nil => rfl
      | cons i l ih => exact ⟨_, _, rfl, rfl, ih⟩
    · exact p1.elim
  | _ => exact (show False from p1).elim
end
end Py
end
section
set_option maxHeartbeats 2000000
namespace Py
open PySem PySem.Spec PyProof.Rows L2 LamX

/-! ### l.index(x) -/
def indexD (l x : D) : Option D := match l with
  | .lst l => if nods l && nod x && decide (deps l ≤ 60) && decide (dep x ≤ 60) then (idxOf x l 0).map fun i => D.int (i : Nat) else none
  | _ => none
theorem idxOf_spec {x : D} : ∀ {l : List D} {i j : Nat}, idxOf x l i = some j → ∃ k, j = i + k ∧ ∃ z, (toPys l)[k]? = some z ∧ PyData.eqv z (toPy x) = true ∧ ∀ (m : Nat) (z' : PyData), m < k → (toPys l)[m]? = some z' → PyData.eqv z' (toPy x) = false
  | [], i, j, h => by cases h
  | d :: l, i, j, h => by
    unfold idxOf at h
    split at h
    · rename_i e
      cases h
      exact ⟨0, rfl, toPy d, rfl, e, fun m z hm => absurd hm (Nat.not_lt_zero _)⟩
    · rename_i e
      obtain ⟨k, rfl, z, h1, h2, h3⟩ := idxOf_spec h
      refine ⟨k + 1, by omega, z, by simpa [toPys] using h1, h2, fun m z' hm hz => ?_⟩
      cases m with
      | zero =>
        simp only [toPys, List.getElem?_cons_zero, Option.some.injEq] at hz
        subst hz
        exact Bool.eq_false_iff.mpr e
      | succ m => exact h3 m z' (by omega) (by simpa [toPys] using hz)
section
variable {X : Cx} {T : Tb} {W : WX} {pos : Pos}
theorem shaped_of {d : PyData} (h : PyData.canLay0 d = true) (hd : d.depth ≤ 64) : SeqAt.shaped d = true := by
  unfold SeqAt.shaped
  rw [h, decide_eq_true hd]; rfl
theorem d_idx {a b : Expr} {p2 cpos : Pos} {ma mb : Md} {fa fb : Env → RR D} (hu : X.A.units + 65 < cLine) (hb : notCallee a = true) (hs : notStar b = true) (hline : (p2.endLine == cpos.line) = true) (ha : PE X a (tD X.K T W ma fa)) (hbb : PE X b (tD X.K T W mb fb)) :
    PE X (.Call (.Attribute a "index" p2) [b] [] cpos) (tD X.K T W .sh fun ρ => fa ρ >>= fun l => match l with | .lst l => fb ρ >>= fun x => RR.of (indexD (.lst l) x) | _ => .bad) := by
  have hcall := pe_bm (T := "list") PySem.F.plainAttrs_list PySem.F.slot_list_index PySem.F.type_list_index (mt_indexD hu) ha (pa_cons hbb pa_nil (star_of hs [] X.env)) (base_of hb _ _ _) (few_of (by simp [hs]) (by rfl)) hline (star_of hs [] X.env) (by rfl) (apos := p2) (cpos := cpos)
  refine peImp hcall fun σ H Q ⟨ρ, Z, st, p⟩ => ⟨ρ, Z, st, Post.then p fun d v H1 _ e1 r1 p1 => ?_⟩
  cases d with
  | lst l =>
    obtain ⟨a, rfl, z, xs, h1, h2⟩ := r1.b
    refine ⟨.inl ⟨rfl, xs, SqL.of h1⟩, ρ, Z, st.ext e1, Post.then p1 fun d2 v2 H2 _ e2 r2 p2 => ?_⟩
    cases q : indexD (.lst l) d2 with
    | none => rw [q] at p2; exact p2.elim
    | some r =>
      rw [q] at p2
      have q : (if (nods l && nod d2 && decide (deps l ≤ 60) && decide (dep d2 ≤ 60)) = true then (idxOf d2 l 0).map fun i => D.int (i : Nat) else none) = some r := q
      by_cases hc : (nods l && nod d2 && decide (deps l ≤ 60) && decide (dep d2 ≤ 60)) = true
      · rw [if_pos hc] at q
        simp only [Bool.and_eq_true, decide_eq_true_eq] at hc
        cases q3 : idxOf d2 l 0 with
        | none => rw [q3] at q; cases q
        | some j =>
          rw [q3] at q
          cases q
          obtain ⟨k, hk, z', g1, g2, g3⟩ := idxOf_spec q3
          have hk : j = k := by omega
          subst hk
          have rl : Rep X.K H2 (.lst l) (.ref a) := by
            refine ⟨z, a, xs, rfl, e2.ext a _ h1 (fun ps q => by cases q), Reps.ext (exUnhide.trans e2.ext) _ _ h2⟩
          obtain ⟨q1, q2⟩ := Rep.dp (.lst l) (.ref a) hc.1.1.1 rl
          obtain ⟨q4, q5⟩ := Rep.dp d2 v2 hc.1.1.2 (r2.b.rep exUnhide)
          have d1 := dep_py (.lst l)
          have d2' := dep_py d2
          have e3 : dep (.lst l) = deps l + 1 := by simp [dep]
          exact ⟨a, v2, toPy d2, toPys l, j, z', rfl, rfl, q1, q4, shaped_of q2 (show (toPy (.lst l)).depth ≤ 64 by omega), shaped_of q5 (by omega), g1, g2, g3, p2 _ H2 (Ext.refl e2.tabs) rfl⟩
      · rw [if_neg hc] at q; cases q
  | _ => exact (show False from p1).elim
end

/-! ### an own syntax -/
inductive Blt where | len | int | abs | sum | all | any | max | min | sorted | list | tuple
  deriving DecidableEq
inductive Iop where | iss | isnt
  deriving DecidableEq
mutual
inductive E where
  | nop | non | bl (b : Bool) | int (i : Int) | str (x : Str) | v (i : Nat) | o (i : Nat) | con (i : Nat)
  | bin (o : Bop) (a b : E) | cmp (o : Cop) (a b : E) | isx (o : Iop) (a b : E) | chn (o o2 : Cop) (a b c : E)
  | ix (a b : E) | sl (a lo hi : E) | nt (a : E) | neg (a : E) | and (l : Es) | or (l : Es) | ite (c a b : E)
  | tup (l : Es) | lst (l : Es) | blt (f : Blt) (l : Es) | isi (t : Ty) (a : E) | sset (a : E) | lset (a : E) | lrng (a : E)
  | idx (a b : E) | dnew | shr (a : E) | comp (t : Tg) (vs : List Nat) (s : Sr) (c e : E) | call (f : Nat) (l : Es)
inductive Es where
  | n | c (e : E) (l : Es)
inductive Sr where
  | seq (e : E) | rng1 (a : E) | rng2 (a b : E) | zip (a b : E)
end
def Blt.md : Blt → Md
  | .sorted => .fr | .list => .fr | _ => .sh
def Blt.g : Blt → List D → Option D
  | .len => lenD | .int => intD | .abs => absD | .sum => sumD | .all => allD | .any => anyD | .max => maxD' | .min => minD' | .sorted => sortedD | .list => listD | .tuple => tupleD
def Iop.op : Iop → CmpOp
  | .iss => .Is | .isnt => .IsNot
def Iop.g : Iop → D → D → Option Bool
  | .iss => isG | .isnt => isntG
/-- what the defs do, by level: the head: what is called now -/
abbrev GT := List (Nat → List D → RR D)
def callG (G : GT) (f : Nat) (l : List D) : RR D := match G with
  | g :: _ => g f l
  | [] => .bad
section
variable (fm : List Md)
def mjoin (a b : Md) : Md := match a, b with
  | .fr, .fr => .fr
  | _, _ => .sh
def E.md : E → Md
  | .o _ => .bo
  | .ite _ a b => mjoin a.md b.md
  | .lst _ => .fr
  | .blt f _ => f.md
  | .sset _ => .fr
  | .lrng _ => .fr
  | .dnew => .fr
  | .comp .. => .fr
  | .call f _ => fm.getD f .sh
  | .and (.c e .n) => e.md
  | .or (.c e .n) => e.md
  | _ => .sh
def Es.one : Es → Bool
  | .c _ .n => true
  | _ => false
end
def isNop : E → Bool
  | .nop => true
  | _ => false
section
variable (C : List D) (G : GT)
mutual
def ev : E → Env → RR D
  | .nop, _ => .bad
  | .non, _ => .ok .non
  | .bl b, _ => .ok (.bl b)
  | .int i, _ => .ok (.int i)
  | .str x, _ => .ok (.str x)
  | .v i, ρ => varD i ρ
  | .o i, ρ => ownD i ρ
  | .con i, _ => RR.of C[i]?
  | .bin o a b, ρ => do let x ← ev a ρ; let y ← ev b ρ; RR.of (binD o x y)
  | .cmp o a b, ρ => do let x ← ev a ρ; let y ← ev b ρ; RR.of ((cmpB o x y).map D.bl)
  | .isx o a b, ρ => do let x ← ev a ρ; let y ← ev b ρ; RR.of ((o.g x y).map D.bl)
  | .chn o o2 a b c, ρ => do let x ← ev a ρ; let y ← ev b ρ; let k ← RR.of (cmpB o x y); if k then (do let z ← ev c ρ; RR.of ((cmpB o2 y z).map D.bl)) else .ok (.bl false)
  | .ix a b, ρ => do let x ← ev a ρ; let y ← ev b ρ; RR.of (ixD x y)
  | .sl a lo hi, ρ => do let x ← ev a ρ; let l ← (if isNop lo then .ok none else ev lo ρ >>= intO); let h ← (if isNop hi then .ok none else ev hi ρ >>= intO); RR.of (slD x l h)
  | .nt a, ρ => do let x ← ev a ρ; let k ← truR x; .ok (.bl (!k))
  | .neg a, ρ => ev a ρ >>= fun d => RR.of (negD d)
  | .and l, ρ => evA l ρ
  | .or l, ρ => evR l ρ
  | .ite c a b, ρ => do let x ← ev c ρ; let k ← truR x; if k then ev a ρ else ev b ρ
  | .tup l, ρ => do let xs ← evs l ρ; let xs ← limL xs; .ok (.tup xs)
  | .lst l, ρ => do let xs ← evs l ρ; let xs ← limL xs; .ok (.lst xs)
  | .blt f l, ρ => do let xs ← evs l ρ; RR.of (f.g xs)
  | .isi t a, ρ => do let x ← ev a ρ; .ok (.bl (isTy t x))
  | .sset a, ρ => ev a ρ >>= ssD
  | .lset a, ρ => ev a ρ >>= lsD
  | .lrng a, ρ => ev a ρ >>= fun d => rng1D d >>= fun l => .ok (.lst l)
  | .idx a b, ρ => ev a ρ >>= fun l => match l with | .lst l => ev b ρ >>= fun x => RR.of (indexD (.lst l) x) | _ => .bad
  | .dnew, _ => .ok (.dic [] [])
  | .shr a, ρ => ev a ρ
  | .comp t vs s c e, ρ => compF t vs (fun ρ => evr s ρ) (fun ρ => if isNop c then .ok true else ev c ρ >>= truR) (fun ρ => ev e ρ) ρ
  | .call f l, ρ => do let xs ← evs l ρ; callG G f xs
def evA : Es → Env → RR D
  | .n, _ => .bad
  | .c e l, ρ => if l matches .n then ev e ρ else do let x ← ev e ρ; let k ← truR x; if k then evA l ρ else .ok x
def evR : Es → Env → RR D
  | .n, _ => .bad
  | .c e l, ρ => if l matches .n then ev e ρ else do let x ← ev e ρ; let k ← truR x; if k then .ok x else evR l ρ
def evs : Es → Env → RR (List D)
  | .n, _ => .ok []
  | .c e l, ρ => do let x ← ev e ρ; let xs ← evs l ρ; .ok (x :: xs)
def evr : Sr → Env → RR (List D)
  | .seq e, ρ => ev e ρ >>= seqD
  | .rng1 a, ρ => ev a ρ >>= rng1D
  | .rng2 a b, ρ => do let x ← ev a ρ; let y ← ev b ρ; rng2D x y
  | .zip a b, ρ => ev a ρ >>= fun x => ev b ρ >>= fun y => zipD x y
end
end
end Py
end
section
set_option maxHeartbeats 2000000
namespace Py
open PySem PySem.Spec PyProof.Rows L2 LamX

/-! ### the checker -/
structure Tbl where
  fns : List (Nat × Str × Md × Nat)
  fm : List Md
  free : List Str
  cons : List (Nat × Str)
  excs : List Str
structure Cfg where
  N : List Str
  sc : Scope
  fn : Str → Bool
  t : Tbl
def Cfg.fm (c : Cfg) : List Md := c.t.fm
def visB (sc : Scope) (x : Str) : Bool := match sc.names.lookup x with
  | some .local => true | some .cell => true | some .free => true | _ => false
def gloB (sc : Scope) (x : Str) : Bool := match sc.names.lookup x with
  | some .globalImplicit => true | _ => false
def localB (sc : Scope) (x : Str) : Bool := match sc.names.lookup x with
  | some .local => true | _ => false
def locB (sc : Scope) (x : Str) : Bool := match sc.names.lookup x with
  | some .local => true | some .cell => true | _ => false
def plainN (x : Str) : Bool := !(x == ("__debug__" : Str)) && !(x == ("__classdict__" : Str)) && decide (x ≠ "__name__")
def Cfg.var (c : Cfg) (i : Nat) (x : Str) : Bool := decide (c.N[i]? = some x) && visB c.sc x && plainN x
/-- a built-in's name -/
def Cfg.bname (c : Cfg) (x : Str) (s : String) : Bool := decide (x = Str.ofString s) && gloB c.sc (Str.ofString s) && decide (Str.ofString s ∈ c.t.free)
def Blt.nm : Blt → String
  | .len => "len" | .int => "int" | .abs => "abs" | .sum => "sum" | .all => "all" | .any => "any" | .max => "max" | .min => "min" | .sorted => "sorted" | .list => "list" | .tuple => "tuple"
def Cfg.tgOk (c : Cfg) (i : Nat) (x : Str) : Bool := decide (c.N[i]? = some x) && locB c.sc x && (c.fn x || localB c.sc x)
def tgsB (c : Cfg) : List Nat → List Expr → Bool
  | [], [] => true
  | i :: is, .Name x _ :: es => c.tgOk i x && tgsB c is es
  | _, _ => false
def tgB (c : Cfg) : Tg → Expr → Bool
  | .v i, .Name x _ => c.tgOk i x
  | .t is, .Tuple es _ _ => tgsB c is es
  | _, _ => false
def ownOf (N : List Str) (vs : List Nat) : List (Str × Nat) := vs.map fun i => (N.getD i default, i)
def Cfg.blk (c : Cfg) (scope : Scope) : Cfg := { c with sc := relS scope c.sc, fn := fun x => scope.names.lookup x == some .cell }
def Es.len : Es → Nat
  | .n => 0
  | .c _ l => l.len + 1
def isTup : Expr → Bool
  | .Tuple _ _ _ => true
  | _ => false
/-! shapes -/
def asConst : Expr → Option Const
  | .Constant v _ _ => some v
  | _ => none
def asName : Expr → Option Str
  | .Name x _ => some x
  | _ => none
def asBin : Expr → Option (Expr × Operator × Expr)
  | .BinOp a o b _ => some (a, o, b)
  | _ => none
def asCmp : Expr → Option (Expr × CmpOp × Expr)
  | .Compare a [o] [b] _ => some (a, o, b)
  | _ => none
def asChn : Expr → Option (Expr × CmpOp × CmpOp × Expr × Expr)
  | .Compare a [o, o2] [b, d] _ => some (a, o, o2, b, d)
  | _ => none
def asIx : Expr → Option (Expr × Expr)
  | .Subscript a b _ => some (a, b)
  | _ => none
def asSl : Expr → Option (Expr × Option Expr × Option Expr)
  | .Subscript a (.Slice l h none _) _ => some (a, l, h)
  | _ => none
def asNot : Expr → Option Expr
  | .UnaryOp .Not a _ => some a
  | _ => none
def asNeg : Expr → Option Expr
  | .UnaryOp .USub a _ => some a
  | _ => none
def asAnd : Expr → Option (List Expr)
  | .BoolOp .And l _ => some l
  | _ => none
def asOr : Expr → Option (List Expr)
  | .BoolOp .Or l _ => some l
  | _ => none
def asIf : Expr → Option (Expr × Expr × Expr)
  | .IfExp a b d _ => some (a, b, d)
  | _ => none
def asTup : Expr → Option (List Expr)
  | .Tuple l _ _ => some l
  | _ => none
def asLst : Expr → Option (List Expr)
  | .List l _ => some l
  | _ => none
def asCall : Expr → Option (Str × List Expr)
  | .Call (.Name x _) l [] _ => some (x, l)
  | _ => none
def asMeth : Expr → Option (Expr × Str × Pos × List Expr × Pos)
  | .Call (.Attribute a m p) l [] q => some (a, m, p, l, q)
  | _ => none
def asDnew : Expr → Option Unit
  | .Dict [] [] _ => some ()
  | _ => none
def asComp : Expr → Option (Expr × Expr × Expr × Option Expr × Scope)
  | .ListComp elt [⟨tg, iter, [], 0⟩] scope _ => some (elt, tg, iter, none, scope)
  | .ListComp elt [⟨tg, iter, [k], 0⟩] scope _ => some (elt, tg, iter, some k, scope)
  | _ => none
theorem asConst_of {e : Expr} {v} (h : asConst e = some v) : ∃ j p, e = .Constant v j p := by cases e <;> simp only [asConst, reduceCtorEq, Option.some.injEq] at h; subst h; exact ⟨_, _, rfl⟩
theorem asName_of {e : Expr} {v} (h : asName e = some v) : ∃ p, e = .Name v p := by cases e <;> simp only [asName, reduceCtorEq, Option.some.injEq] at h; subst h; exact ⟨_, rfl⟩
theorem asBin_of {e : Expr} {a o b} (h : asBin e = some (a, o, b)) : ∃ p, e = .BinOp a o b p := by unfold asBin at h; split at h <;> cases h; exact ⟨_, rfl⟩
theorem asCmp_of {e : Expr} {a o b} (h : asCmp e = some (a, o, b)) : ∃ p, e = .Compare a [o] [b] p := by unfold asCmp at h; split at h <;> cases h; exact ⟨_, rfl⟩
theorem asChn_of {e : Expr} {a o o2 b d} (h : asChn e = some (a, o, o2, b, d)) : ∃ p, e = .Compare a [o, o2] [b, d] p := by unfold asChn at h; split at h <;> cases h; exact ⟨_, rfl⟩
theorem asIx_of {e : Expr} {a b} (h : asIx e = some (a, b)) : ∃ p, e = .Subscript a b p := by unfold asIx at h; split at h <;> cases h; exact ⟨_, rfl⟩
theorem asSl_of {e : Expr} {a l d} (h : asSl e = some (a, l, d)) : ∃ p q, e = .Subscript a (.Slice l d none p) q := by unfold asSl at h; split at h <;> cases h; exact ⟨_, _, rfl⟩
theorem asNot_of {e : Expr} {a} (h : asNot e = some a) : ∃ p, e = .UnaryOp .Not a p := by unfold asNot at h; split at h <;> cases h; exact ⟨_, rfl⟩
theorem asNeg_of {e : Expr} {a} (h : asNeg e = some a) : ∃ p, e = .UnaryOp .USub a p := by unfold asNeg at h; split at h <;> cases h; exact ⟨_, rfl⟩
theorem asAnd_of {e : Expr} {a} (h : asAnd e = some a) : ∃ p, e = .BoolOp .And a p := by unfold asAnd at h; split at h <;> cases h; exact ⟨_, rfl⟩
theorem asOr_of {e : Expr} {a} (h : asOr e = some a) : ∃ p, e = .BoolOp .Or a p := by unfold asOr at h; split at h <;> cases h; exact ⟨_, rfl⟩
theorem asIf_of {e : Expr} {a b d} (h : asIf e = some (a, b, d)) : ∃ p, e = .IfExp a b d p := by unfold asIf at h; split at h <;> cases h; exact ⟨_, rfl⟩
theorem asTup_of {e : Expr} {l} (h : asTup e = some l) : ∃ p q, e = .Tuple l p q := by unfold asTup at h; split at h <;> cases h; exact ⟨_, _, rfl⟩
theorem asLst_of {e : Expr} {l} (h : asLst e = some l) : ∃ p, e = .List l p := by unfold asLst at h; split at h <;> cases h; exact ⟨_, rfl⟩
theorem asCall_of {e : Expr} {x l} (h : asCall e = some (x, l)) : ∃ p q, e = .Call (.Name x p) l [] q := by unfold asCall at h; split at h <;> cases h; exact ⟨_, _, rfl⟩
theorem asMeth_of {e : Expr} {a m p l q} (h : asMeth e = some (a, m, p, l, q)) : e = .Call (.Attribute a m p) l [] q := by unfold asMeth at h; split at h <;> cases h; rfl
theorem asDnew_of {e : Expr} {a} (h : asDnew e = some a) : ∃ p, e = .Dict [] [] p := by unfold asDnew at h; split at h <;> cases h; exact ⟨_, rfl⟩
theorem asComp_of {e : Expr} {elt tg iter k scope} (h : asComp e = some (elt, tg, iter, k, scope)) : ∃ p, e = .ListComp elt [⟨tg, iter, k.toList, 0⟩] scope p := by unfold asComp at h; split at h <;> cases h <;> exact ⟨_, rfl⟩
def isShr : E → Bool
  | .shr _ => true
  | _ => false
mutual
def chkE (c : Cfg) : E → Expr → Bool
  | .nop, _ => false
  | .non, x => match asConst x with | some .none => true | _ => false
  | .bl b, x => match asConst x with | some (.bool b') => decide (b = b') | _ => false
  | .int i, x => match asConst x with | some (.int i') => decide (i = i') | _ => false
  | .str s, x => match asConst x with | some (.str y) => decide (s = y) && strFine s | _ => false
  | .v i, x => match asName x with | some x => c.var i x | _ => false
  | .o i, x => match asName x with | some x => c.var i x | _ => false
  | .con i, x => match asName x with | some x => decide (c.t.cons.lookup i = some x) && gloB c.sc x && plainN x | _ => false
  | .bin o a b, x => match asBin x with | some (x, op, y) => decide (op = o.op) && chkE c a x && chkE c b y | _ => false
  | .cmp o a b, x => match asCmp x with | some (x, op, y) => decide (op = o.op) && chkE c a x && chkE c b y && notSet y | _ => false
  | .isx o a b, x => match asCmp x with | some (x, op, y) => decide (op = o.op) && chkE c a x && chkE c b y && notSet y | _ => false
  | .chn o o2 a b d, x => match asChn x with | some (x, op, op2, y, z) => decide (op = o.op) && decide (op2 = o2.op) && chkE c a x && chkE c b y && chkE c d z && notSet z | _ => false
  | .ix a b, x => match asIx x with | some (x, y) => chkE c a x && chkE c b y && notSlice y | _ => false
  | .sl a lo hi, x => match asSl x with | some (x, l, h) => chkE c a x && (match l with | none => isNop lo | some e => !isNop lo && chkE c lo e) && (match h with | none => isNop hi | some e => !isNop hi && chkE c hi e) | _ => false
  | .nt a, x => match asNot x with | some x => chkE c a x | _ => false
  | .neg a, x => match asNeg x with | some x => chkE c a x | _ => false
  | .and l, x => match asAnd x with | some vs => chkA c l vs | _ => false
  | .or l, x => match asOr x with | some vs => chkA c l vs | _ => false
  | .ite k a b, x => match asIf x with | some (x, y, z) => chkE c k x && chkE c a y && chkE c b z && decide (a.md c.fm ≠ .bo) && decide (b.md c.fm ≠ .bo) | _ => false
  | .tup l, x => match asTup x with | some es => chkEs c true l es | _ => false
  | .lst l, x => match asLst x with | some es => chkEs c true l es | _ => false
  | .blt f l, x => match asCall x with | some (x, e :: es) => c.bname x f.nm && chkEs c false l (e :: es) | _ => false
  | .isi t a, x => match asCall x with | some (x, [y, z]) => c.bname x "isinstance" && (match asName z with | some z => c.bname z t.nm | _ => false) && notStar y && chkE c a y | _ => false
  | .sset a, x => match asCall x with | some (x, [y]) => c.bname x "sorted" && (match asCall y with | some (z, [y]) => c.bname z "set" && notStar y && chkE c a y | _ => false) | _ => false
  | .lset a, x => match asCall x with | some (x, [y]) => c.bname x "len" && (match asCall y with | some (z, [y]) => c.bname z "set" && notStar y && chkE c a y | _ => false) | _ => false
  | .lrng a, x => match asCall x with | some (x, [y]) => c.bname x "list" && (match asCall y with | some (z, [y]) => c.bname z "range" && notStar y && chkE c a y | _ => false) | _ => false
  | .idx a b, x => match asMeth x with | some (x, m, p, [y], q) => decide (m = "index") && (p.endLine == q.line) && notCallee x && notStar y && chkE c a x && chkE c b y | _ => false
  | .dnew, x => match asDnew x with | some _ => true | _ => false
  | .shr a, x => chkE c a x && decide (a.md c.fm ≠ .bo) && !isShr a
  | .comp t vs s k e, x => match asComp x with
    | some (elt, tg, iter, cnd, scope) => (match cnd with | none => isNop k | some cnd => !isNop k && chkE (c.blk scope) k cnd) && blkC c.N c.sc scope (ownOf c.N vs) && t.slots.all (fun i => decide (i ∈ vs)) && tgB (c.blk scope) t tg && chkSr c s tg iter && notSet iter && chkE (c.blk scope) e elt && decide (e.md c.fm ≠ .bo)
    | _ => false
  | .call f l, x => match asCall x with
    | some (x, es) => (match c.t.fns.lookup f with
      | some (y, m, n) => decide (y = x) && decide (es.length = n) && decide (c.t.fm.getD f .sh = m)
      | none => false) && gloB c.sc x && plainN x && chkEs c true l es
    | _ => false
def chkA (c : Cfg) : Es → List Expr → Bool
  | .n, _ => false
  | .c e l, xs => match xs with
    | [] => false
    | [x] => (l matches .n) && chkE c e x
    | x :: y :: r => chkE c e x && chkA c l (y :: r) && decide (e.md c.fm ≠ .bo) && decide ((E.and l).md c.fm ≠ .bo)
def chkEs (c : Cfg) (sh : Bool) : Es → List Expr → Bool
  | .n, xs => xs.isEmpty
  | .c e l, xs => match xs with
    | [] => false
    | x :: r => chkE c e x && notStar x && (!sh || decide (e.md c.fm ≠ .bo)) && chkEs c sh l r
def chkSr (c : Cfg) : Sr → Expr → Expr → Bool
  | .seq e, _, iter => chkE c e iter
  | .rng1 a, _, iter => match asCall iter with | some (x, [y]) => c.bname x "range" && notStar y && chkE c a y | _ => false
  | .rng2 a b, _, iter => match asCall iter with | some (x, [y, z]) => c.bname x "range" && notStar y && notStar z && chkE c a y && chkE c b z | _ => false
  | .zip a b, tg, iter => match asCall iter with | some (x, [y, z]) => isTup tg && c.bname x "zip" && notStar y && notStar z && chkE c a y && chkE c b z && decide (a.md c.fm ≠ .bo) && decide (b.md c.fm ≠ .bo) | _ => false
end
def Sr.bo (fm : List Md) : Sr → Bool
  | .seq e => decide (e.md fm = .bo)
  | _ => false
end Py
end
section
set_option maxHeartbeats 4000000
namespace Py
open PySem PySem.Spec PyProof.Rows L2 LamX

structure CtxOk (X : Cx) (c : Cfg) (T : Tb) (W : WX) (C : List D) (G : GT) (lev : Nat) : Prop where
  N : X.N = c.N
  sc : X.env.scope = c.sc
  fn : X.fn = c.fn
  calm : X.calm = true
  nd : X.N.Nodup
  room : Room lev X.A
  tk : Takes X W
  free : ∀ x ∈ c.t.free, X.mg x = none
  fns : ∀ (i : Nat) (x : Str) (m : Md) (n : Nat), c.t.fns.lookup i = some (x, m, n) → FnAt X T lev x m n (callG G i)
  cons : ∀ (i : Nat) (x : Str), c.t.cons.lookup i = some x → ∃ d v u, C[i]? = some d ∧ X.mg x = some u ∧ RelV v u ∧ ∀ H, Rep X.K H d v
section
variable {X : Cx} {c : Cfg} {T : Tb} {W : WX} {C : List D} {G : GT} {lev : Nat}
theorem CtxOk.gl (k : CtxOk X c T W C G lev) {x : Str} (h : gloB c.sc x = true) : Gl X x := by
  unfold gloB at h
  show X.env.scope.names.lookup x = _
  rw [k.sc]
  split at h
  · assumption
  · cases h
theorem plainN_of {x : Str} (h : plainN x = true) : (x == ("__debug__" : Str)) = false ∧ (x == ("__classdict__" : Str)) = false ∧ x ≠ "__name__" := by
  simp only [plainN, Bool.and_eq_true, Bool.not_eq_true', decide_eq_true_eq] at h
  exact ⟨h.1.1, h.1.2, h.2⟩
theorem CtxOk.var (k : CtxOk X c T W C G lev) {i : Nat} {x : Str} (h : c.var i x = true) : X.N[i]? = some x ∧ Vis X.env.scope x ∧ (x == ("__debug__" : Str)) = false ∧ (x == ("__classdict__" : Str)) = false := by
  simp only [Cfg.var, Bool.and_eq_true, decide_eq_true_eq] at h
  obtain ⟨⟨h1, h2⟩, h3⟩ := h
  obtain ⟨h4, h5, _⟩ := plainN_of h3
  refine ⟨by rw [k.N]; exact h1, ?_, h4, h5⟩
  unfold visB at h2
  unfold Vis
  rw [k.sc]
  split at h2 <;> first | exact .inl (by assumption) | exact .inr (.inl (by assumption)) | exact .inr (.inr (by assumption)) | cases h2
theorem CtxOk.bname (k : CtxOk X c T W C G lev) {x : Str} {s : String} (h : c.bname x s = true) : x = Str.ofString s ∧ Gl X (Str.ofString s) ∧ X.mg (Str.ofString s) = none := by
  simp only [Cfg.bname, Bool.and_eq_true, decide_eq_true_eq] at h
  exact ⟨h.1.1, k.gl h.1.2, k.free _ h.2⟩
theorem CtxOk.unit (k : CtxOk X c T W C G lev) : X.A.units + 200 < cLine := by
  have := k.room.un
  omega
theorem locB_of {sc : Scope} {x : Str} (h : locB sc x = true) : sc.names.lookup x = some .local ∨ sc.names.lookup x = some .cell := by
  unfold locB at h
  split at h <;> first | exact .inl (by assumption) | exact .inr (by assumption) | cases h
theorem localB_of {sc : Scope} {x : Str} (h : localB sc x = true) : sc.names.lookup x = some .local := by
  unfold localB at h
  split at h <;> first | assumption | cases h
/-- what targets need of a context -/
structure TgCtx (X : Cx) (c : Cfg) : Prop where
  N : X.N = c.N
  sc : X.env.scope = c.sc
  fn : X.fn = c.fn
  calm : X.calm = true
  nd : X.N.Nodup
theorem CtxOk.tg (k : CtxOk X c T W C G lev) : TgCtx X c := ⟨k.N, k.sc, k.fn, k.calm, k.nd⟩
theorem TgCtx.ok (k : TgCtx X c) {i : Nat} {x : Str} (h : c.tgOk i x = true) : X.N[i]? = some x ∧ L2.Loc X.env.scope x ∧ (X.fn x = true ∨ X.env.scope.names.lookup x = some .local) := by
  simp only [Cfg.tgOk, Bool.and_eq_true, decide_eq_true_eq, Bool.or_eq_true] at h
  refine ⟨by rw [k.N]; exact h.1.1, ?_, ?_⟩
  · unfold L2.Loc; rw [k.sc]; exact locB_of h.1.2
  · rw [k.fn, k.sc]
    exact h.2.imp id localB_of
theorem tgs_ok (k : TgCtx X c) : ∀ {is : List Nat} {es : List Expr}, tgsB c is es = true → TgsOk X es is
  | [], [], _ => tgs_nil
  | [], _ :: _, h => by cases h
  | i :: is, [], h => by cases h
  | i :: is, e :: es, h => by
    cases e <;> first
      | (cases h; done)
      | (simp only [tgsB, Bool.and_eq_true] at h
         obtain ⟨h1, h2, h3⟩ := k.ok h.1
         exact tgs_cons k.nd h1 h2 h3 (tgs_ok k h.2))
theorem tg_ok (k : TgCtx X c) {t : Tg} {e : Expr} (h : tgB c t e = true) : PG X e (gOf X.K t) := by
  unfold tgB at h
  split at h
  · obtain ⟨h1, h2, h3⟩ := k.ok h
    exact tg_v k.nd h1 h2 h3
  · exact tg_t k.calm (tgs_ok k h)
  · cases h
/-- built-ins -/
theorem blt_ok (k : CtxOk X c T W C G lev) {f : Blt} {x : Str} {p pos : Pos} {e : Expr} {es : List Expr} {g : Env → RR (List D)} (hb : c.bname x f.nm = true) (ha : PA X (e :: es) (tDA X.K T W false g)) (hs : (e :: es).all notStar = true) :
    PE X (.Call (.Name x p) (e :: es) [] pos) (tD X.K T W f.md fun ρ => do let xs ← g ρ; RR.of (f.g xs)) := by
  obtain ⟨rfl, hg, hm⟩ := k.bname hb
  have hu := k.unit
  cases f
  · exact d_bltB cr_len hg hm PySem.boot_len ha hs (by decide +kernel) (by decide +kernel)
  · exact d_bltT cr_int hg hm (by decide +kernel) ha hs (by decide +kernel) (by decide +kernel)
  · exact d_bltB cr_abs hg hm (by decide +kernel) ha hs (by decide +kernel) (by decide +kernel)
  · exact d_bltB (cr_sumD k.calm) hg hm (by decide +kernel) ha hs (by decide +kernel) (by decide +kernel)
  · exact d_bltB (cr_allD k.calm) hg hm (by decide +kernel) ha hs (by decide +kernel) (by decide +kernel)
  · exact d_bltB (cr_anyD k.calm) hg hm (by decide +kernel) ha hs (by decide +kernel) (by decide +kernel)
  · exact d_bltB (cr_maxD k.calm (by omega)) hg hm (by decide +kernel) ha hs (by decide +kernel) (by decide +kernel)
  · exact d_bltB (cr_minD k.calm) hg hm (by decide +kernel) ha hs (by decide +kernel) (by decide +kernel)
  · exact d_bltB (cr_sortedD' (by omega)) hg hm (by decide +kernel) ha hs (by decide +kernel) (by decide +kernel)
  · exact d_bltT cr_listD hg hm (by decide +kernel) ha hs (by decide +kernel) (by decide +kernel)
  · exact d_bltT cr_tupleD hg hm (by decide +kernel) ha hs (by decide +kernel) (by decide +kernel)
/-- the context of a comprehension's block -/
theorem CtxOk.blk (k : CtxOk X c T W C G lev) (scope : Scope) (s : Shared) (H : Hp) (A : Addr) (cl : List (Str × Addr)) (fp : List Addr) : CtxOk (X.blk s H scope (compEnvC scope cl A X.env) fp) (c.blk scope) T noW C G lev where
  N := k.N
  sc := by
    show relS scope X.env.scope = relS scope c.sc
    rw [k.sc]
  fn := rfl
  calm := k.calm
  nd := k.nd
  room := k.room
  tk := takes_blk
  free := k.free
  fns := fun i x m n h => ⟨(k.fns i x m n h).ex⟩
  cons := k.cons
theorem len_evs : ∀ {l : Es} {ρ : Env} {xs : List D}, evs C G l ρ = .ok xs → xs.length = l.len
  | .n, ρ, xs, h => by cases h; rfl
  | .c e l, ρ, xs, h => by
    unfold evs at h
    cases q : ev C G e ρ with
    | ok d =>
      rw [q] at h
      simp only [RR.bind_ok] at h
      cases q2 : evs C G l ρ with
      | ok ys => rw [q2] at h; cases h; rw [List.length_cons, len_evs q2]; rfl
      | ex c => rw [q2] at h; cases h
      | bad => rw [q2] at h; cases h
    | ex c => rw [q] at h; cases h
    | bad => rw [q] at h; cases h
theorem len_chk : ∀ {l : Es} {sh : Bool} {xs : List Expr}, chkEs c sh l xs = true → xs.length = l.len ∧ xs.all notStar = true
  | .n, sh, xs, h => by
    simp only [chkEs, List.isEmpty_iff] at h
    subst h; exact ⟨rfl, rfl⟩
  | .c e l, sh, [], h => by simp [chkEs] at h
  | .c e l, sh, x :: r, h => by
    simp only [chkEs, Bool.and_eq_true] at h
    obtain ⟨h1, h2⟩ := len_chk h.2
    exact ⟨by rw [List.length_cons, h1]; rfl, by rw [List.all_cons, h.1.1.2, h2]; rfl⟩
theorem d_mj {e : Expr} {a b : Md} {f : Env → RR D} (ha : a ≠ .bo) (h : PE X e (tD X.K T W a f)) : PE X e (tD X.K T W (mjoin a b) f) := by
  cases a
  · cases b <;> exact h
  · cases b
    · exact d_sh (by decide) h
    · exact h
    · exact d_sh (by decide) h
  · exact (ha rfl).elim
theorem mjoin_comm (a b : Md) : mjoin a b = mjoin b a := by cases a <;> cases b <;> rfl
theorem ownOf_map {N : List Str} : ∀ vs : List Nat, (ownOf N vs).map (·.2) = vs
  | [] => rfl
  | v :: vs => by
    have := ownOf_map (N := N) vs
    unfold ownOf at this ⊢
    rw [List.map_cons, List.map_cons, this]
theorem md_or (l : Es) : (E.or l).md c.fm = (E.and l).md c.fm := by
  cases l with
  | n => rfl
  | c e l => cases l <;> rfl
theorem isNop_of {e : E} (h : isNop e = true) : e = .nop := by cases e <;> first | rfl | cases h
def Both (X : Cx) (T : Tb) (W : WX) (m : Md) (f : Env → RR D) (x : Expr) : Prop := PE X x (tD X.K T W m f) ∧ PT X x (tDT X.K T W fun ρ => f ρ >>= truR)
theorem both_val {m : Md} {f : Env → RR D} {x : Expr} (h : PE X x (tD X.K T W m f)) (hp : plainTest x = true) : Both X T W m f x := ⟨h, t_val h hp⟩
theorem t_neg {a : Expr} {pos : Pos} {m : Md} {f : Env → RR D} (h : PE X (.UnaryOp .USub a pos) (tD X.K T W m f)) : PT X (.UnaryOp .USub a pos) (tDT X.K T W fun ρ => f ρ >>= truR) := by
  refine ptImp (pt_truth h fun _ => rfl) fun σ H Q ⟨ρ, Z, st, p⟩ => ⟨ρ, Z, st, Post.thenX p fun d v H1 _ e1 r1 p1 => ?_⟩
  cases q : truD d with
  | none => unfold truR at p1; rw [q] at p1; exact p1.elim
  | some k =>
    unfold truR at p1; rw [q] at p1
    exact ⟨k, truV_of exUnhide r1.b q, p1 H1 (Ext.refl e1.tabs)⟩
theorem cop_op (o : Cop) (hu : X.A.units + 200 < cLine) : OpR X (compareOp o.op) (rDC X.K T (cmpB o)) := op_cmpB (by omega) o
theorem iop_op (o : Iop) : OpR X (compareOp o.op) (rDC X.K T o.g) := by
  cases o
  · exact op_isG
  · exact op_isntG
theorem evA_one {e : E} : evA C G (.c e .n) = ev C G e := by
  funext ρ
  simp only [evA]
  rw [if_pos trivial]
theorem evA_more {e e' : E} {l : Es} : evA C G (.c e (.c e' l)) = (fun ρ => do let x ← ev C G e ρ; let k ← truR x; if k then evA C G (.c e' l) ρ else .ok x) := by
  funext ρ
  conv => lhs; unfold evA
  rw [if_neg Bool.false_ne_true]
theorem evR_one {e : E} : evR C G (.c e .n) = ev C G e := by
  funext ρ
  simp only [evR]
  rw [if_pos trivial]
theorem evR_more {e e' : E} {l : Es} : evR C G (.c e (.c e' l)) = (fun ρ => do let x ← ev C G e ρ; let k ← truR x; if k then .ok x else evR C G (.c e' l) ρ) := by
  funext ρ
  conv => lhs; unfold evR
  rw [if_neg Bool.false_ne_true]
mutual
theorem sE : ∀ (e : E) {X : Cx} {c : Cfg} {W : WX} {x : Expr}, CtxOk X c T W C G lev → chkE c e x = true → Both X T W (e.md c.fm) (ev C G e) x
  | .nop, X, c, W, x, k, h => by simp [chkE] at h
  | .non, X, c, W, x, k, h => by
    simp only [chkE] at h
    split at h
    · rename_i q
      obtain ⟨j, p, rfl⟩ := asConst_of q
      exact both_val d_non rfl
    · cases h
  | .bl b, X, c, W, x, k, h => by
    simp only [chkE] at h
    split at h
    · rename_i q
      obtain ⟨j, p, rfl⟩ := asConst_of q
      obtain rfl := of_decide_eq_true h
      exact both_val d_bl rfl
    · cases h
  | .int i, X, c, W, x, k, h => by
    simp only [chkE] at h
    split at h
    · rename_i q
      obtain ⟨j, p, rfl⟩ := asConst_of q
      obtain rfl := of_decide_eq_true h
      exact both_val d_int rfl
    · cases h
  | .str i, X, c, W, x, k, h => by
    simp only [chkE] at h
    split at h
    · rename_i q
      obtain ⟨j, p, rfl⟩ := asConst_of q
      rw [Bool.and_eq_true] at h
      obtain rfl := of_decide_eq_true h.1
      exact both_val (d_str h.2) rfl
    · cases h
  | .v i, X, c, W, x, k, h => by
    simp only [chkE] at h
    split at h
    · rename_i q
      obtain ⟨p, rfl⟩ := asName_of q
      obtain ⟨h1, h2, h3, h4⟩ := k.var h
      exact both_val (d_var h1 h2 h3 h4) rfl
    · cases h
  | .o i, X, c, W, x, k, h => by
    simp only [chkE] at h
    split at h
    · rename_i q
      obtain ⟨p, rfl⟩ := asName_of q
      obtain ⟨h1, h2, h3, h4⟩ := k.var h
      exact both_val (d_own h1 h2 h3 h4) rfl
    · cases h
  | .con i, X, c, W, x, k, h => by
    simp only [chkE] at h
    split at h
    · rename_i q
      obtain ⟨p, rfl⟩ := asName_of q
      simp only [Bool.and_eq_true, decide_eq_true_eq] at h
      obtain ⟨h4, h5, _⟩ := plainN_of h.2
      obtain ⟨d, v, u, e1, e2, e3, e4⟩ := k.cons i _ h.1.1
      refine both_val ?_ rfl
      refine peImp (d_con (T := T) (W := W) (k.gl h.1.2) e2 e3 e4 h4) fun σ H Q hq => ?_
      obtain ⟨ρ, Z, st, p⟩ := hq
      refine ⟨ρ, Z, st, ?_⟩
      simp only [ev, e1, RR.of] at p
      exact p
    · cases h
  | .bin o a b, X, c, W, x, k, h => by
    simp only [chkE] at h
    split at h
    · rename_i q
      obtain ⟨p, rfl⟩ := asBin_of q
      simp only [Bool.and_eq_true, decide_eq_true_eq] at h
      obtain rfl := h.1.1
      refine both_val (m := .sh) ?_ rfl
      have := d_bin (pos := p) (op_binD o) (sE a k h.1.2).1 (sE b k h.2).1
      simpa only [ev] using this
    · cases h
  | .cmp o a b, X, c, W, x, k, h => by
    simp only [chkE] at h
    split at h
    · rename_i q
      obtain ⟨p, rfl⟩ := asCmp_of q
      simp only [Bool.and_eq_true, decide_eq_true_eq] at h
      obtain rfl := h.1.1.1
      have h1 := (sE a k h.1.1.2).1
      have h2 := (sE b k h.1.2).1
      refine (show Both X T W .sh (ev C G (.cmp o a b)) _ from ⟨?_, ?_⟩)
      · have := d_cmp (pos := p) (cop_op o k.unit) h1 h2 h.2
        simpa only [ev] using this
      · have := t_cmp (pos := p) (cop_op o k.unit) h1 h2 h.2
        simpa only [ev] using this
    · cases h
  | .isx o a b, X, c, W, x, k, h => by
    simp only [chkE] at h
    split at h
    · rename_i q
      obtain ⟨p, rfl⟩ := asCmp_of q
      simp only [Bool.and_eq_true, decide_eq_true_eq] at h
      obtain rfl := h.1.1.1
      have h1 := (sE a k h.1.1.2).1
      have h2 := (sE b k h.1.2).1
      refine (show Both X T W .sh (ev C G (.isx o a b)) _ from ⟨?_, ?_⟩)
      · have := d_cmp (pos := p) (iop_op o) h1 h2 h.2
        simpa only [ev] using this
      · have := t_cmp (pos := p) (iop_op o) h1 h2 h.2
        simpa only [ev] using this
    · cases h
  | .chn o o2 a b d, X, c, W, x, k, h => by
    simp only [chkE] at h
    split at h
    · rename_i q
      obtain ⟨p, rfl⟩ := asChn_of q
      simp only [Bool.and_eq_true, decide_eq_true_eq] at h
      obtain ⟨⟨⟨⟨⟨e1, e2⟩, ha⟩, hb⟩, hd⟩, hn⟩ := h
      subst e1 e2
      have h1 := (sE a k ha).1
      have h2 := (sE b k hb).1
      have h3 := (sE d k hd).1
      refine (show Both X T W .sh (ev C G (.chn o o2 a b d)) _ from ⟨?_, ?_⟩)
      · have := d_chn (pos := p) (cop_op o k.unit) (cop_op o2 k.unit) h1 h2 h3 hn
        simpa only [ev] using this
      · have := t_chn (pos := p) (cop_op o k.unit) (cop_op o2 k.unit) h1 h2 h3 hn
        simpa only [ev] using this
    · cases h
  | .ix a b, X, c, W, x, k, h => by
    simp only [chkE] at h
    split at h
    · rename_i q
      obtain ⟨p, rfl⟩ := asIx_of q
      simp only [Bool.and_eq_true] at h
      have hu := k.unit
      refine both_val (m := .sh) ?_ rfl
      have := d_ix (pos := p) (ix_D (T := T) (by omega)) (sE a k h.1.1).1 (sE b k h.1.2).1 h.2
      simpa only [ev] using this
    · cases h
  | .sl a lo hi, X, c, W, x, k, h => by
    simp only [chkE] at h
    split at h
    · rename_i l hh q
      obtain ⟨p, p2, rfl⟩ := asSl_of q
      simp only [Bool.and_eq_true] at h
      refine both_val (m := .sh) ?_ rfl
      have part : ∀ (e : E) (o : Option Expr), (∀ (y : Expr), chkE c e y = true → Both X T W (e.md c.fm) (ev C G e) y) → (match o with | none => isNop e | some y => !isNop e && chkE c e y) = true → PartOk X T W o (fun ρ => if isNop e then .ok none else ev C G e ρ >>= intO) := by
        intro e o ih ho
        cases o with
        | none =>
          have ho : isNop e = true := ho
          rw [ho]; exact part_none
        | some y =>
          have ho : (!isNop e && chkE c e y) = true := ho
          rw [Bool.and_eq_true, Bool.not_eq_true'] at ho
          rw [ho.1]
          exact part_some (ih y ho.2).1
      have p1 := part lo _ (fun y hy => sE lo k hy) h.1.2
      have p3 := part hi _ (fun y hy => sE hi k hy) h.2
      have := d_sl (pos := p2) (p2 := p) (sE a k h.1.1).1 p1 p3
      simpa only [ev] using this
    · cases h
  | .nt a, X, c, W, x, k, h => by
    simp only [chkE] at h
    split at h
    · rename_i q
      obtain ⟨p, rfl⟩ := asNot_of q
      have h1 := sE a k h
      refine (show Both X T W .sh (ev C G (.nt a)) _ from ⟨?_, ?_⟩)
      · have := d_not (pos := p) h1.1
        simpa only [ev] using this
      · have := t_not (pos := p) h1.2
        simpa only [ev] using this
    · cases h
  | .neg a, X, c, W, x, k, h => by
    simp only [chkE] at h
    split at h
    · rename_i q
      obtain ⟨p, rfl⟩ := asNeg_of q
      have h1 := sE a k h
      have h2 := d_neg (pos := p) h1.1
      refine (show Both X T W .sh (ev C G (.neg a)) _ from ⟨by simpa only [ev] using h2, ?_⟩)
      have := t_neg h2
      simpa only [ev] using this
    · cases h
  | .and l, X, c, W, x, k, h => by
    simp only [chkE] at h
    split at h
    · rename_i q
      obtain ⟨p, rfl⟩ := asAnd_of q
      obtain ⟨h1, h2⟩ := sA l (pos := p) k h
      refine ⟨by simpa only [ev] using h1, ?_⟩
      have := h2.pt
      simpa only [ev] using this
    · cases h
  | .or l, X, c, W, x, k, h => by
    simp only [chkE] at h
    split at h
    · rename_i q
      obtain ⟨p, rfl⟩ := asOr_of q
      obtain ⟨h1, h2⟩ := sR l (pos := p) k h
      refine ⟨by rw [md_or]; simpa only [ev] using h1, ?_⟩
      have := h2.pt
      simpa only [ev] using this
    · cases h
  | .ite q a b, X, c, W, x, k, h => by
    simp only [chkE] at h
    split at h
    · rename_i q0
      obtain ⟨p, rfl⟩ := asIf_of q0
      simp only [Bool.and_eq_true, decide_eq_true_eq] at h
      obtain ⟨⟨⟨⟨hq, ha⟩, hb⟩, ma⟩, mb⟩ := h
      have h1 := sE q k hq
      have h2 := sE a k ha
      have h3 := sE b k hb
      refine ⟨?_, ?_⟩
      · have h4 := d_mj (b := a.md c.fm) mb h3.1
        rw [mjoin_comm] at h4
        have := d_ite (pos := p) h1.2 (d_mj (b := b.md c.fm) ma h2.1) h4
        show PE X _ (tD X.K T W (mjoin (a.md c.fm) (b.md c.fm)) _)
        simpa only [ev] using this
      · have := t_ite (pos := p) h1.2 h2.2 h3.2
        simpa only [ev] using this
    · cases h
  | .tup l, X, c, W, x, k, h => by
    simp only [chkE] at h
    split at h
    · rename_i q
      obtain ⟨p, p2, rfl⟩ := asTup_of q
      refine both_val (m := .sh) ?_ rfl
      have := d_tup (pos := p2) (x1 := p) (sEs l k h)
      simpa only [ev] using this
    · cases h
  | .lst l, X, c, W, x, k, h => by
    simp only [chkE] at h
    split at h
    · rename_i q
      obtain ⟨p, rfl⟩ := asLst_of q
      refine both_val (m := .fr) ?_ rfl
      have := d_lst (pos := p) (sEs l k h)
      simpa only [ev] using this
    · cases h
  | .blt f l, X, c, W, x, k, h => by
    simp only [chkE] at h
    split at h
    · rename_i q
      obtain ⟨p, p2, rfl⟩ := asCall_of q
      rw [Bool.and_eq_true] at h
      refine both_val (m := f.md) ?_ rfl
      have := blt_ok (pos := p2) (p := p) k h.1 (sEs l k h.2) (len_chk h.2).2
      simpa only [ev] using this
    · cases h
  | .isi t a, X, c, W, x, k, h => by
    simp only [chkE] at h
    split at h
    · rename_i q
      obtain ⟨p, p2, rfl⟩ := asCall_of q
      simp only [Bool.and_eq_true] at h
      obtain ⟨⟨⟨h1, h2⟩, h3⟩, h4⟩ := h
      split at h2
      · rename_i q2
        obtain ⟨p3, rfl⟩ := asName_of q2
        obtain ⟨rfl, g1, g2⟩ := k.bname h1
        obtain ⟨rfl, g3, g4⟩ := k.bname h2
        refine both_val (m := .sh) ?_ rfl
        have := d_isi (pos := p2) (p := p) (p2 := p3) g1 g2 g3 g4 h3 (sE a k h4).1
        simpa only [ev] using this
      · cases h2
    · cases h
  | .sset a, X, c, W, x, k, h => by
    simp only [chkE] at h
    split at h
    · rename_i q
      obtain ⟨p, p2, rfl⟩ := asCall_of q
      rw [Bool.and_eq_true] at h
      obtain ⟨h1, h2⟩ := h
      split at h2
      · rename_i q2
        obtain ⟨p3, p4, rfl⟩ := asCall_of q2
        simp only [Bool.and_eq_true] at h2
        obtain ⟨rfl, g1, g2⟩ := k.bname h1
        obtain ⟨rfl, g3, g4⟩ := k.bname h2.1.1
        refine both_val (m := .fr) ?_ rfl
        have := d_sset (pos := p2) (p := p) (p2 := p3) (q := p4) k.calm k.unit g1 g2 g3 g4 h2.1.2 (sE a k h2.2).1
        simpa only [ev] using this
      · cases h2
    · cases h
  | .lset a, X, c, W, x, k, h => by
    simp only [chkE] at h
    split at h
    · rename_i q
      obtain ⟨p, p2, rfl⟩ := asCall_of q
      rw [Bool.and_eq_true] at h
      obtain ⟨h1, h2⟩ := h
      split at h2
      · rename_i q2
        obtain ⟨p3, p4, rfl⟩ := asCall_of q2
        simp only [Bool.and_eq_true] at h2
        obtain ⟨rfl, g1, g2⟩ := k.bname h1
        obtain ⟨rfl, g3, g4⟩ := k.bname h2.1.1
        refine both_val (m := .sh) ?_ rfl
        have := d_lset (pos := p2) (p := p) (p2 := p3) (q := p4) k.calm k.unit g1 g2 g3 g4 h2.1.2 (sE a k h2.2).1
        simpa only [ev] using this
      · cases h2
    · cases h
  | .lrng a, X, c, W, x, k, h => by
    simp only [chkE] at h
    split at h
    · rename_i q
      obtain ⟨p, p2, rfl⟩ := asCall_of q
      rw [Bool.and_eq_true] at h
      obtain ⟨h1, h2⟩ := h
      split at h2
      · rename_i q2
        obtain ⟨p3, p4, rfl⟩ := asCall_of q2
        simp only [Bool.and_eq_true] at h2
        obtain ⟨rfl, g1, g2⟩ := k.bname h1
        obtain ⟨rfl, g3, g4⟩ := k.bname h2.1.1
        refine both_val (m := .fr) ?_ rfl
        have := d_lrng (pos := p2) (p := p) (p2 := p3) (q := p4) k.calm g1 g2 g3 g4 h2.1.2 (sE a k h2.2).1
        simpa only [ev] using this
      · cases h2
    · cases h
  | .idx a b, X, c, W, x, k, h => by
    simp only [chkE] at h
    split at h
    · rename_i q
      have e0 := asMeth_of q
      subst e0
      simp only [Bool.and_eq_true, decide_eq_true_eq] at h
      obtain ⟨⟨⟨⟨⟨rfl, h2⟩, h3⟩, h4⟩, h5⟩, h6⟩ := h
      have hu := k.unit
      refine both_val (m := .sh) ?_ rfl
      have := d_idx (by omega) h3 h4 h2 (sE a k h5).1 (sE b k h6).1
      simpa only [ev] using this
    · cases h
  | .dnew, X, c, W, x, k, h => by
    simp only [chkE] at h
    split at h
    · rename_i q
      obtain ⟨p, rfl⟩ := asDnew_of q
      refine both_val (m := .fr) ?_ rfl
      have := d_dnew (X := X) (T := T) (W := W) (pos := p)
      simpa only [ev] using this
    · cases h
  | .shr a, X, c, W, x, k, h => by
    simp only [chkE, Bool.and_eq_true, decide_eq_true_eq] at h
    obtain ⟨h1, h2⟩ := sE a k h.1.1
    refine (show Both X T W .sh (ev C G (.shr a)) _ from ⟨?_, ?_⟩)
    · have := d_sh h.1.2 h1
      simpa only [ev] using this
    · simpa only [ev] using h2
  | .comp t vs s q e, X, c, W, x, k, h => by
    simp only [chkE] at h
    split at h
    · rename_i elt tg iter cnd scope q0
      obtain ⟨p, rfl⟩ := asComp_of q0
      simp only [Bool.and_eq_true, decide_eq_true_eq, List.all_eq_true] at h
      obtain ⟨⟨⟨⟨⟨⟨⟨hk, hb⟩, hv⟩, ht⟩, hs⟩, hn⟩, he⟩, hm⟩ := h
      refine both_val (m := .fr) ?_ rfl
      have hsl : ∀ i ∈ t.slots, i ∈ (ownOf c.N vs).map (·.2) := by rw [ownOf_map]; exact hv
      have hbk : BlkOk X.N X.env.scope scope (ownOf c.N vs) := by rw [k.N, k.sc]; exact blkOk_by hb
      cases cnd with
      | none =>
        have hk : isNop q = true := hk
        have := d_comp (pos := p) (t := t) k.calm k.nd (sSr s k hs) hbk (fun s H A cl fp => tg_ok (k.blk scope s H A cl fp).tg ht) (fun s H A cl fp => (sE e (k.blk scope s H A cl fp) he).1) hn hsl hm
        rw [ownOf_map] at this
        refine peImp this fun σ H Q hq => ?_
        simp only [ev, hk] at hq
        exact hq
      | some y =>
        have hk : (!isNop q && chkE (c.blk scope) q y) = true := hk
        rw [Bool.and_eq_true, Bool.not_eq_true'] at hk
        have := d_compIf (pos := p) (t := t) k.calm k.nd (sSr s k hs) hbk (fun s H A cl fp => tg_ok (k.blk scope s H A cl fp).tg ht) (fun s H A cl fp => (sE q (k.blk scope s H A cl fp) hk.2).2) (fun s H A cl fp => (sE e (k.blk scope s H A cl fp) he).1) hn hsl hm
        rw [ownOf_map] at this
        refine peImp this fun σ H Q hq => ?_
        simp only [ev, hk.1] at hq
        exact hq
    · cases h
  | .call f l, X, c, W, x, k, h => by
    simp only [chkE] at h
    split at h
    · rename_i x es q
      obtain ⟨p, p2, rfl⟩ := asCall_of q
      simp only [Bool.and_eq_true] at h
      obtain ⟨⟨⟨h1, h2⟩, h3⟩, h4⟩ := h
      split at h1
      · rename_i y m n q2
        simp only [Bool.and_eq_true, decide_eq_true_eq] at h1
        obtain ⟨⟨rfl, hl⟩, hmd⟩ := h1
        obtain ⟨h5, h6, _⟩ := plainN_of h3
        have F := k.fns f _ _ _ q2
        have emd : (E.call f l).md c.fm = m := hmd
        obtain ⟨l1, l2⟩ := len_chk h4
        refine both_val (m := m) ?_ rfl |> fun z => by rw [emd]; exact z
        cases es with
        | nil =>
          have n0 : n = 0 := hl.symm
          subst n0
          refine peImp (d_call0 (p := p) (pos := p2) F k.room k.tk (k.gl h2) h5) fun σ H Q hq => ?_
          obtain ⟨ρ, Z, st, hp⟩ := hq
          refine ⟨ρ, Z, st, ?_⟩
          cases l with
          | n => exact hp
          | c e l => simp [Es.len] at l1
        | cons e es =>
          refine peImp (d_call (p := p) (pos := p2) F k.room k.tk (k.gl h2) (sEs l k h4) l2 h5) fun σ H Q hq => ?_
          obtain ⟨ρ, Z, st, hp⟩ := hq
          refine ⟨ρ, Z, st, ?_⟩
          simp only [ev] at hp
          dsimp only
          cases q3 : evs C G l ρ with
          | ok xs =>
            rw [q3] at hp
            have := len_evs q3
            simp only [RR.bind_ok]
            rw [if_pos (by omega)]
            exact hp
          | ex c => rw [q3] at hp; exact hp
          | bad => rw [q3] at hp; exact hp
      · cases h1
    · cases h
theorem sA : ∀ (l : Es) {X : Cx} {c : Cfg} {W : WX} {xs : List Expr} {pos : Pos}, CtxOk X c T W C G lev → chkA c l xs = true → PE X (.BoolOp .And xs pos) (tD X.K T W ((E.and l).md c.fm) (evA C G l)) ∧ PW X (.BoolOp .And xs pos) (tDT X.K T W fun ρ => evA C G l ρ >>= truR)
  | .n, X, c, W, xs, pos, k, h => by simp [chkA] at h
  | .c e l, X, c, W, xs, pos, k, h => by
    simp only [chkA] at h
    split at h
    · cases h
    · rename_i y
      rw [Bool.and_eq_true] at h
      cases l with
      | c _ _ => cases h.1
      | n =>
        have h1 := sE e k h.2
        rw [evA_one]
        exact ⟨d_and1 (pos := pos) (op := .And) h1.1, t_and1 (pos := pos) h1.2⟩
    · rename_i y z r
      simp only [Bool.and_eq_true, decide_eq_true_eq] at h
      obtain ⟨⟨⟨h1, h2⟩, h3⟩, h4⟩ := h
      cases l with
      | n => simp [chkA] at h2
      | c e' l' =>
        have i1 := sE e k h1
        obtain ⟨i2, i3⟩ := sA (.c e' l') (pos := pos) k h2
        rw [evA_more]
        exact ⟨d_and (pos := pos) h3 h4 i1.1 i2, t_and (pos := pos) i1.2 i3⟩
theorem sR : ∀ (l : Es) {X : Cx} {c : Cfg} {W : WX} {xs : List Expr} {pos : Pos}, CtxOk X c T W C G lev → chkA c l xs = true → PE X (.BoolOp .Or xs pos) (tD X.K T W ((E.and l).md c.fm) (evR C G l)) ∧ PW X (.BoolOp .Or xs pos) (tDT X.K T W fun ρ => evR C G l ρ >>= truR)
  | .n, X, c, W, xs, pos, k, h => by simp [chkA] at h
  | .c e l, X, c, W, xs, pos, k, h => by
    simp only [chkA] at h
    split at h
    · cases h
    · rename_i y
      rw [Bool.and_eq_true] at h
      cases l with
      | c _ _ => cases h.1
      | n =>
        have h1 := sE e k h.2
        rw [evR_one]
        exact ⟨d_and1 (pos := pos) (op := .Or) h1.1, t_or1 (pos := pos) h1.2⟩
    · rename_i y z r
      simp only [Bool.and_eq_true, decide_eq_true_eq] at h
      obtain ⟨⟨⟨h1, h2⟩, h3⟩, h4⟩ := h
      cases l with
      | n => simp [chkA] at h2
      | c e' l' =>
        have i1 := sE e k h1
        obtain ⟨i2, i3⟩ := sR (.c e' l') (pos := pos) k h2
        rw [evR_more]
        exact ⟨d_or (pos := pos) h3 h4 i1.1 i2, t_or (pos := pos) i1.2 i3⟩
theorem sEs : ∀ (l : Es) {X : Cx} {c : Cfg} {W : WX} {sh : Bool} {xs : List Expr}, CtxOk X c T W C G lev → chkEs c sh l xs = true → PA X xs (tDA X.K T W sh (evs C G l))
  | .n, X, c, W, sh, xs, k, h => by
    simp only [chkEs, List.isEmpty_iff] at h
    subst h
    have := a_nil (X := X) (T := T) (W := W) (sh := sh)
    simpa only [evs] using this
  | .c e l, X, c, W, sh, xs, k, h => by
    simp only [chkEs] at h
    split at h
    · cases h
    · simp only [Bool.and_eq_true, Bool.or_eq_true, Bool.not_eq_true', decide_eq_true_eq] at h
      obtain ⟨⟨⟨h1, h2⟩, h3⟩, h4⟩ := h
      have := a_cons (sh := sh) (fun hs => h3.elim (fun z => by rw [hs] at z; cases z) id) h2 (sE e k h1).1 (sEs l k h4)
      simpa only [evs] using this
theorem sSr : ∀ (s : Sr) {X : Cx} {c : Cfg} {W : WX} {tg iter : Expr}, CtxOk X c T W C G lev → chkSr c s tg iter = true → SrcOk X T W tg iter (s.bo c.fm) (evr C G s)
  | .seq e, X, c, W, tg, iter, k, h => by
    simp only [chkSr] at h
    have := src_seq (tg := tg) (sE e k h).1
    show SrcOk X T W tg iter (decide (e.md c.fm = .bo)) _
    simpa only [evr] using this
  | .rng1 a, X, c, W, tg, iter, k, h => by
    simp only [chkSr] at h
    split at h
    · rename_i q
      obtain ⟨p, p2, rfl⟩ := asCall_of q
      simp only [Bool.and_eq_true] at h
      obtain ⟨rfl, g1, g2⟩ := k.bname h.1.1
      have := src_rng1 (tg := tg) (p := p) (pos := p2) g1 g2 h.1.2 (sE a k h.2).1
      show SrcOk X T W tg _ false _
      simpa only [evr] using this
    · cases h
  | .rng2 a b, X, c, W, tg, iter, k, h => by
    simp only [chkSr] at h
    split at h
    · rename_i q
      obtain ⟨p, p2, rfl⟩ := asCall_of q
      simp only [Bool.and_eq_true] at h
      obtain ⟨⟨⟨⟨h1, h2⟩, h3⟩, h4⟩, h5⟩ := h
      obtain ⟨rfl, g1, g2⟩ := k.bname h1
      have := src_rng2 (tg := tg) (p := p) (pos := p2) g1 g2 h2 h3 (sE a k h4).1 (sE b k h5).1
      show SrcOk X T W tg _ false _
      simpa only [evr] using this
    · cases h
  | .zip a b, X, c, W, tg, iter, k, h => by
    simp only [chkSr] at h
    split at h
    · rename_i q
      obtain ⟨p, p2, rfl⟩ := asCall_of q
      simp only [Bool.and_eq_true, decide_eq_true_eq] at h
      obtain ⟨⟨⟨⟨⟨⟨⟨h0, h1⟩, h2⟩, h3⟩, h4⟩, h5⟩, h6⟩, h7⟩ := h
      obtain ⟨rfl, g1, g2⟩ := k.bname h1
      obtain ⟨es, kk, tp, rfl⟩ : ∃ es kk tp, tg = .Tuple es kk tp := by
        unfold isTup at h0
        split at h0
        · exact ⟨_, _, _, rfl⟩
        · cases h0
      have := src_zip (elts := es) (kk := kk) (tpos := tp) (p := p) (pos := p2) g1 g2 h6 h7 h2 h3 (sE a k h4).1 (sE b k h5).1
      show SrcOk X T W _ _ false _
      simpa only [evr] using this
    · cases h
end
end
end Py
end
section
set_option maxHeartbeats 4000000
namespace Py
open PySem PySem.Spec PyProof.Rows L2 LamX

/-! ### statements -/
mutual
inductive S where
  | set (i : Nat) (e : E) | tset (is : List Nat) (e : E) | tpar (i j : Nat) (l : Es) | app (i : Nat) (e : E) | ext (i : Nat) (e : E) | put (i : Nat) (k e : E)
  | ret (e : E) | retN | retO (i : Nat) | ifs (e : E) (a b : Ss) | exp (e : E) | raise (c : Str) | frz (i : Nat) (s : S) | forr (t : Tg) (r : Sr) (b : Ss) | whl (n : Nat) (c : E) (b : Ss) | cont | brk | pass
inductive Ss where
  | n | c (s : S) (l : Ss)
end
section
variable (fm : List Md) (C : List D) (G : GT)
mutual
def ex : S → Env → RR Out
  | .set i e, ρ => ev C G e ρ >>= fun d => .ok (.nx (ρ.set i (some (mkV (e.md fm) d))))
  | .tset is e, ρ => ev C G e ρ >>= fun d => unpD is d ρ
  | .tpar i j l, ρ => evs C G l ρ >>= fun l => if l.length = 2 then .ok (.nx (setD [i, j] l ρ)) else .bad
  | .app i e, ρ => appO i (ev C G e) ρ
  | .ext i e, ρ => extO i (ev C G e) ρ
  | .put i k e, ρ => putO i (ev C G k) (ev C G e) ρ
  | .ret e, ρ => ev C G e ρ >>= fun d => .ok (.rt d)
  | .retN, _ => .ok (.rt .non)
  | .retO i, ρ => match ρ[i]? with | some (some (true, d)) => .ok (.rt d) | _ => .bad
  | .ifs e a b, ρ => (ev C G e ρ >>= truR) >>= fun k => if k then exs a ρ else exs b ρ
  | .exp e, ρ => ev C G e ρ >>= fun _ => .ok (.nx ρ)
  | .raise c, _ => .ex c
  | .frz i s, ρ => frzD i ρ >>= fun ρ => ex s ρ
  | .forr t r b, ρ => evr C G r ρ >>= fun l => execFor t (fun ρ => exs b ρ) l ρ
  | .whl n c b, ρ => execWhile (fun ρ => ev C G c ρ >>= truR) (fun ρ => exs b ρ) n ρ
  | .cont, ρ => .ok (.ct ρ)
  | .brk, ρ => .ok (.br ρ)
  | .pass, ρ => .ok (.nx ρ)
def exs : Ss → Env → RR Out
  | .n, ρ => .ok (.nx ρ)
  | .c s l, ρ => seqO (ex s ρ) fun ρ => exs l ρ
end
end
/-! shapes -/
def compSc : Expr → Option (Scope × Pos)
  | .ListComp _ _ s p => some (s, p)
  | .SetComp _ _ s p => some (s, p)
  | .DictComp _ _ _ s p => some (s, p)
  | _ => none
/-- x = e swaps -/
def swapB (sc : Scope) (x : Str) (xp : Pos) (e : Expr) : Bool := match compSc e with
  | some (s, p) => localB sc x && (xp.line == p.line) && !(s.names.any fun (n, k) => n == x && (k == .local || k == .cell))
  | none => false
theorem swapB_of {sc : Scope} {x : Str} {xp : Pos} {e : Expr} {l : Nat} {env : PySem.Env} (h : env.scope = sc) (hk : env.blockKind = .function) : swapsWith e (some (.Name x xp)) l env = pure (swapB sc x xp e) := by
  have hl : (env.kindOf x == some .local) = localB sc x := by
    unfold Env.kindOf localB
    rw [h]
    cases sc.names.lookup x with
    | none => rfl
    | some k => cases k <;> rfl
  cases e <;> first
    | rfl
    | (simp only [swapsWith, swapB, compSc, hk, hl, Expr.pos]; rfl)
/-- a, b = e -/
def nmF (sc : Scope) (line : Nat) : Expr → Option Str
  | .Name id pos => if localB sc id && pos.line == line then some id else none
  | _ => none
def lineOf (ts : List Expr) : Nat := (ts.head?.map (·.pos.line)).getD 0
def swpB (sc : Scope) (ts vs : List Expr) : Option (Option (List Str)) :=
  if (!(ts.length == 2 || ts.length == 3) || vs.length != ts.length) = true then some none
  else if vs.all notStar = false then some none
  else if ((ts.filterMap (nmF sc (lineOf ts))).length != ts.length || (ts.filterMap (nmF sc (lineOf ts))).eraseDups.length != (ts.filterMap (nmF sc (lineOf ts))).length) = true then some none
    else if vs.all (foldedForSure 8) = true then some none
    else if vs.all (constantsAlone 8) = true then none
    else some (some (ts.filterMap (nmF sc (lineOf ts))))
theorem swpB_of {sc : Scope} {ts vs : List Expr} {k k2 : Nat} {p p2 : Pos} {env : PySem.Env} {r : Option (List Str)} (h : env.scope = sc) (hk : env.blockKind = .function) (e : swpB sc ts vs = some r) : swappedStores [.Tuple ts k p] (.Tuple vs k2 p2) env = pure r := by
  have hl : ∀ x, (env.kindOf x == some .local) = localB sc x := fun x => by
    unfold Env.kindOf localB
    rw [h]
    cases sc.names.lookup x with
    | none => rfl
    | some k => cases k <;> rfl
  have hst : ∀ vs : List Expr, (vs.any fun | .Starred .. => true | _ => false) = !(vs.all notStar) := fun vs => by
    induction vs with
    | nil => rfl
    | cons v vs ih =>
      rw [List.any_cons, List.all_cons, ih]
      cases v <;> rfl
  unfold swappedStores
  dsimp only
  simp only [hl, hk]
  have hb : (ScopeKind.function != ScopeKind.function) = false := by decide
  rw [hb, Bool.or_false]
  generalize hnm : List.filterMap (nmF sc (lineOf ts)) ts = nms at e
  unfold swpB at e
  rw [hnm] at e
  have key : (if (!(ts.length == 2 || ts.length == 3) || vs.length != ts.length) = true then (pure none : Sem (Option (List Str))) else
      if (vs.any fun | .Starred .. => true | _ => false) = true then pure none else
      if (nms.length != ts.length || nms.eraseDups.length != nms.length) = true then pure none else
      if vs.all (foldedForSure 8) = true then pure none else
      if vs.all (constantsAlone 8) = true then (do unsupported "assign.tuple-of-constant-expressions:order-of-the-stores"; pure (some nms)) else pure (some nms)) = pure r := by
    rw [hst]
    by_cases c1 : (!(ts.length == 2 || ts.length == 3) || vs.length != ts.length) = true
    · rw [if_pos c1] at e ⊢
      cases e; rfl
    · rw [if_neg c1] at e ⊢
      by_cases c2 : vs.all notStar = false
      · rw [if_pos c2] at e
        rw [c2]
        cases e; rfl
      · rw [if_neg c2] at e
        have c2' : vs.all notStar = true := by
          cases q : vs.all notStar with
          | true => rfl
          | false => exact (c2 q).elim
        rw [c2', if_neg (by decide)]
        by_cases c3 : (nms.length != ts.length || nms.eraseDups.length != nms.length) = true
        · rw [if_pos c3] at e ⊢
          cases e; rfl
        · rw [if_neg c3] at e ⊢
          by_cases c4 : vs.all (foldedForSure 8) = true
          · rw [if_pos c4] at e ⊢
            cases e; rfl
          · rw [if_neg c4] at e ⊢
            by_cases c5 : vs.all (constantsAlone 8) = true
            · rw [if_pos c5] at e; cases e
            · rw [if_neg c5] at e ⊢
              cases e; rfl
  rw [← hnm] at key
  exact key
end Py
end
section
set_option maxHeartbeats 4000000
namespace Py
open PySem PySem.Spec PyProof.Rows L2 LamX

/-! ### statements: the checker -/
def asSet : Stmt → Option (Str × Pos × Expr)
  | .Assign [.Name x p] v _ => some (x, p, v)
  | _ => none
def asTset : Stmt → Option (List Expr × Expr)
  | .Assign [.Tuple ts _ _] v _ => some (ts, v)
  | _ => none
def asPar : Stmt → Option (Str × Str × List Expr × Expr × Expr)
  | .Assign [.Tuple [.Name x px, .Name y py] _ _] (.Tuple [a, b] _ _) _ => some (x, y, [.Name x px, .Name y py], a, b)
  | _ => none
def asMS : Stmt → Option (Str × Str × Pos × Expr × Pos)
  | .Expr (.Call (.Attribute (.Name x _) m p) [e] [] q) _ => some (x, m, p, e, q)
  | _ => none
def asPut : Stmt → Option (Str × Expr × Expr)
  | .Assign [.Subscript (.Name x _) k _] v _ => some (x, k, v)
  | _ => none
def asRet : Stmt → Option Expr
  | .Return (some e) _ => some e
  | _ => none
def asRetN : Stmt → Option Unit
  | .Return none _ => some ()
  | _ => none
def asIfS : Stmt → Option (Expr × List Stmt × List Stmt)
  | .If c a b _ => some (c, a, b)
  | _ => none
def asExpS : Stmt → Option Expr
  | .Expr e _ => some e
  | _ => none
def asRaise : Stmt → Option (Str × Str)
  | .Raise (some (.Call (.Name x _) [.Constant (.str m) _ _] [] _)) none _ => some (x, m)
  | _ => none
def asFor : Stmt → Option (Expr × Expr × List Stmt)
  | .For t i b [] _ => some (t, i, b)
  | _ => none
def asWhl : Stmt → Option (Expr × List Stmt)
  | .While c b [] _ => some (c, b)
  | _ => none
def asKw : Stmt → Option Nat
  | .Pass _ => some 0 | .Break _ => some 1 | .Continue _ => some 2 | _ => none
theorem asSet_of {s : Stmt} {x p v} (h : asSet s = some (x, p, v)) : ∃ q, s = .Assign [.Name x p] v q := by unfold asSet at h; split at h <;> cases h; exact ⟨_, rfl⟩
theorem asTset_of {s : Stmt} {ts v} (h : asTset s = some (ts, v)) : ∃ k p q, s = .Assign [.Tuple ts k p] v q := by unfold asTset at h; split at h <;> cases h; exact ⟨_, _, _, rfl⟩
theorem asPar_of {s : Stmt} {x y ts a b} (h : asPar s = some (x, y, ts, a, b)) : ∃ px py k p k2 p2 q, ts = [.Name x px, .Name y py] ∧ s = .Assign [.Tuple [.Name x px, .Name y py] k p] (.Tuple [a, b] k2 p2) q := by unfold asPar at h; split at h <;> cases h; exact ⟨_, _, _, _, _, _, _, rfl, rfl⟩
theorem asMS_of {s : Stmt} {x m p e q} (h : asMS s = some (x, m, p, e, q)) : ∃ p1 p2, s = .Expr (.Call (.Attribute (.Name x p1) m p) [e] [] q) p2 := by unfold asMS at h; split at h <;> cases h; exact ⟨_, _, rfl⟩
theorem asPut_of {s : Stmt} {x k v} (h : asPut s = some (x, k, v)) : ∃ p1 p2 q, s = .Assign [.Subscript (.Name x p1) k p2] v q := by unfold asPut at h; split at h <;> cases h; exact ⟨_, _, _, rfl⟩
theorem asRet_of {s : Stmt} {e} (h : asRet s = some e) : ∃ q, s = .Return (some e) q := by unfold asRet at h; split at h <;> cases h; exact ⟨_, rfl⟩
theorem asRetN_of {s : Stmt} {e} (h : asRetN s = some e) : ∃ q, s = .Return none q := by unfold asRetN at h; split at h <;> cases h; exact ⟨_, rfl⟩
theorem asIfS_of {s : Stmt} {c a b} (h : asIfS s = some (c, a, b)) : ∃ q, s = .If c a b q := by unfold asIfS at h; split at h <;> cases h; exact ⟨_, rfl⟩
theorem asExpS_of {s : Stmt} {e} (h : asExpS s = some e) : ∃ q, s = .Expr e q := by unfold asExpS at h; split at h <;> cases h; exact ⟨_, rfl⟩
theorem asRaise_of {s : Stmt} {x m} (h : asRaise s = some (x, m)) : ∃ p j p2 p3 q, s = .Raise (some (.Call (.Name x p) [.Constant (.str m) j p2] [] p3)) none q := by unfold asRaise at h; split at h <;> cases h; exact ⟨_, _, _, _, _, rfl⟩
theorem asFor_of {s : Stmt} {t i b} (h : asFor s = some (t, i, b)) : ∃ q, s = .For t i b [] q := by unfold asFor at h; split at h <;> cases h; exact ⟨_, rfl⟩
theorem asWhl_of {s : Stmt} {c b} (h : asWhl s = some (c, b)) : ∃ q, s = .While c b [] q := by unfold asWhl at h; split at h <;> cases h; exact ⟨_, rfl⟩
mutual
def chkS (c : Cfg) (mr : Md) : S → Stmt → Bool
  | .set i e, s => match asSet s with | some (x, p, v) => c.tgOk i x && chkE c e v && decide (e.md c.fm ≠ .bo) && (!swapB c.sc x p v || localB c.sc x) | _ => false
  | .tset is e, s => match asTset s with | some (ts, v) => tgsB c is ts && chkE c e v && decide (e.md c.fm ≠ .bo) && notComp v && (match asTup v with | none => notTuple v | some vs => decide (swpB c.sc ts vs = some none)) | _ => false
  | .tpar i j l, s => match asPar s with | some (x, y, ts, a, b) => decide (c.N[i]? = some x) && decide (c.N[j]? = some y) && decide (i ≠ j) && localB c.sc x && localB c.sc y && chkEs c true l [a, b] && decide (swpB c.sc ts [a, b] = some (some [x, y])) | _ => false
  | .app i e, s => match asMS s with | some (x, m, p, v, q) => c.var i x && decide (m = "append") && (p.endLine == q.line) && notStar v && chkE c e v && decide (e.md c.fm ≠ .bo) | _ => false
  | .ext i e, s => match asMS s with | some (x, m, p, v, q) => c.var i x && decide (m = "extend") && (p.endLine == q.line) && notStar v && chkE c e v | _ => false
  | .put i k e, s => match asPut s with | some (x, y, v) => c.var i x && notComp v && chkE c k y && chkE c e v && decide (e.md c.fm ≠ .bo) | _ => false
  | .ret e, s => match asRet s with | some x => chkE c e x && decide (e.md c.fm ≠ .bo) && (decide (mr = .sh) || (decide (mr = .fr) && decide (e.md c.fm = .fr))) | _ => false
  | .retN, s => match asRetN s with | some _ => decide (mr = .sh) | _ => false
  | .retO i, s => match asRet s with | some v => (match asName v with | some x => c.var i x | _ => false) && decide (mr ≠ .bo) | _ => false
  | .ifs e a b, s => match asIfS s with | some (x, y, z) => chkE c e x && chkSs c mr a y && chkSs c mr b z | _ => false
  | .exp e, s => match asExpS s with | some x => notComp x && chkE c e x | _ => false
  | .raise n, s => match asRaise s with | some (x, _) => decide (x = n) && decide (x ∈ c.t.excs) && gloB c.sc x && plainN x | _ => false
  | .frz _ s', s => chkS c mr s' s
  | .forr t r b, s => match asFor s with | some (x, y, z) => tgB c t x && chkSr c r x y && !r.bo c.fm && notSet y && chkSs c mr b z | _ => false
  | .whl _ e b, s => match asWhl s with | some (x, y) => chkE c e x && chkSs c mr b y | _ => false
  | .cont, s => decide (asKw s = some 2)
  | .brk, s => decide (asKw s = some 1)
  | .pass, s => decide (asKw s = some 0)
def chkSs (c : Cfg) (mr : Md) : Ss → List Stmt → Bool
  | .n, l => l.isEmpty
  | .c s l, xs => match xs with | [] => false | x :: r => chkS c mr s x && chkSs c mr l r
end
structure StOk (X : Cx) (c : Cfg) (T : Tb) (W : WX) (C : List D) (G : GT) (lev : Nat) : Prop where
  k : CtxOk X c T W C G lev
  kind : X.env.scope.kind = .function
  own : PassesOwn (model X.prog X.w) X.A X.env X.xe
  exc : ∀ x ∈ c.t.excs, X.mg x = some (.ref (He.ga X.K x)) ∧ (He.Fa.exc x).ok X.K = true
theorem StOk.bk {X : Cx} {c : Cfg} {T : Tb} {W : WX} {C : List D} {G : GT} {lev : Nat} (h : StOk X c T W C G lev) : X.env.blockKind = .function := by
  unfold Env.blockKind
  rw [h.kind]; rfl
section
variable {T : Tb} {C : List D} {G : GT} {lev : Nat} {X : Cx} {c : Cfg} {W : WX} {mr : Md}
theorem s_setFrz {i : Nat} {st : Stmt} {g : Env → RR D} (h : PS X st (tS X.K T W mr fun ρ => g ρ >>= fun d => .ok (.nx (ρ.set i (some (true, d)))))) : PS X st (tS X.K T W mr fun ρ => g ρ >>= fun d => .ok (.nx (ρ.set i (some (false, d))))) := by
  refine psImp h fun D σ H ⟨H0, Z0, G0, Z, ρ, hz, s, p⟩ => ⟨H0, Z0, G0, Z, ρ, hz, s, ?_⟩
  dsimp only at p ⊢
  cases q : g ρ with
  | ex c => rw [q] at p; exact p
  | bad => rw [q] at p; exact p
  | ok d =>
    rw [q] at p
    intro Z' σ' H' s'
    by_cases hi : i < ρ.length
    · have e : (ρ.set i (some (true, d)))[i]? = some (some (true, d)) := by rw [List.getElem?_set_self hi]
      obtain ⟨v, e1, a, rfl, za, oa⟩ := s'.e.slot i _ e
      have := s'.frz hz e e1
      rw [List.set_set] at this
      exact p _ _ _ this
    · have e : ∀ o, ρ.set i o = ρ := fun o => List.set_eq_of_length_le (by omega)
      rw [e] at s'
      refine p Z' σ' H' ?_
      rw [e]; exact s'
theorem comp_not {e : E} {v : Expr} {x : Str} {px : Pos} (h1 : ∀ t vs s q e', e ≠ .comp t vs s q e') (h2 : ∀ a, e ≠ .shr a) (h : chkE c e v = true) (hsw : swapB c.sc x px v = true) : False := by
  cases e <;> first
    | (exact h1 _ _ _ _ _ rfl)
    | (exact h2 _ rfl)
    | (cases v <;> first | (simp [chkE, asConst, asName, asBin, asCmp, asChn, asIx, asSl, asNot, asNeg, asAnd, asOr, asIf, asTup, asLst, asCall, asMeth, asDnew] at h; done) | (simp [swapB, compSc] at hsw; done))
theorem comp_set {i : Nat} {x : Str} {px : Pos} {v : Expr} {pos : Pos} {e : E} (k : StOk X c T W C G lev) (ht : c.tgOk i x = true) (hl : localB c.sc x = true) (hsw : swapB c.sc x px v = true) (h0 : chkE c e v = true) :
    PS X (.Assign [.Name x px] v pos) (tS X.K T W mr fun ρ => ev C G e ρ >>= fun d => .ok (.nx (ρ.set i (some (mkV (e.md c.fm) d))))) := by
  have hsw2 : swapsWith v (some (.Name x px)) pos.line X.env = pure true := by rw [swapB_of k.k.sc k.bk, hsw]
  obtain ⟨hN, _, _⟩ := k.k.tg.ok ht
  have hyl : X.env.scope.names.lookup x = some .local := by rw [k.k.sc]; exact localB_of hl
  have main : ∀ e : E, (∃ t vs s q e', e = .comp t vs s q e') → chkE c e v = true → PS X (.Assign [.Name x px] v pos) (tS X.K T W mr fun ρ => ev C G e ρ >>= fun d => .ok (.nx (ρ.set i (some (true, d))))) := ?_
  · cases e with
    | comp t vs s q e' => exact main _ ⟨_, _, _, _, _, rfl⟩ h0
    | shr a =>
      have h := h0
      simp only [chkE, Bool.and_eq_true] at h
      cases a with
      | comp t vs s q e' =>
        have := s_setFrz (main _ ⟨_, _, _, _, _, rfl⟩ h.1.1)
        refine psImp this fun D σ H hq => ?_
        simp only [ev] at hq ⊢
        exact hq
      | shr _ => simp [isShr] at h
      | _ => exact (comp_not (by intro t vs s q e h; cases h) (by intro a h; cases h) h.1.1 hsw).elim
    | _ => exact (comp_not (by intro t vs s q e h; cases h) (by intro a h; cases h) h0 hsw).elim
  clear h0
  rintro _ ⟨t, vs, s, q, e', rfl⟩ h
  simp only [chkE] at h
  split at h
  · rename_i elt tg iter cnd scope q0
    obtain ⟨p, rfl⟩ := asComp_of q0
    simp only [Bool.and_eq_true, decide_eq_true_eq, List.all_eq_true] at h
    obtain ⟨⟨⟨⟨⟨⟨⟨hk, hb⟩, hv⟩, ht⟩, hs⟩, hn⟩, he⟩, hm⟩ := h
    have hsl : ∀ i ∈ t.slots, i ∈ (ownOf c.N vs).map (·.2) := by rw [ownOf_map]; exact hv
    have hbk : BlkOk X.N X.env.scope scope (ownOf c.N vs) := by rw [k.k.N, k.k.sc]; exact blkOk_by hb
    cases cnd with
    | none =>
      have hk : isNop q = true := hk
      have := s_setLc (mr := mr) (spos := pos) (pos := p) (t := t) k.k.calm k.k.nd hN hyl hsw2 (sSr s k.k hs) hbk (fun s H A cl fp => tg_ok (k.k.blk scope s H A cl fp).tg ht) (fun s H A cl fp => (sE e' (k.k.blk scope s H A cl fp) he).1) hn hsl hm
      rw [ownOf_map] at this
      refine psImp this fun D σ H hq => ?_
      simp only [ev, hk] at hq
      exact hq
    | some y =>
      have hk : (!isNop q && chkE (c.blk scope) q y) = true := hk
      rw [Bool.and_eq_true, Bool.not_eq_true'] at hk
      have := s_setLcIf (mr := mr) (spos := pos) (pos := p) (t := t) k.k.calm k.k.nd hN hyl hsw2 (sSr s k.k hs) hbk (fun s H A cl fp => tg_ok (k.k.blk scope s H A cl fp).tg ht) (fun s H A cl fp => (sE q (k.k.blk scope s H A cl fp) hk.2).2) (fun s H A cl fp => (sE e' (k.k.blk scope s H A cl fp) he).1) hn hsl hm
      rw [ownOf_map] at this
      refine psImp this fun D σ H hq => ?_
      simp only [ev, hk.1] at hq
      exact hq
  · cases h
mutual
theorem sS : ∀ (s : S) {X : Cx} {c : Cfg} {W : WX} {mr : Md} {st : Stmt}, StOk X c T W C G lev → chkS c mr s st = true → PS X st (tS X.K T W mr (ex c.fm C G s))
  | .set i e, X, c, W, mr, st, k, h => by
    simp only [chkS] at h
    split at h
    · rename_i x p v q
      obtain ⟨pos, rfl⟩ := asSet_of q
      simp only [Bool.and_eq_true, decide_eq_true_eq, Bool.or_eq_true, Bool.not_eq_true'] at h
      obtain ⟨⟨⟨h1, h2⟩, h3⟩, h4⟩ := h
      obtain ⟨g1, g2, g3⟩ := k.k.tg.ok h1
      cases hsw : swapB c.sc x p v with
      | false =>
        have := s_set (mr := mr) (pos := pos) (px := p) h3 k.k.nd g1 g2 g3 (by rw [swapB_of k.k.sc k.bk, hsw]) (sE e k.k h2).1
        simpa only [ex] using this
      | true =>
        have h4 : localB c.sc x = true := h4.elim (fun z => by rw [hsw] at z; cases z) id
        have := comp_set (mr := mr) (pos := pos) k h1 h4 hsw h2
        simpa only [ex] using this
    · cases h
  | .tset is e, X, c, W, mr, st, k, h => by
    simp only [chkS] at h
    split at h
    · rename_i ts v q
      obtain ⟨kt, pt, pos, rfl⟩ := asTset_of q
      simp only [Bool.and_eq_true, decide_eq_true_eq] at h
      obtain ⟨⟨⟨⟨h1, h2⟩, h3⟩, h4⟩, h5⟩ := h
      have hw : swappedStores [.Tuple ts kt pt] v X.env = pure none := by
        split at h5
        · exact stores_of h5 _
        · rename_i vs q2
          obtain ⟨k2, p2, rfl⟩ := asTup_of q2
          exact swpB_of k.k.sc k.bk (of_decide_eq_true h5)
      have := s_tset (mr := mr) (pos := pos) h3 k.k.calm (tgs_ok k.k.tg h1) h4 hw (sE e k.k h2).1
      simpa only [ex] using this
    · cases h
  | .tpar i j l, X, c, W, mr, st, k, h => by
    simp only [chkS] at h
    split at h
    · rename_i x y ts a b q
      obtain ⟨px, py, kt, pt, k2, p2, pos, rfl, rfl⟩ := asPar_of q
      simp only [Bool.and_eq_true, decide_eq_true_eq] at h
      obtain ⟨⟨⟨⟨⟨⟨h1, h2⟩, h3⟩, h4⟩, h5⟩, h6⟩, h7⟩ := h
      have := s_tpar (mr := mr) (pos := pos) (pt := pt) (pt2 := p2) (kt := kt) (k2 := k2) k.k.calm k.k.nd (by rw [k.k.N]; exact h1) (by rw [k.k.N]; exact h2) h3 (by rw [k.k.sc]; exact localB_of h4) (by rw [k.k.sc]; exact localB_of h5) (sEs l k.k h6) (swpB_of k.k.sc k.bk h7)
      simpa only [ex] using this
    · cases h
  | .app i e, X, c, W, mr, st, k, h => by
    simp only [chkS] at h
    split at h
    · rename_i x m p v q0 q
      obtain ⟨p1, p2, rfl⟩ := asMS_of q
      simp only [Bool.and_eq_true, decide_eq_true_eq] at h
      obtain ⟨⟨⟨⟨⟨h1, rfl⟩, h3⟩, h4⟩, h5⟩, h6⟩ := h
      obtain ⟨g1, g2, g3, g4⟩ := k.k.var h1
      have := s_app (mr := mr) (pos := p2) (p1 := p1) h6 g1 g2 g3 g4 h4 h3 (sE e k.k h5).1
      exact psImp this fun D σ H hq => by simpa only [ex] using hq
    · cases h
  | .ext i e, X, c, W, mr, st, k, h => by
    simp only [chkS] at h
    split at h
    · rename_i x m p v q0 q
      obtain ⟨p1, p2, rfl⟩ := asMS_of q
      simp only [Bool.and_eq_true, decide_eq_true_eq] at h
      obtain ⟨⟨⟨⟨h1, rfl⟩, h3⟩, h4⟩, h5⟩ := h
      obtain ⟨g1, g2, g3, g4⟩ := k.k.var h1
      have := s_ext (mr := mr) (pos := p2) (p1 := p1) g1 g2 g3 g4 h4 h3 (sE e k.k h5).1
      exact psImp this fun D σ H hq => by simpa only [ex] using hq
    · cases h
  | .put i y e, X, c, W, mr, st, k, h => by
    simp only [chkS] at h
    split at h
    · rename_i x z v q
      obtain ⟨p1, p2, p3, rfl⟩ := asPut_of q
      simp only [Bool.and_eq_true, decide_eq_true_eq] at h
      obtain ⟨⟨⟨⟨h1, h2⟩, h3⟩, h4⟩, h5⟩ := h
      obtain ⟨g1, g2, g3, g4⟩ := k.k.var h1
      have hu := k.k.unit
      have := s_put (mr := mr) (pos := p3) (p1 := p1) (p2 := p2) (by omega) h5 g1 g2 g3 g4 h2 (sE y k.k h3).1 (sE e k.k h4).1
      exact psImp this fun D σ H hq => by simpa only [ex] using hq
    · cases h
  | .ret e, X, c, W, mr, st, k, h => by
    simp only [chkS] at h
    split at h
    · rename_i x q
      obtain ⟨pos, rfl⟩ := asRet_of q
      simp only [Bool.and_eq_true, decide_eq_true_eq, Bool.or_eq_true] at h
      have := s_ret (pos := pos) h.1.2 h.2 (sE e k.k h.1.1).1
      simpa only [ex] using this
    · cases h
  | .retN, X, c, W, mr, st, k, h => by
    simp only [chkS] at h
    split at h
    · rename_i q
      obtain ⟨pos, rfl⟩ := asRetN_of q
      obtain rfl := of_decide_eq_true h
      have := s_retN (X := X) (T := T) (W := W) (pos := pos)
      simpa only [ex] using this
    · cases h
  | .retO i, X, c, W, mr, st, k, h => by
    simp only [chkS] at h
    split at h
    · rename_i v q
      obtain ⟨pos, rfl⟩ := asRet_of q
      rw [Bool.and_eq_true] at h
      obtain ⟨h1, h2⟩ := h
      split at h1
      · rename_i x q2
        obtain ⟨p1, rfl⟩ := asName_of q2
        obtain ⟨g1, g2, g3, g4⟩ := k.k.var h1
        have := s_retO (T := T) (W := W) (mr := mr) (pos := pos) (p1 := p1) (of_decide_eq_true h2) g1 g2 g3 g4
        exact this
      · cases h1
    · cases h
  | .ifs e a b, X, c, W, mr, st, k, h => by
    simp only [chkS] at h
    split at h
    · rename_i x y z q
      obtain ⟨pos, rfl⟩ := asIfS_of q
      simp only [Bool.and_eq_true] at h
      have := s_if (mr := mr) (pos := pos) (sE e k.k h.1.1).2 (sSs a k h.1.2) (sSs b k h.2)
      simpa only [ex] using this
    · cases h
  | .exp e, X, c, W, mr, st, k, h => by
    simp only [chkS] at h
    split at h
    · rename_i x q
      obtain ⟨pos, rfl⟩ := asExpS_of q
      rw [Bool.and_eq_true] at h
      have := s_exp (mr := mr) (pos := pos) h.1 (sE e k.k h.2).1
      simpa only [ex] using this
    · cases h
  | .raise n, X, c, W, mr, st, k, h => by
    simp only [chkS] at h
    split at h
    · rename_i x m q
      obtain ⟨p, j, p2, p3, pos, rfl⟩ := asRaise_of q
      simp only [Bool.and_eq_true, decide_eq_true_eq] at h
      obtain ⟨⟨⟨rfl, h2⟩, h3⟩, h4⟩ := h
      obtain ⟨h5, _, _⟩ := plainN_of h4
      obtain ⟨e1, e2⟩ := k.exc _ h2
      obtain ⟨a1, a2, a3, a4⟩ := He.exc_ok e2
      have := s_raise (T := T) (mr := mr) (pos := pos) k.k.calm k.k.tk (pmk_own (m := m) (j := j) (p := p) (p2 := p2) (pos := p3) PySem.F.excBase_ValueError a1 e1 a2 (raises_own a3 a4) (k.k.gl h3) h5)
      simpa only [ex] using this
    · cases h
  | .frz i s', X, c, W, mr, st, k, h => by
    simp only [chkS] at h
    have := s_frz (i := i) (sS s' k h)
    exact psImp this fun D σ H hq => by simpa only [ex] using hq
  | .forr t r b, X, c, W, mr, st, k, h => by
    simp only [chkS] at h
    split at h
    · rename_i x y z q
      obtain ⟨pos, rfl⟩ := asFor_of q
      simp only [Bool.and_eq_true, Bool.not_eq_true'] at h
      obtain ⟨⟨⟨⟨h1, h2⟩, h3⟩, h4⟩, h5⟩ := h
      have hs := sSr r k.k h2
      rw [h3] at hs
      have := s_for (mr := mr) (pos := pos) k.own k.k.calm hs (tg_ok k.k.tg h1) (sSs b k h5) h4
      simpa only [ex] using this
    · cases h
  | .whl n e b, X, c, W, mr, st, k, h => by
    simp only [chkS] at h
    split at h
    · rename_i x y q
      obtain ⟨pos, rfl⟩ := asWhl_of q
      rw [Bool.and_eq_true] at h
      have := s_while (mr := mr) (pos := pos) (n := n) k.own (sE e k.k h.1).2 (sSs b k h.2)
      simpa only [ex] using this
    · cases h
  | .cont, X, c, W, mr, st, k, h => by
    simp only [chkS, decide_eq_true_eq] at h
    obtain ⟨pos, rfl⟩ : ∃ p, st = .Continue p := by
      cases st <;> simp [asKw] at h ⊢
    have := s_cont (X := X) (T := T) (W := W) (mr := mr) (pos := pos)
    exact this
  | .brk, X, c, W, mr, st, k, h => by
    simp only [chkS, decide_eq_true_eq] at h
    obtain ⟨pos, rfl⟩ : ∃ p, st = .Break p := by
      cases st <;> simp [asKw] at h ⊢
    have := s_brk (X := X) (T := T) (W := W) (mr := mr) (pos := pos)
    exact this
  | .pass, X, c, W, mr, st, k, h => by
    simp only [chkS, decide_eq_true_eq] at h
    obtain ⟨pos, rfl⟩ : ∃ p, st = .Pass p := by
      cases st <;> simp [asKw] at h ⊢
    have := s_pass (X := X) (T := T) (W := W) (mr := mr) (pos := pos)
    exact this
theorem sSs : ∀ (l : Ss) {X : Cx} {c : Cfg} {W : WX} {mr : Md} {xs : List Stmt}, StOk X c T W C G lev → chkSs c mr l xs = true → PSs X xs (tS X.K T W mr (exs c.fm C G l))
  | .n, X, c, W, mr, xs, k, h => by
    simp only [chkSs, List.isEmpty_iff] at h
    subst h
    have := s_nil (X := X) (T := T) (W := W) (mr := mr)
    simpa only [exs] using this
  | .c s l, X, c, W, mr, xs, k, h => by
    simp only [chkSs] at h
    split at h
    · cases h
    · rw [Bool.and_eq_true] at h
      have := s_cons (sS s k h.1) (sSs l k h.2)
      simpa only [exs] using this
end
end
end Py
end
section
set_option maxHeartbeats 4000000
namespace Py
open PySem PySem.Spec PyProof.Rows L2 LamX

/-! ### parameters are bound -/
def plainArgs (a : Arguments) (ps : List Str) : Bool := a.posonlyargs.isEmpty && decide (a.args.map (·.arg) = ps) && a.vararg.isNone && a.kwonlyargs.isEmpty && a.kwarg.isNone && decide ps.Nodup
theorem look_zip : ∀ {ps : List Str} {us : List Value}, us.length = ps.length → ∀ x ∈ ps, ((ps.zip us).lookup x).isSome = true
  | [], us, h, x, hx => by cases hx
  | p :: ps, [], h, x, hx => by simp at h
  | p :: ps, u :: us, h, x, hx => by
    rw [List.zip_cons_cons, List.lookup_cons]
    by_cases e : x == p
    · rw [e]; rfl
    · rw [show (x == p) = false by simpa using e]
      rcases List.mem_cons.mp hx with rfl | hx
      · simp at e
      · exact look_zip (by simpa using h) x hx
theorem filt_zip : ∀ {ps : List Str} {us : List Value}, ps.Nodup → us.length = ps.length → ps.filterMap (fun n => ((ps.zip us).lookup n).map (n, ·)) = ps.zip us
  | [], us, _, h => by simp
  | p :: ps, [], _, h => by simp at h
  | p :: ps, u :: us, nd, h => by
    obtain ⟨n1, n2⟩ := List.nodup_cons.mp nd
    rw [List.zip_cons_cons, List.filterMap_cons, List.lookup_cons_self]
    simp only [Option.map_some]
    congr 1
    have e : ∀ x ∈ ps, List.lookup x ((p, u) :: ps.zip us) = List.lookup x (ps.zip us) := fun x hx => by
      rw [List.lookup_cons]
      have : (x == p) = false := by
        cases q : x == p with
        | false => rfl
        | true => exact (n1 (beq_iff_eq.mp q ▸ hx)).elim
      rw [this]
    have cong : ∀ (l : List Str) (f g : Str → Option (Str × Value)), (∀ x ∈ l, f x = g x) → l.filterMap f = l.filterMap g := by
      intro l f g
      induction l with
      | nil => intro _; rfl
      | cons a l ih =>
        intro hh
        rw [List.filterMap_cons, List.filterMap_cons, hh a List.mem_cons_self, ih fun x hx => hh x (List.mem_cons_of_mem _ hx)]
    refine (cong ps _ (fun n => ((ps.zip us).lookup n).map (n, ·)) fun x hx => by rw [e x hx]).trans (filt_zip n2 (by simpa using h))
theorem bind_all {x qual : Str} {params : Arguments} {body : List Stmt} {scope : Scope} {kV doc pm : Value} {an : Option Addr} {cdv ct : Value} {ps : List Str} {us : List Value} (h : plainArgs params ps = true) (hl : us.length = ps.length) :
    bindArgs (PySem.W.fnOf x qual params body scope .none kV doc pm an cdv ct) ⟨us, []⟩ = pure (ps.zip us) := by
  simp only [plainArgs, Bool.and_eq_true, decide_eq_true_eq, List.isEmpty_iff, Option.isNone_iff_eq_none] at h
  obtain ⟨⟨⟨⟨⟨h1, h2⟩, h3⟩, h4⟩, h5⟩, h6⟩ := h
  obtain ⟨po, ar, va, ko, kd, kw, df⟩ := params
  simp only at h1 h2 h3 h4 h5
  subst h1 h3 h4 h5
  have e1 : List.filter (fun n => (List.lookup n (ps.zip us)).isNone) ps = [] := by
    rw [List.filter_eq_nil_iff]
    intro a ha
    have := look_zip (us := us) hl a ha
    cases q : List.lookup a (ps.zip us) with
    | none => rw [q] at this; cases this
    | some v => simp
  have e0 : seqItems? Value.none = pure none := rfl
  have e2 := filt_zip h6 hl
  unfold bindArgs
  dsimp only [PySem.W.fnOf]
  simp only [e0, h2, List.map_nil, List.nil_append, pure_bind, List.forIn_nil, hl]
  simp [e1, e2]

/-! ### the defs -/
structure FDef where
  name : Str
  md : Md
  ps : List Str
  N : List Str
  body : Ss
def startD (n : Nat) (l : List D) : Env := l.map (fun d => some (false, d)) ++ List.replicate (n - l.length) none
def FDef.run (d : FDef) (fm : List Md) (C : List D) (G : GT) (l : List D) : RR D := match exs fm C G d.body (startD d.N.length l) with
  | .ok (.rt r) => .ok r
  | .ok (.nx _) => if d.md = .sh then .ok .non else .bad
  | .ex c => .ex c
  | _ => .bad
abbrev Defs := List (Nat × FDef)
section
variable (fm : List Md) (C : List D) (defs : Defs)
def fnsG : Nat → GT
  | 0 => []
  | k + 1 => (fun f l => match defs.lookup f with | some d => d.run fm C (fnsG k) l | none => .bad) :: fnsG k
end
def fns_tbl (defs : Defs) : List (Nat × Str × Md × Nat) := defs.map fun d => (d.1, d.2.name, d.2.md, d.2.ps.length)
theorem fns_look {defs : Defs} {j : Nat} {z : Str × Md × Nat} (h : (fns_tbl defs).lookup j = some z) : ∃ d, defs.lookup j = some d ∧ z = (d.name, d.md, d.ps.length) := by
  induction defs with
  | nil => cases h
  | cons p ds ih =>
    unfold fns_tbl at h ih
    rw [List.map_cons, List.lookup_cons] at h
    rw [List.lookup_cons]
    cases q : j == p.1 with
    | true => rw [q] at h; cases h; exact ⟨p.2, rfl, rfl⟩
    | false => rw [q] at h; exact ih h
/-- the checker, of a def's text -/
def chkD (t : Tbl) (d : FDef) (st : Stmt) : Bool :=
  chkSs ⟨d.N, defScope st, fun _ => true, t⟩ d.md d.body (defBody st) && plainArgs (defArgs st) d.ps &&
  (match (defScope st).kind with | .function => true | _ => false) && !(defScope st).isCoroutine && !(defScope st).isGenerator && decide d.N.Nodup && decide (d.N.take d.ps.length = d.ps) && d.ps.all (fun x => locB (defScope st) x) &&
  ((defScope st).names.all fun y => match y.2 with | .free => false | _ => true)
theorem scope_ok {t : Tbl} {d : FDef} {st : Stmt} (h : chkD t d st = true) : FnScope d.N d.ps (defScope st) := by
  simp only [chkD, Bool.and_eq_true, decide_eq_true_eq, List.all_eq_true, Bool.not_eq_true'] at h
  obtain ⟨⟨⟨⟨⟨⟨⟨⟨_, _⟩, h1⟩, h2⟩, h3⟩, h4⟩, h5⟩, h6⟩, h7⟩ := h
  refine ⟨?_, h2, h3, h4, h5, fun x hx => locB_of (h6 x hx), fun y hy e => ?_⟩
  · split at h1
    · assumption
    · cases h1
  · have := h7 y hy
    rw [e] at this
    cases this
theorem stE_start {K : PySem.W.Frag} {T : Tb} {Z : Addr → Bool} {H : Hp} {N : List Str} {ds : List D} {vs : List V} (hz : ∀ a, Z a = true → ¬ FreshAt H a) (t : Tabs T H) (r : Reps K (hide H Z) ds vs) : StE K T Z (L2.start N vs) H (startD N.length ds) := by
  have hl := r.length
  refine ⟨fun i s e => ?_, fun i j a d e q1 => ?_, hz, t, ?_⟩
  · unfold startD at e
    by_cases hi : i < ds.length
    · rw [List.getElem?_append_left (by simpa using hi), List.getElem?_map] at e
      cases q : ds[i]? with
      | none => rw [q] at e; cases e
      | some d =>
        rw [q] at e
        cases e
        obtain ⟨v, q1, q2⟩ := r.get q
        refine ⟨v, ?_, q2⟩
        unfold L2.start
        rw [List.getElem?_append_left (by rw [List.length_map, hl]; exact hi), List.getElem?_map, q1]; rfl
    · rw [List.getElem?_append_right (by simpa using Nat.le_of_not_lt hi)] at e
      rw [List.getElem?_replicate] at e
      split at e <;> cases e
  · exfalso
    unfold startD at q1
    by_cases hi : i < ds.length
    · rw [List.getElem?_append_left (by simpa using hi), List.getElem?_map] at q1
      cases q : ds[i]? with
      | none => rw [q] at q1; cases q1
      | some d => rw [q] at q1; cases q1
    · rw [List.getElem?_append_right (by simpa using Nat.le_of_not_lt hi)] at q1
      rw [List.getElem?_replicate] at q1
      split at q1 <;> cases q1
  · unfold startD L2.start
    rw [List.length_append, List.length_append, List.length_map, List.length_map, List.length_replicate, List.length_replicate, hl]
/-- where the defs stand -/
structure DefAt (K : PySem.W.Frag) (mg : Str → Option Value) (d : FDef) (st : Stmt) (f : Addr) (fd : FuncData) : Prop where
  fun_ : ∃ qual, FunD K d.name qual (defArgs st) (defBody st) (defScope st) [] [] f fd
  mg : mg d.name = some (.ref f)
structure Facts (K : PySem.W.Frag) (mg : Str → Option Value) (t : Tbl) (C : List D) (defs : Defs) : Prop where
  fns : t.fns = fns_tbl defs
  chk : ∀ (i : Nat) (d : FDef), defs.lookup i = some d → ∃ st, chkD t d st = true ∧ ∃ f fd, DefAt K mg d st f fd
  free : ∀ x ∈ t.free, mg x = none
  cons : ∀ (i : Nat) (x : Str), t.cons.lookup i = some x → ∃ d v u, C[i]? = some d ∧ mg x = some u ∧ RelV v u ∧ ∀ H, Rep K H d v
  exc : ∀ x ∈ t.excs, mg x = some (.ref (He.ga K x)) ∧ (He.Fa.exc x).ok K = true
section
variable {P : Program} {w : World} {K : PySem.W.Frag} {mg : Str → Option Value} {base : Heap} {T : Tb} {t : Tbl} {C : List D} {defs : Defs}
theorem funD_look {x qual : Str} {params : Arguments} {body : List Stmt} {scope : Scope} {dvs : List V} {kws : List (Str × V)} {f : Addr} {fd : FuncData} (F : FunD K x qual params body scope dvs kws f fd) : ∃ oc od osl, K.lookup f = some ⟨oc, od, .func fd, osl⟩ := by
  obtain ⟨oc, od, dV, kV, doc, pm, an, cdv, ct, osl, _, lk, _⟩ := F.ex
  exact ⟨oc, od, osl, lk⟩
/-- a def keeps its promise at level k + 1 if all do at level k -/
theorem fn_step (F : Facts K mg t C defs) {k : Nat} (ih : ∀ (i : Nat) (d : FDef), defs.lookup i = some d → ∃ f fd, FnOk P w K mg base (L2.CX P w) k f fd d.ps (spD K T d.md d.ps.length (callG (fnsG t.fm C defs k) i)) ∧ mg d.name = some (.ref f) ∧ PySem.W.keepIn K (.ref f) = true ∧ L2.Binds K fd d.ps [] ∧ ∃ oc od osl, K.lookup f = some ⟨oc, od, .func fd, osl⟩)
    {i : Nat} {d : FDef} (hd : defs.lookup i = some d) : ∃ f fd, FnOk P w K mg base (L2.CX P w) (k + 1) f fd d.ps (spD K T d.md d.ps.length (callG (fnsG t.fm C defs (k + 1)) i)) ∧ mg d.name = some (.ref f) ∧ PySem.W.keepIn K (.ref f) = true ∧ L2.Binds K fd d.ps [] ∧ ∃ oc od osl, K.lookup f = some ⟨oc, od, .func fd, osl⟩ := by
  obtain ⟨st, hc, f, fd, ⟨qual, hF⟩, hm⟩ := F.chk i d hd
  have S := scope_ok hc
  have hc' := hc
  simp only [chkD, Bool.and_eq_true] at hc'
  have hbody := hc'.1.1.1.1.1.1.1.1
  have hpar := hc'.1.1.1.1.1.1.1.2
  refine ⟨f, fd, ?_, hm, hF.kp, hF.bindsN fun kV doc pm an cdv ct us hl => bind_all hpar hl, funD_look hF⟩
  refine hF.ok (CX := L2.CX P w) S (fun vs H Q E h => ?_) (fun cdv A outer s H vs Q E hr h => ?_)
  · obtain ⟨ds, Z, h1, _, _, h4, _⟩ := h
    rw [h4.length, h1]
  · obtain ⟨ds, Z, h1, h2, h3, h4, h5⟩ := h
    have tk : Takes (cxOf (L2.CX P w) P w K mg base d.N qual (defScope st) f cdv A outer s H E) (fun cls d _ H' => E cls d H') := takes_of rfl rfl rfl rfl
    have ok : StOk (cxOf (L2.CX P w) P w K mg base d.N qual (defScope st) f cdv A outer s H E) ⟨d.N, defScope st, fun _ => true, t⟩ T (fun cls d _ H' => E cls d H') C (fnsG t.fm C defs k) k := by
      refine ⟨⟨rfl, rfl, rfl, rfl, S.nd, hr, tk, F.free, fun j x m n hj => ?_, F.cons⟩, S.kind, passes_of rfl, F.exc⟩
      have hj : t.fns.lookup j = some (x, m, n) := hj
      rw [F.fns] at hj
      obtain ⟨d', q, e⟩ := fns_look hj
      cases e
      obtain ⟨f', fd', a1, a2, a3, a4, _⟩ := ih j d' q
      exact ⟨f', fd', d'.ps, a1, a2, a3, a4⟩
    refine ⟨_, sSs d.body ok hbody, ?_⟩
    refine ⟨H, Z, hide H Z, Z, startD d.N.length ds, h3, ⟨stE_start h3 h2 h4, Ext.refl h2, ExtN.refl _, fun _ h => h, fun _ h => .inl h, fun j a e q1 => ?_⟩, ?_⟩
    · exfalso
      unfold startD at q1
      by_cases hi : j < ds.length
      · rw [List.getElem?_append_left (by simpa using hi), List.getElem?_map] at q1
        cases q : ds[j]? with
        | none => rw [q] at q1; cases q1
        | some d => rw [q] at q1; cases q1
      · rw [List.getElem?_append_right (by simpa using Nat.le_of_not_lt hi)] at q1
        rw [List.getElem?_replicate] at q1
        split at q1 <;> cases q1
    · have h5 : PostF K T Z H d.md Q E (match defs.lookup i with | some d => d.run t.fm C (fnsG t.fm C defs k) ds | none => .bad) := h5
      rw [hd] at h5
      have h5 : PostF K T Z H d.md Q E (d.run t.fm C (fnsG t.fm C defs k) ds) := h5
      unfold FDef.run at h5
      show PostD K T H Z (hide H Z) _ d.md _ (exs t.fm C (fnsG t.fm C defs k) d.body (startD d.N.length ds))
      cases q : exs t.fm C (fnsG t.fm C defs k) d.body (startD d.N.length ds) with
      | ok o =>
        rw [q] at h5
        cases o with
        | rt r => exact h5
        | nx ρ =>
          intro Z' σ' H' s'
          by_cases hm : d.md = .sh
          · have h5 : PostF K T Z H d.md Q E (if d.md = .sh then .ok .non else .bad) := h5
            rw [if_pos hm] at h5
            refine h5 .non H' s'.ext ?_
            rw [hm]; rfl
          · have h5 : PostF K T Z H d.md Q E (if d.md = .sh then .ok .non else .bad) := h5
            rw [if_neg hm] at h5
            exact h5.elim
        | ct ρ => exact h5.elim
        | br ρ => exact h5.elim
      | ex c => rw [q] at h5; exact fun σ H' e => h5 H' e
      | bad => rw [q] at h5; exact h5
theorem fn_all (F : Facts K mg t C defs) : ∀ (k i : Nat) (d : FDef), defs.lookup i = some d → ∃ f fd, FnOk P w K mg base (L2.CX P w) k f fd d.ps (spD K T d.md d.ps.length (callG (fnsG t.fm C defs k) i)) ∧ mg d.name = some (.ref f) ∧ PySem.W.keepIn K (.ref f) = true ∧ L2.Binds K fd d.ps [] ∧ ∃ oc od osl, K.lookup f = some ⟨oc, od, .func fd, osl⟩
  | 0, i, d, hd => by
    obtain ⟨st, hc, f, fd, ⟨qual, hF⟩, hm⟩ := F.chk i d hd
    have hc' := hc
    simp only [chkD, Bool.and_eq_true] at hc'
    have hpar := hc'.1.1.1.1.1.1.1.2
    refine ⟨f, fd, ⟨fun vs H Q E h => ?_, fun A outer s H args us vs Q E hr e0 hb r h => ?_⟩, hm, hF.kp, hF.bindsN fun kV doc pm an cdv ct us hl => bind_all hpar hl, funD_look hF⟩
    · obtain ⟨ds, Z, h1, _, _, h4, _⟩ := h
      rw [h4.length, h1]
    · obtain ⟨ds, Z, h1, h2, h3, h4, h5⟩ := h
      exact (show False from h5).elim
  | k + 1, i, d, hd => fn_step F (fun i d h => fn_all F k i d h) hd
end
end Py
end
section
set_option maxHeartbeats 4000000
namespace Py
open PySem PySem.Spec PyProof.Rows L2 LamX

/-! ### a law's data -/
structure Law where
  defs : Defs
  sts : List Stmt
  fm : List Md
  C : List D
  free : List Str
  inz : List (Nat × Str × Int)
  excs : List Str
def Law.tbl (L : Law) : Tbl := ⟨fns_tbl L.defs, L.fm, L.free, L.inz.map (fun p => (p.1, p.2.1)), L.excs⟩
def Law.G (L : Law) (k : Nat) : GT := fnsG L.fm L.C L.defs k
def dOf (d : Nat × FDef) (st : Stmt) : He.DefD := ⟨(d.2.name, none), d.2.name, d.2.name, defArgs st, defBody st, defScope st, [], []⟩
def Law.fn (L : Law) : List He.DefD := List.zipWith dOf L.defs L.sts
def Law.fa (L : Law) : List He.Fa := L.defs.map (fun d => .glo d.2.name) ++ (L.free.map .free ++ (L.inz.map (fun p => .int p.2.1 p.2.2) ++ (L.excs.map .exc ++ L.excs.map .glo)))
def chkDs (t : Tbl) : Defs → List Stmt → Bool
  | [], [] => true
  | d :: ds, s :: ss => chkD t d.2 s && chkDs t ds ss
  | _, _ => false
def isInt : D → Int → Bool
  | .int i, j => decide (i = j)
  | _, _ => false
def Law.chk (L : Law) : Bool := chkDs L.tbl L.defs L.sts && L.inz.all fun p => match L.C[p.1]? with | some d => isInt d p.2.2 | none => false
theorem chkDs_at {t : Tbl} : ∀ {ds : Defs} {ss : List Stmt}, chkDs t ds ss = true → ∀ (i : Nat) (d : FDef), ds.lookup i = some d → ∃ st, chkD t d st = true ∧ dOf (i, d) st ∈ List.zipWith dOf ds ss ∧ (i, d) ∈ ds
  | [], ss, h, i, d, hd => by simp at hd
  | _ :: _, [], h, i, d, hd => by cases h
  | (j, d0) :: ds, s :: ss, h, i, d, hd => by
    simp only [chkDs, Bool.and_eq_true] at h
    rw [List.lookup_cons] at hd
    cases q : i == j with
    | true =>
      rw [q] at hd
      cases hd
      have e : i = j := beq_iff_eq.mp q
      subst e
      exact ⟨s, h.1, by simp, by simp⟩
    | false =>
      rw [q] at hd
      obtain ⟨st, h2, h3, h4⟩ := chkDs_at h.2 i d hd
      exact ⟨st, h2, by simp [h3], by simp [h4]⟩
theorem look_mem {α : Type} {i : Nat} {x : α} : ∀ {l : List (Nat × α)}, l.lookup i = some x → (i, x) ∈ l
  | [], h => by cases h
  | (j, y) :: l, h => by
    rw [List.lookup_cons] at h
    cases q : i == j with
    | true => rw [q] at h; cases h; rw [beq_iff_eq.mp q]; exact List.mem_cons_self
    | false => rw [q] at h; exact List.mem_cons_of_mem _ (look_mem h)
theorem Law.facts (L : Law) (hc0 : L.chk = true) {K : PySem.W.Frag} {h : Heap} {mg : Str → Option Value} (X : K.In h) (G : h.Ns mainGlobals mg) (c : He.SaysD L.fa L.fn K) : Facts K mg L.tbl L.C L.defs where
  fns := rfl
  chk := fun i d hd => by
    have hc := hc0
    simp only [Law.chk, Bool.and_eq_true] at hc
    obtain ⟨st, h2, h3, h4⟩ := chkDs_at hc.1 i d hd
    obtain ⟨fd, F⟩ := c.defs h3
    refine ⟨st, h2, _, fd, ⟨_, F⟩, ?_⟩
    have hm : He.Fa.glo d.name ∈ L.fa := List.mem_append_left _ (List.mem_map.mpr ⟨(i, d), h4, rfl⟩)
    exact He.glo_ok X G (c.facts hm)
  free := fun x hx => He.free_ok X G (c.facts (List.mem_append_right _ (List.mem_append_left _ (List.mem_map.mpr ⟨x, hx, rfl⟩))))
  cons := fun i x hx => by
    have hx : (L.inz.map (fun p => (p.1, p.2.1))).lookup i = some x := hx
    obtain ⟨p, hp, e⟩ := List.mem_map.mp (look_mem hx)
    cases e
    have hm : He.Fa.int p.2.1 p.2.2 ∈ L.fa := List.mem_append_right _ (List.mem_append_right _ (List.mem_append_left _ (List.mem_map.mpr ⟨p, hp, rfl⟩)))
    obtain ⟨t, e⟩ := He.int_ok X G (c.facts hm)
    have hc := hc0
    simp only [Law.chk, Bool.and_eq_true] at hc
    have h5 := List.all_eq_true.mp hc.2 p hp
    cases q : L.C[p.1]? with
    | none => rw [q] at h5; cases h5
    | some d =>
      rw [q] at h5
      cases d with
      | int j =>
        have h5 : decide (j = p.2.2) = true := h5
        have e6 := of_decide_eq_true h5
        subst e6
        exact ⟨.int p.2.2, .int p.2.2, .int p.2.2 t, rfl, e, ⟨t, rfl⟩, fun _ => rfl⟩
      | _ => cases h5
  exc := fun x hx => by
    have h1 : He.Fa.exc x ∈ L.fa := List.mem_append_right _ (List.mem_append_right _ (List.mem_append_right _ (List.mem_append_left _ (List.mem_map.mpr ⟨x, hx, rfl⟩))))
    have h2 : He.Fa.glo x ∈ L.fa := List.mem_append_right _ (List.mem_append_right _ (List.mem_append_right _ (List.mem_append_right _ (List.mem_map.mpr ⟨x, hx, rfl⟩))))
    exact ⟨He.glo_ok X G (c.facts h2), c.facts h1⟩
def Law.run (L : Law) (k i : Nat) (ns : List Int) : RR D := callG (L.G k) i [.scr ns]
/-- for walk_ofE -/
theorem Law.walk (L : Law) (hc0 : L.chk = true) {P : Program} {w : World} {K : PySem.W.Frag} {h : Heap} {mg : Str → Option Value} {fa : Addr} {i : Nat} {d : FDef} {k : Nat} {p : Str} (X : K.In h) (G : h.Ns mainGlobals mg) (c : He.SaysD L.fa L.fn K)
    (hd : L.defs.lookup i = some d) (hmd : d.md = .sh) (hps : d.ps = [p]) (hmg : mg d.name = some (.ref fa)) :
    ∃ fd : FuncData, (∀ (s : Shared) (u : Value), BindsTo s fd ⟨[u], []⟩ [(p, u)]) ∧ ∀ base : Heap, K.In base → base.Ns mainGlobals mg → FnOk P w K mg base (L2.CX P w) k fa fd [p] (spD K [] .sh 1 (callG (L.G k) i)) := by
  have F := L.facts hc0 X G c
  have hc := hc0
  simp only [Law.chk, Bool.and_eq_true] at hc
  obtain ⟨st, h2, h3, h4⟩ := chkDs_at hc.1 i d hd
  obtain ⟨fd, FD⟩ := c.defs h3
  have hm : He.Fa.glo d.name ∈ L.fa := List.mem_append_left _ (List.mem_map.mpr ⟨(i, d), h4, rfl⟩)
  have e : fa = He.fAd K (dOf (i, d) st).at_ := by
    have := He.glo_ok X G (c.facts hm)
    rw [hmg] at this
    cases this
    rfl
  have h2' := h2
  simp only [chkD, Bool.and_eq_true] at h2'
  have hpar := h2'.1.1.1.1.1.1.1.2
  rw [hps] at hpar
  refine ⟨fd, fun s u => FD.bindsA (ps := [p]) (fun kV doc pm an cdv ct us hl => bind_all hpar hl) s [u] rfl, fun base _ _ => ?_⟩
  obtain ⟨f', fd', a1, a2, a3, a4, oc, od, osl, lk⟩ := fn_all (P := P) (w := w) (base := base) (T := []) F k i d hd
  rw [hmg] at a2
  cases a2
  -- the same function object
  have : fd' = fd := by
    obtain ⟨oc2, od2, osl2, lk2⟩ := funD_look FD
    rw [← e, lk] at lk2
    have h0 := Option.some.inj lk2
    injection h0 with _ _ h3 _
    injection h3
  subst this
  rw [hps, hmd] at a1
  exact a1
theorem to0 {P : Program} {w : World} {K : PySem.W.Frag} {mg : Str → Option Value} {base : Heap} {k : Nat} {f : Addr} {fd : FuncData} {ps : List Str} {sp : Sp} (F : FnOk P w K mg base (L2.CX P w) k f fd ps sp) :
    FnOk P w K mg base L2.CX0 k f fd ps (fun vs H Q _ => sp vs H Q (fun _ _ _ => False)) where
  len := fun vs H Q E h => F.len vs H Q _ h
  run := fun A outer s H args us vs Q E hr e0 hb r h => codeAny_mono (F.run A outer s H args us vs Q _ hr e0 hb r h) fun r s' hq => by
    cases r with
    | error e =>
      obtain ⟨_, _, _, _, _, _, _, _, _, _, _, _, z⟩ := hq
      exact z.elim
    | ok fl => cases fl <;> exact hq
/-- the law's promise at a script -/
theorem Law.keeps {K : PySem.W.Frag} {G : GT} {i : Nat} {H : Hp} {a : Addr} {ns : List Int} (hl : ns.length ≤ 63) (hS : SqL K H a (ns.map V.int)) (h : callG G i [.scr ns] = .ok (.bl true)) {E : XK} :
    spD K [] .sh 1 (callG G i) [.ref a] H (fun v _ => v = .bl true) E := by
  refine ⟨[.scr ns], fun _ => false, rfl, (fun p hp => nomatch hp : Tabs [] H), (fun a ha => nomatch ha), ?_, ?_⟩
  · have e : hide H (fun _ => false) = H := by funext b; rfl
    rw [e]
    refine ⟨.ref a, [], rfl, ⟨?_, a, rfl, hS⟩, rfl⟩
    rw [lim_eq]; unfold lim; omega
  · rw [h]
    intro v H' _ r
    exact r
end Py
end
section
set_option maxHeartbeats 4000000
set_option exponentiation.threshold 2000
namespace Py
open PySem PySem.Spec PyProof.Rows L2 LamX

/-! ### meanings at data of known shape, as rewriting rules -/
@[simp] theorem of_some {α : Type} (a : α) : RR.of (some a) = .ok a := rfl
@[simp] theorem of_none {α : Type} : RR.of (none : Option α) = .bad := rfl
def finO (m : Md) (r : RR Out) : RR D := match r with
  | .ok (.rt r) => .ok r
  | .ok (.nx _) => if m = .sh then .ok .non else .bad
  | .ex c => .ex c
  | _ => .bad
@[simp] theorem finO_rt (m : Md) (d : D) : finO m (.ok (.rt d)) = .ok d := rfl
@[simp] theorem finO_nx (ρ : Env) : finO .sh (.ok (.nx ρ)) = .ok .non := rfl
@[simp] theorem finO_ex (m : Md) (c : Str) : finO m (.ex c) = .ex c := rfl
@[simp] theorem finO_ite (m : Md) (c : Prop) [Decidable c] (x y : RR Out) : finO m (if c then x else y) = if c then finO m x else finO m y := by split <;> rfl
theorem run_eq (d : FDef) (fm : List Md) (C : List D) (G : GT) (l : List D) : d.run fm C G l = finO d.md (exs fm C G d.body (startD d.N.length l)) := rfl
@[simp] theorem bind_ite {α β : Type} (c : Prop) [Decidable c] (x y : RR α) (f : α → RR β) : ((if c then x else y) >>= f) = if c then x >>= f else y >>= f := by split <;> rfl
@[simp] theorem varD_0 (d : D) (ρ : Env) : varD 0 (some (false, d) :: ρ) = .ok d := rfl
@[simp] theorem varD_s (i : Nat) (o : Option (Bool × D)) (ρ : Env) : varD (i + 1) (o :: ρ) = varD i ρ := rfl
@[simp] theorem ownD_0 (b : Bool) (d : D) (ρ : Env) : ownD 0 (some (b, d) :: ρ) = .ok d := rfl
@[simp] theorem ownD_s (i : Nat) (o : Option (Bool × D)) (ρ : Env) : ownD (i + 1) (o :: ρ) = ownD i ρ := rfl
@[simp] theorem evA1 {C : List D} {G : GT} {e : E} {ρ : Env} : evA C G (.c e .n) ρ = ev C G e ρ := by rw [evA_one]
@[simp] theorem evA2 {C : List D} {G : GT} {e e' : E} {l : Es} {ρ : Env} : evA C G (.c e (.c e' l)) ρ = (ev C G e ρ >>= fun x => truR x >>= fun k => if k then evA C G (.c e' l) ρ else .ok x) := by rw [evA_more]
@[simp] theorem evR1 {C : List D} {G : GT} {e : E} {ρ : Env} : evR C G (.c e .n) ρ = ev C G e ρ := by rw [evR_one]
@[simp] theorem evR2 {C : List D} {G : GT} {e e' : E} {l : Es} {ρ : Env} : evR C G (.c e (.c e' l)) ρ = (ev C G e ρ >>= fun x => truR x >>= fun k => if k then .ok x else evR C G (.c e' l) ρ) := by rw [evR_more]
@[simp] theorem rr_bind {α β : Type} (x : RR α) (f : α → RR β) : RR.bind x f = (x >>= f) := rfl
/-! comprehensions -/
theorem mapC_map {α : Type} (f : D → RR (Option D)) (g : α → D) (en : α → D) : ∀ (l : List α), (∀ x ∈ l, f (en x) = .ok (some (g x))) → mapC f (l.map en) = .ok (l.map g)
  | [], _ => rfl
  | x :: l, h => by
    rw [List.map_cons, List.map_cons]
    unfold mapC
    rw [h x List.mem_cons_self, mapC_map f g en l fun y hy => h y (List.mem_cons_of_mem _ hy)]; rfl
theorem mapC_filter {α : Type} (f : D → RR (Option D)) (p : α → Bool) (g : α → D) (en : α → D) : ∀ (l : List α), (∀ x ∈ l, f (en x) = .ok (if p x then some (g x) else none)) → mapC f (l.map en) = .ok ((l.filter p).map g)
  | [], _ => rfl
  | x :: l, h => by
    rw [List.map_cons, List.filter_cons]
    unfold mapC
    rw [h x List.mem_cons_self, mapC_filter f p g en l fun y hy => h y (List.mem_cons_of_mem _ hy)]
    cases p x <;> rfl
theorem compF_map {α : Type} {t : Tg} {vs : List Nat} {fs : Env → RR (List D)} {fc : Env → RR Bool} {fe : Env → RR D} {ρ : Env} {l : List α} {en g : α → D} (hs : fs ρ = .ok (l.map en)) (h : ∀ x ∈ l, turnC t vs ρ fc fe (en x) = .ok (some (g x))) : compF t vs fs fc fe ρ = .ok (.lst (l.map g)) := by
  unfold compF
  rw [hs, RR.bind_ok, mapC_map _ g en l h]; rfl
theorem compF_filter {α : Type} {t : Tg} {vs : List Nat} {fs : Env → RR (List D)} {fc : Env → RR Bool} {fe : Env → RR D} {ρ : Env} {l : List α} (p : α → Bool) {en g : α → D} (hs : fs ρ = .ok (l.map en)) (h : ∀ x ∈ l, turnC t vs ρ fc fe (en x) = .ok (if p x then some (g x) else none)) : compF t vs fs fc fe ρ = .ok (.lst ((l.filter p).map g)) := by
  unfold compF
  rw [hs, RR.bind_ok, mapC_filter _ p g en l h]; rfl
@[simp] theorem turn_v (i : Nat) (vs : List Nat) (ρ : Env) (fc : Env → RR Bool) (fe : Env → RR D) (d : D) : turnC (.v i) vs ρ fc fe d = (fc ((wipeD ρ vs).set i (some (false, d))) >>= fun k => if k then fe ((wipeD ρ vs).set i (some (false, d))) >>= fun x => .ok (some x) else .ok none) := rfl
@[simp] theorem b_add (i j : Int) : binD .add (.int i) (.int j) = some (.int (i + j)) := rfl
@[simp] theorem b_sub (i j : Int) : binD .sub (.int i) (.int j) = some (.int (i - j)) := rfl
theorem b_mul (i j : Int) (h : i.natAbs < 2 ^ 64 ∨ j.natAbs < 2 ^ 64) : binD .mul (.int i) (.int j) = some (.int (i * j)) := by
  have : mulOk i j = true := by
    unfold mulOk
    rcases h with h | h <;> rw [decide_eq_true h] <;> simp
  show (if mulOk i j = true then _ else _) = _
  rw [if_pos this]
theorem b_mulW (i j : Int) (h : i.natAbs < 2 ^ 200) (h' : j.natAbs < 2 ^ 200) : binD .mul (.int i) (.int j) = some (.int (i * j)) := by
  have : mulOk i j = true := by
    unfold mulOk
    rw [decide_eq_true (Nat.lt_of_lt_of_le h (Nat.pow_le_pow_right (by decide) (by decide : 200 ≤ 1000))), decide_eq_true (Nat.lt_of_lt_of_le h' (Nat.pow_le_pow_right (by decide) (by decide : 200 ≤ 1000)))]; simp
  show (if mulOk i j = true then _ else _) = _
  rw [if_pos this]
theorem b_fdiv (i j : Int) (h : 0 < j) (h2 : j.natAbs < 2 ^ 200) : binD .fdiv (.int i) (.int j) = some (.int (i / j)) :=
  if_pos ⟨h, Nat.lt_of_lt_of_le h2 (Nat.pow_le_pow_right (by decide) (by decide))⟩
theorem b_mod (i j : Int) (h : 0 < j) : binD .mod (.int i) (.int j) = some (.int (i % j)) := if_pos h
@[simp] theorem c_eq (i j : Int) : cmpB .eq (.int i) (.int j) = some (decide (i = j)) := by
  show eqB (.int i) (.int j) = _
  have h : eqP (.int i) (.int j) = decide (i = j) := by
    show (i == j) = _
    by_cases e : i = j
    · simp [e]
    · simp [e]
  unfold eqB
  rw [h]
  simp [nod, dep]
@[simp] theorem c_ne (i j : Int) : cmpB .ne (.int i) (.int j) = some (!decide (i = j)) := by
  show Option.map _ (cmpB .eq (.int i) (.int j)) = _
  rw [c_eq]; rfl
@[simp] theorem c_lt (i j : Int) : cmpB .lt (.int i) (.int j) = some (decide (i < j)) := rfl
@[simp] theorem c_le (i j : Int) : cmpB .le (.int i) (.int j) = some (decide (i ≤ j)) := rfl
@[simp] theorem c_leb (i j : Bool) : cmpB .le (.bl i) (.bl j) = some (!i || j) := rfl
@[simp] theorem c_gt (i j : Int) : cmpB .gt (.int i) (.int j) = some (decide (j < i)) := rfl
@[simp] theorem c_ge (i j : Int) : cmpB .ge (.int i) (.int j) = some (decide (j ≤ i)) := rfl
@[simp] theorem tru_bl (b : Bool) : truR (.bl b) = .ok b := rfl
@[simp] theorem tru_int (i : Int) : truR (.int i) = .ok (decide (i ≠ 0)) := by
  show RR.of (some (i != 0)) = _
  by_cases e : i = 0 <;> simp [e]
@[simp] theorem limL_ok (l : List D) (h : l.length ≤ 16777216) : limL l = .ok l := if_pos h
@[simp] theorem seqO_nx (ρ : Env) (k : Env → RR Out) : seqO (.ok (.nx ρ)) k = k ρ := rfl
@[simp] theorem seqO_rt (d : D) (k : Env → RR Out) : seqO (.ok (.rt d)) k = .ok (.rt d) := rfl
@[simp] theorem seqO_ex (c : Str) (k : Env → RR Out) : seqO (.ex c) k = .ex c := rfl
@[simp] theorem seqO_ite (b : Bool) (x y : RR Out) (k : Env → RR Out) : seqO (if b then x else y) k = if b then seqO x k else seqO y k := by cases b <;> rfl
/-! loops -/
theorem execFor_inv {α : Type} {t : Tg} {body : Env → RR Out} {en : α → D} (I : List α → Env → Prop) : ∀ (l : List α) (done : List α) (ρ : Env), (∀ done x ρ, x ∈ l → I done ρ → ∃ ρ1 ρ', bindT t (en x) ρ = .ok ρ1 ∧ body ρ1 = .ok (.nx ρ') ∧ I (done ++ [x]) ρ') → I done ρ → ∃ ρ', execFor t body (l.map en) ρ = .ok (.nx ρ') ∧ I (done ++ l) ρ'
  | [], done, ρ, _, h0 => ⟨ρ, rfl, by rw [List.append_nil]; exact h0⟩
  | x :: l, done, ρ, h, h0 => by
    obtain ⟨ρ1, ρ2, h1, h2, h3⟩ := h done x ρ List.mem_cons_self h0
    obtain ⟨ρ', h4, h5⟩ := execFor_inv I l (done ++ [x]) ρ2 (fun d y ρ hy hi => h d y ρ (List.mem_cons_of_mem _ hy) hi) h3
    refine ⟨ρ', ?_, by rw [show done ++ x :: l = done ++ [x] ++ l by simp]; exact h5⟩
    rw [List.map_cons]
    unfold execFor
    rw [h1, RR.bind_ok, h2]
    exact h4
theorem appO_ok {i : Nat} {f : Env → RR D} {ρ : Env} {l : List D} (hi : ρ[i]? = some (some (true, .lst l))) (hl : l.length < 16777216) : appO i f ρ = f ρ >>= fun d => .ok (.nx (ρ.set i (some (true, .lst (l ++ [d]))))) := by
  unfold appO
  rw [hi]
  exact if_pos hl
theorem extO_ok {i : Nat} {f : Env → RR D} {ρ : Env} {l l2 : List D} (hi : ρ[i]? = some (some (true, .lst l))) (hf : f ρ = .ok (.lst l2)) (hl : l.length + l2.length ≤ 16777216) : extO i f ρ = .ok (.nx (ρ.set i (some (true, .lst (l ++ l2))))) := by
  unfold extO
  rw [hi]
  dsimp only
  rw [hf, RR.bind_ok]
  exact if_pos hl
theorem asInts_map : ∀ ns : List Int, asInts (ns.map D.int) = some ns
  | [] => rfl
  | n :: ns => by simp [asInts, asInts_map ns]
theorem rangeD_eq (n : Nat) : rangeD 0 (n : Int) = (List.range n).map fun i => D.int ((i : Nat) : Int) := by
  unfold rangeD
  simp
theorem rng1_nat (n : Nat) (h : n ≤ 16777216) : rng1D (.int (n : Int)) = .ok ((List.range n).map fun i => D.int ((i : Nat) : Int)) := by
  have e : rngOk 0 (n : Int) = true := by
    unfold rngOk
    simp only [Bool.and_eq_true, decide_eq_true_eq]
    have hl : n ≤ lim := by unfold lim; exact h
    refine ⟨⟨⟨⟨by decide, by decide⟩, by omega⟩, by omega⟩, ?_⟩
    rw [Int.sub_zero, Int.toNat_natCast]
    exact hl
  unfold rng1D
  dsimp only
  rw [if_pos e, rangeD_eq]
theorem atI_ok {α : Type} (l : List α) (i : Int) (h0 : 0 ≤ i) (h1 : i < (l.length : Nat)) : L2.atI l i = some (l[i.toNat]'(by omega)) := by
  unfold L2.atI L2.ixN
  rw [if_pos h0, if_pos h1]
  simp
theorem callG_at {fm : List Md} {C : List D} {defs : Defs} {f : Nat} {d : FDef} (h : defs.lookup f = some d) (k : Nat) (l : List D) : callG (fnsG fm C defs (k + 1)) f l = d.run fm C (fnsG fm C defs k) l := by
  show (match defs.lookup f with | some d => d.run fm C (fnsG fm C defs k) l | none => .bad) = _
  rw [h]
end Py
end
section
set_option maxHeartbeats 4000000
namespace Py.K20
open PySem PySem.Spec PyProof.Rows L2 Py
def FM : List Md := [.sh, .sh, .sh, .fr, .sh, .sh, .fr, .sh, .sh, .sh, .sh, .sh, .sh, .sh, .fr, .sh, .sh, .sh, .sh, .sh, .sh, .sh, .sh, .sh, .fr, .fr, .fr, .sh, .sh, .fr, .sh, .sh, .sh, .fr, .sh, .sh, .sh, .sh, .fr, .fr, .sh, .sh, .sh, .sh, .sh, .sh, .fr, .fr, .sh, .sh, .sh, .sh, .sh, .sh, .fr, .fr, .sh, .sh, .sh, .fr, .sh, .sh, .sh, .sh, .sh, .fr, .sh, .sh, .sh, .sh, .fr, .sh, .sh, .sh, .sh, .sh, .sh, .sh, .sh, .sh, .sh, .sh, .sh, .sh, .fr, .sh, .fr, .fr, .sh, .sh, .sh, .sh, .sh, .sh, .sh, .sh, .sh, .sh, .sh, .fr, .sh, .sh, .sh, .sh, .sh, .sh, .sh, .sh, .sh, .sh, .sh, .sh, .sh, .sh, .sh, .fr, .sh, .sh, .sh, .sh, .sh, .sh, .sh, .sh, .sh, .sh, .fr, .sh, .fr, .sh, .sh, .sh, .sh, .fr, .sh, .fr, .sh, .sh, .sh, .fr, .sh, .fr, .fr, .fr, .fr, .sh, .sh, .sh, .sh, .sh, .sh, .sh, .sh, .sh, .fr, .sh, .sh, .sh, .sh, .sh, .sh, .sh, .sh, .sh]
def CC : List D := [.int 16, .int 5, .int 1000, .int 5, .int 6]
/-- is_line -/
def F20 : FDef := ⟨⟨#[105,115,95,108,105,110,101]⟩, .sh, [⟨#[116,104,105,110,103]⟩], [⟨#[116,104,105,110,103]⟩, ⟨#[111,110,101]⟩],
  (.c (.ret (.and (.c (.isi .tuple (.v 0)) (.c (.cmp .eq (.blt .len (.c (.v 0) .n)) (.int 2)) (.c (.blt .all (.c (.comp (.v 1) [1] (.seq (.v 0)) .nop (.isi .bool (.v 1))) .n)) .n))))) .n)⟩
/-- need_line -/
def F21 : FDef := ⟨⟨#[110,101,101,100,95,108,105,110,101]⟩, .sh, [⟨#[108,105,110,101]⟩], [⟨#[108,105,110,101]⟩],
  (.c (.ifs (.nt (.call 20 (.c (.v 0) .n))) (.c (.raise ⟨#[66,97,100,76,105,110,101]⟩) .n) .n) .n)⟩
/-- is_count -/
def F22 : FDef := ⟨⟨#[105,115,95,99,111,117,110,116]⟩, .sh, [⟨#[116,104,105,110,103]⟩, ⟨#[108,111,119]⟩, ⟨#[104,105,103,104]⟩], [⟨#[116,104,105,110,103]⟩, ⟨#[108,111,119]⟩, ⟨#[104,105,103,104]⟩],
  (.c (.ret (.and (.c (.isi .int (.v 0)) (.c (.nt (.isi .bool (.v 0))) (.c (.chn .le .le (.v 1) (.v 0) (.v 2)) .n))))) .n)⟩
/-- need_many -/
def F23 : FDef := ⟨⟨#[110,101,101,100,95,109,97,110,121]⟩, .sh, [⟨#[109,97,110,121]⟩], [⟨#[109,97,110,121]⟩],
  (.c (.ifs (.nt (.call 22 (.c (.v 0) (.c (.int 0) (.c (.con 1) .n))))) (.c (.raise ⟨#[66,97,100,75,105,110,100]⟩) .n) .n) .n)⟩
/-- ways_of -/
def F24 : FDef := ⟨⟨#[119,97,121,115,95,111,102]⟩, .fr, [⟨#[108,105,110,101]⟩, ⟨#[107,105,110,100]⟩], [⟨#[108,105,110,101]⟩, ⟨#[107,105,110,100]⟩, ⟨#[109,97,110,121]⟩, ⟨#[102,111,117,110,100]⟩, ⟨#[111,119,110]⟩, ⟨#[114,97,110,107,115]⟩, ⟨#[105,115,95,108,111,119]⟩, ⟨#[105,115,95,104,105,103,104]⟩, ⟨#[108,97,116,101,114]⟩, ⟨#[108,111,119,115]⟩, ⟨#[104,105,103,104,115]⟩, ⟨#[108,111,119]⟩, ⟨#[114,97,110,107]⟩, ⟨#[104,105,103,104]⟩],
  (.c (.tset [5,6,7] (.v 1)) (.c (.set 2 (.bin .add (.blt .max (.c (.bin .add (.v 5) (.tup (.c (.neg (.int 1)) .n))) .n)) (.int 1))) (.c (.set 3 (.lst .n)) (.c (.forr (.v 4) (.rng1 (.v 2)) (.c (.app 3 (.tup (.c (.bin .add (.v 5) (.tup (.c (.v 4) .n))) (.c (.v 6) (.c (.v 7) .n))))) .n)) (.c (.forr (.v 4) (.rng1 (.bin .add (.v 2) (.int 1))) (.c (.set 8 (.bin .add (.blt .tuple (.c (.comp (.v 12) [12] (.seq (.v 5)) .nop (.bin .add (.v 12) (.blt .int (.c (.cmp .ge (.v 12) (.v 4)) .n)))) .n)) (.tup (.c (.v 4) .n)))) (.c (.set 9 (.ite (.cmp .gt (.v 4) (.int 0)) (.lst (.c (.v 6) .n)) (.bin .add (.bin .mul (.lst (.c (.bl false) .n)) (.blt .int (.c (.nt (.v 6)) .n))) (.bin .mul (.lst (.c (.bl true) .n)) (.blt .int (.c (.and (.c (.ix (.v 0) (.int 0)) (.c (.nt (.v 6)) .n))) .n)))))) (.c (.set 10 (.ite (.cmp .lt (.v 4) (.v 2)) (.lst (.c (.v 7) .n)) (.bin .add (.bin .mul (.lst (.c (.bl false) .n)) (.blt .int (.c (.nt (.v 7)) .n))) (.bin .mul (.lst (.c (.bl true) .n)) (.blt .int (.c (.and (.c (.ix (.v 0) (.int 1)) (.c (.nt (.v 7)) .n))) .n)))))) (.c (.forr (.v 11) (.seq (.v 9)) (.c (.ext 3 (.comp (.v 13) [13] (.seq (.v 10)) (.or (.c (.cmp .gt (.v 2) (.int 0)) (.c (.nt (.and (.c (.v 11) (.c (.v 13) .n)))) .n))) (.tup (.c (.v 8) (.c (.v 11) (.c (.v 13) .n)))))) .n)) .n))))) (.c (.ret (.blt .sorted (.c (.o 3) .n))) .n))))))⟩
/-- kinds_of -/
def F25 : FDef := ⟨⟨#[107,105,110,100,115,95,111,102]⟩, .fr, [⟨#[108,105,110,101]⟩, ⟨#[109,97,110,121]⟩], [⟨#[108,105,110,101]⟩, ⟨#[109,97,110,121]⟩, ⟨#[102,111,117,110,100]⟩, ⟨#[116,117,114,110]⟩, ⟨#[108,111,110,103,101,114]⟩, ⟨#[107,105,110,100]⟩],
  (.c (.set 2 (.shr (.lst (.c (.tup (.c (.tup .n) (.c (.bl false) (.c (.bl false) .n)))) .n)))) (.c (.forr (.v 3) (.rng1 (.v 1)) (.c (.set 4 (.lst .n)) (.c (.forr (.v 5) (.seq (.v 2)) (.c (.ext 4 (.call 24 (.c (.v 0) (.c (.v 5) .n)))) .n)) (.c (.frz 4 (.set 2 (.v 4))) .n)))) (.c (.ret (.blt .sorted (.c (.v 2) .n))) .n)))⟩
/-- kinds -/
def F26 : FDef := ⟨⟨#[107,105,110,100,115]⟩, .fr, [⟨#[108,105,110,101]⟩, ⟨#[109,97,110,121]⟩], [⟨#[108,105,110,101]⟩, ⟨#[109,97,110,121]⟩],
  (.c (.exp (.call 21 (.c (.v 0) .n))) (.c (.exp (.call 23 (.c (.v 1) .n))) (.c (.ret (.call 25 (.c (.v 0) (.c (.v 1) .n)))) .n)))⟩
/-- is_kind -/
def F27 : FDef := ⟨⟨#[105,115,95,107,105,110,100]⟩, .sh, [⟨#[108,105,110,101]⟩, ⟨#[116,104,105,110,103]⟩], [⟨#[108,105,110,101]⟩, ⟨#[116,104,105,110,103]⟩, ⟨#[109,97,110,121]⟩, ⟨#[114,97,110,107]⟩, ⟨#[111,110,101]⟩],
  (.c (.ifs (.or (.c (.nt (.isi .tuple (.v 1))) (.c (.cmp .ne (.blt .len (.c (.v 1) .n)) (.int 3)) (.c (.nt (.isi .tuple (.ix (.v 1) (.int 0)))) .n)))) (.c (.ret (.bl false)) .n) .n) (.c (.ifs (.cmp .gt (.blt .len (.c (.ix (.v 1) (.int 0)) .n)) (.con 1)) (.c (.ret (.bl false)) .n) .n) (.c (.ifs (.nt (.blt .all (.c (.comp (.v 3) [3] (.seq (.ix (.v 1) (.int 0))) .nop (.call 22 (.c (.v 3) (.c (.int 0) (.c (.bin .sub (.con 1) (.int 1)) .n))))) .n))) (.c (.ret (.bl false)) .n) .n) (.c (.ifs (.nt (.blt .all (.c (.comp (.v 4) [4] (.seq (.sl (.v 1) (.int 1) .nop)) .nop (.isi .bool (.v 4))) .n))) (.c (.ret (.bl false)) .n) .n) (.c (.set 2 (.lset (.ix (.v 1) (.int 0)))) (.c (.ifs (.or (.c (.cmp .ne (.sset (.ix (.v 1) (.int 0))) (.lrng (.v 2))) (.c (.and (.c (.cmp .lt (.v 2) (.int 2)) (.c (.ix (.v 1) (.int 1)) (.c (.ix (.v 1) (.int 2)) .n)))) .n))) (.c (.ret (.bl false)) .n) .n) (.c (.ret (.and (.c (.or (.c (.cmp .gt (.v 2) (.int 0)) (.c (.nt (.or (.c (.ix (.v 1) (.int 1)) (.c (.ix (.v 1) (.int 2)) .n)))) .n))) (.c (.cmp .le (.ix (.v 1) (.int 1)) (.ix (.v 0) (.int 0))) (.c (.cmp .le (.ix (.v 1) (.int 2)) (.ix (.v 0) (.int 1))) .n))))) .n)))))))⟩
/-- need_kind -/
def F28 : FDef := ⟨⟨#[110,101,101,100,95,107,105,110,100]⟩, .sh, [⟨#[108,105,110,101]⟩, ⟨#[107,105,110,100]⟩], [⟨#[108,105,110,101]⟩, ⟨#[107,105,110,100]⟩],
  (.c (.exp (.call 21 (.c (.v 0) .n))) (.c (.ifs (.nt (.call 27 (.c (.v 0) (.c (.v 1) .n)))) (.c (.raise ⟨#[66,97,100,75,105,110,100]⟩) .n) .n) .n))⟩
/-- ways -/
def F29 : FDef := ⟨⟨#[119,97,121,115]⟩, .fr, [⟨#[108,105,110,101]⟩, ⟨#[107,105,110,100]⟩], [⟨#[108,105,110,101]⟩, ⟨#[107,105,110,100]⟩],
  (.c (.exp (.call 28 (.c (.v 0) (.c (.v 1) .n)))) (.c (.exp (.call 23 (.c (.bin .add (.blt .len (.c (.ix (.v 1) (.int 0)) .n)) (.int 1)) .n))) (.c (.ret (.call 24 (.c (.v 0) (.c (.v 1) .n)))) .n)))⟩
/-- less_one -/
def F30 : FDef := ⟨⟨#[108,101,115,115,95,111,110,101]⟩, .sh, [⟨#[107,105,110,100]⟩, ⟨#[112,108,97,99,101]⟩], [⟨#[107,105,110,100]⟩, ⟨#[112,108,97,99,101]⟩, ⟨#[111,119,110]⟩, ⟨#[114,101,115,116]⟩, ⟨#[108,97,116,101,114]⟩, ⟨#[114,97,110,107,115]⟩, ⟨#[105,115,95,108,111,119]⟩, ⟨#[105,115,95,104,105,103,104]⟩, ⟨#[114,97,110,107]⟩],
  (.c (.tset [5,6,7] (.v 0)) (.c (.set 2 (.ix (.v 5) (.v 1))) (.c (.set 3 (.bin .add (.sl (.v 5) .nop (.v 1)) (.sl (.v 5) (.bin .add (.v 1) (.int 1)) .nop))) (.c (.ifs (.cmp .inn (.v 2) (.v 3)) (.c (.ret (.tup (.c (.v 3) (.c (.v 6) (.c (.v 7) .n))))) .n) .n) (.c (.set 4 (.blt .tuple (.c (.comp (.v 8) [8] (.seq (.v 3)) .nop (.bin .sub (.v 8) (.blt .int (.c (.cmp .gt (.v 8) (.v 2)) .n)))) .n))) (.c (.ret (.tup (.c (.v 4) (.c (.and (.c (.v 6) (.c (.cmp .gt (.v 2) (.int 0)) .n))) (.c (.and (.c (.v 7) (.c (.cmp .lt (.v 2) (.blt .max (.c (.v 5) .n))) .n))) .n))))) .n))))))⟩
/-- without -/
def F31 : FDef := ⟨⟨#[119,105,116,104,111,117,116]⟩, .sh, [⟨#[108,105,110,101]⟩, ⟨#[107,105,110,100]⟩, ⟨#[112,108,97,99,101]⟩], [⟨#[108,105,110,101]⟩, ⟨#[107,105,110,100]⟩, ⟨#[112,108,97,99,101]⟩],
  (.c (.exp (.call 28 (.c (.v 0) (.c (.v 1) .n)))) (.c (.ifs (.nt (.call 22 (.c (.v 2) (.c (.int 0) (.c (.bin .sub (.blt .len (.c (.ix (.v 1) (.int 0)) .n)) (.int 1)) .n))))) (.c (.raise ⟨#[66,97,100,75,105,110,100]⟩) .n) .n) (.c (.ret (.call 30 (.c (.v 1) (.c (.v 2) .n)))) .n)))⟩
/-- _law_cell -/
def F7 : FDef := ⟨⟨#[95,108,97,119,95,99,101,108,108]⟩, .sh, [⟨#[95,108,97,119,95,115,99,114,105,112,116]⟩, ⟨#[95,108,97,119,95,107]⟩], [⟨#[95,108,97,119,95,115,99,114,105,112,116]⟩, ⟨#[95,108,97,119,95,107]⟩],
  (.c (.ifs (.cmp .eq (.v 0) (.lst .n)) (.c (.ret (.bin .mul (.v 1) (.int 7919))) .n) .n) (.c (.ret (.bin .add (.ix (.v 0) (.bin .mod (.v 1) (.blt .len (.c (.v 0) .n)))) (.bin .mul (.bin .fdiv (.v 1) (.blt .len (.c (.v 0) .n))) (.int 104729)))) .n))⟩
/-- _law_drawn -/
def F8 : FDef := ⟨⟨#[95,108,97,119,95,100,114,97,119,110]⟩, .sh, [⟨#[95,108,97,119,95,99,101,108,108,95,104,101,114,101]⟩, ⟨#[95,108,97,119,95,107]⟩], [⟨#[95,108,97,119,95,99,101,108,108,95,104,101,114,101]⟩, ⟨#[95,108,97,119,95,107]⟩, ⟨#[95,108,97,119,95,109,111,114,101]⟩],
  (.c (.set 2 (.bin .mod (.bin .add (.bin .mul (.v 0) (.int 6364136223846793005)) (.bin .mul (.bin .add (.v 1) (.int 1)) (.int 1442695040888963407))) (.int 340282366920938463463374607431768211507))) (.c (.set 2 (.bin .mod (.bin .mul (.v 2) (.v 2)) (.int 340282366920938463463374607431768211297))) (.c (.set 2 (.bin .mul (.bin .mul (.bin .add (.bin .mod (.v 2) (.int 18446744073709551557)) (.int 1)) (.bin .add (.bin .fdiv (.v 2) (.int 18446744073709551557)) (.int 1))) (.v 2))) (.c (.ret (.bin .mod (.v 2) (.int 340282366920938463463374607431768211507))) .n))))⟩
/-- _law_line -/
def F32 : FDef := ⟨⟨#[95,108,97,119,95,108,105,110,101]⟩, .sh, [⟨#[95,108,97,119,95,109,111,114,101]⟩], [⟨#[95,108,97,119,95,109,111,114,101]⟩],
  (.c (.ret (.tup (.c (.cmp .eq (.bin .mod (.v 0) (.int 2)) (.int 0)) (.c (.cmp .eq (.bin .mod (.bin .fdiv (.v 0) (.int 2)) (.int 2)) (.int 0)) .n)))) .n)⟩
/-- _law_beyond -/
def F33 : FDef := ⟨⟨#[95,108,97,119,95,98,101,121,111,110,100]⟩, .fr, [⟨#[95,108,97,119,95,108,105,110,101,95,104,101,114,101]⟩, ⟨#[95,108,97,119,95,104,101,97,100,115]⟩], [⟨#[95,108,97,119,95,108,105,110,101,95,104,101,114,101]⟩, ⟨#[95,108,97,119,95,104,101,97,100,115]⟩, ⟨#[95,108,97,119,95,102,111,117,110,100]⟩, ⟨#[95,108,97,119,95,111,110,101]⟩, ⟨#[95,108,97,119,95,111,116,104,101,114]⟩, ⟨#[95,108,97,119,95,108,111,119]⟩, ⟨#[95,108,97,119,95,104,105,103,104]⟩],
  (.c (.set 2 (.blt .list (.c (.v 1) .n))) (.c (.forr (.t [3,4]) (.zip (.sl (.v 1) .nop (.neg (.int 1))) (.sl (.v 1) (.int 1) .nop)) (.c (.app 2 (.bin .fdiv (.bin .add (.v 3) (.v 4)) (.int 2))) .n)) (.c (.ifs (.cmp .eq (.v 1) (.lst .n)) (.c (.set 2 (.bin .add (.o 2) (.lst (.c (.bin .fdiv (.call 34 .n) (.int 2)) .n)))) .n) .n) (.c (.tpar 5 6 (.c (.ix (.bin .add (.v 1) (.lst (.c (.bin .fdiv (.call 34 .n) (.int 2)) .n))) (.int 0)) (.c (.ix (.bin .add (.lst (.c (.bin .fdiv (.call 34 .n) (.int 2)) .n)) (.v 1)) (.neg (.int 1))) .n))) (.c (.set 2 (.bin .add (.o 2) (.ite (.ix (.v 0) (.int 0)) (.lst (.c (.int 0) (.c (.bin .fdiv (.v 5) (.int 2)) .n))) (.lst (.c (.bin .sub (.v 5) (.call 34 .n)) .n))))) (.c (.set 2 (.bin .add (.o 2) (.ite (.ix (.v 0) (.int 1)) (.lst (.c (.call 34 .n) (.c (.bin .fdiv (.bin .add (.v 6) (.call 34 .n)) (.int 2)) .n))) (.lst (.c (.bin .add (.v 6) (.call 34 .n)) .n))))) (.c (.ret (.sset (.comp (.v 3) [3] (.seq (.o 2)) (.call 35 (.c (.v 0) (.c (.v 3) .n))) (.v 3)))) .n)))))))⟩
/-- _law_top -/
def F34 : FDef := ⟨⟨#[95,108,97,119,95,116,111,112]⟩, .sh, [], [],
  (.c (.ret (.bin .mul (.int 720720) (.int 1048576))) .n)⟩
/-- _law_is_there -/
def F35 : FDef := ⟨⟨#[95,108,97,119,95,105,115,95,116,104,101,114,101]⟩, .sh, [⟨#[95,108,97,119,95,108,105,110,101,95,104,101,114,101]⟩, ⟨#[95,108,97,119,95,111,110,101]⟩], [⟨#[95,108,97,119,95,108,105,110,101,95,104,101,114,101]⟩, ⟨#[95,108,97,119,95,111,110,101]⟩],
  (.c (.ret (.and (.c (.or (.c (.cmp .ge (.v 1) (.int 0)) (.c (.nt (.ix (.v 0) (.int 0))) .n))) (.c (.or (.c (.cmp .le (.v 1) (.call 34 .n)) (.c (.nt (.ix (.v 0) (.int 1))) .n))) .n)))) .n)⟩
/-- _law_dense -/
def F36 : FDef := ⟨⟨#[95,108,97,119,95,100,101,110,115,101]⟩, .sh, [⟨#[95,108,97,119,95,114,111,119]⟩], [⟨#[95,108,97,119,95,114,111,119]⟩, ⟨#[95,108,97,119,95,111,110,101]⟩, ⟨#[95,108,97,119,95,111,116,104,101,114]⟩],
  (.c (.ret (.blt .tuple (.c (.comp (.v 1) [1] (.seq (.v 0)) .nop (.lset (.comp (.v 2) [2] (.seq (.v 0)) (.cmp .lt (.v 2) (.v 1)) (.v 2)))) .n))) .n)⟩
/-- _law_kind -/
def F37 : FDef := ⟨⟨#[95,108,97,119,95,107,105,110,100]⟩, .sh, [⟨#[95,108,97,119,95,108,105,110,101,95,104,101,114,101]⟩, ⟨#[95,108,97,119,95,114,111,119]⟩], [⟨#[95,108,97,119,95,108,105,110,101,95,104,101,114,101]⟩, ⟨#[95,108,97,119,95,114,111,119]⟩],
  (.c (.ret (.tup (.c (.call 36 (.c (.v 1) .n)) (.c (.and (.c (.ix (.v 0) (.int 0)) (.c (.cmp .inn (.int 0) (.v 1)) .n))) (.c (.and (.c (.ix (.v 0) (.int 1)) (.c (.cmp .inn (.call 34 .n) (.v 1)) .n))) .n))))) .n)⟩
/-- _law_kinds -/
def F38 : FDef := ⟨⟨#[95,108,97,119,95,107,105,110,100,115]⟩, .fr, [⟨#[95,108,97,119,95,108,105,110,101,95,104,101,114,101]⟩, ⟨#[95,108,97,119,95,109,97,110,121]⟩], [⟨#[95,108,97,119,95,108,105,110,101,95,104,101,114,101]⟩, ⟨#[95,108,97,119,95,109,97,110,121]⟩, ⟨#[95,108,97,119,95,102,111,117,110,100]⟩, ⟨#[95,108,97,119,95,116,117,114,110]⟩, ⟨#[95,108,97,119,95,108,111,110,103,101,114]⟩, ⟨#[95,108,97,119,95,114,111,119]⟩, ⟨#[95,108,97,119,95,112,111,105,110,116]⟩],
  (.c (.set 2 (.shr (.lst (.c (.lst .n) .n)))) (.c (.forr (.v 3) (.rng1 (.v 1)) (.c (.set 4 (.lst .n)) (.c (.forr (.v 5) (.seq (.v 2)) (.c (.ext 4 (.comp (.v 6) [6] (.seq (.call 33 (.c (.v 0) (.c (.sset (.v 5)) .n)))) .nop (.bin .add (.v 5) (.lst (.c (.v 6) .n))))) .n)) (.c (.frz 4 (.set 2 (.v 4))) .n)))) (.c (.ret (.sset (.comp (.v 5) [5] (.seq (.v 2)) .nop (.call 37 (.c (.v 0) (.c (.v 5) .n)))))) .n)))⟩
/-- _law_at -/
def F39 : FDef := ⟨⟨#[95,108,97,119,95,97,116]⟩, .fr, [⟨#[95,108,97,119,95,108,105,110,101,95,104,101,114,101]⟩, ⟨#[95,108,97,119,95,107,105,110,100,95,104,101,114,101]⟩], [⟨#[95,108,97,119,95,108,105,110,101,95,104,101,114,101]⟩, ⟨#[95,108,97,119,95,107,105,110,100,95,104,101,114,101]⟩, ⟨#[95,108,97,119,95,109,111,115,116]⟩, ⟨#[95,108,97,119,95,102,111,117,110,100]⟩, ⟨#[95,108,97,119,95,114,97,110,107]⟩, ⟨#[95,108,97,119,95,114,97,110,107,115]⟩, ⟨#[95,108,97,119,95,105,115,95,108,111,119]⟩, ⟨#[95,108,97,119,95,105,115,95,104,105,103,104]⟩, ⟨#[95,108,97,119,95,115,112,111,116]⟩],
  (.c (.tset [5,6,7] (.v 1)) (.c (.set 2 (.blt .max (.c (.bin .add (.v 5) (.tup (.c (.neg (.int 1)) .n))) .n))) (.c (.set 3 (.lst .n)) (.c (.forr (.v 4) (.seq (.v 5)) (.c (.set 8 (.bin .mul (.bin .fdiv (.call 34 .n) (.bin .add (.v 2) (.int 2))) (.bin .add (.v 4) (.int 1)))) (.c (.app 3 (.ite (.and (.c (.v 6) (.c (.cmp .eq (.v 4) (.int 0)) .n))) (.int 0) (.ite (.and (.c (.v 7) (.c (.cmp .eq (.v 4) (.v 2)) .n))) (.call 34 .n) (.v 8)))) .n))) (.c (.retO 3) .n)))))⟩
/-- law -/
def F40 : FDef := ⟨⟨#[108,97,119]⟩, .sh, [⟨#[95,108,97,119,95,115,99,114,105,112,116]⟩], [⟨#[95,108,97,119,95,115,99,114,105,112,116]⟩, ⟨#[95,108,97,119,95,107]⟩, ⟨#[95,108,97,119,95,109,111,114,101]⟩, ⟨#[95,108,97,119,95,102,111,117,110,100]⟩, ⟨#[95,108,97,119,95,108,97,116,101,114]⟩, ⟨#[95,108,97,119,95,106]⟩, ⟨#[95,108,97,119,95,108,105,110,101,95,104,101,114,101]⟩, ⟨#[95,108,97,119,95,109,97,110,121]⟩, ⟨#[95,108,97,119,95,107,105,110,100,95,104,101,114,101]⟩, ⟨#[95,108,97,119,95,112,111,105,110,116,115]⟩, ⟨#[95,108,97,119,95,112,108,97,99,101]⟩, ⟨#[95,108,97,119,95,111,110,101]⟩],
  (.c (.forr (.v 1) (.rng1 (.blt .max (.c (.int 1) (.c (.blt .min (.c (.int 2) (.c (.blt .len (.c (.v 0) .n)) .n))) .n)))) (.c (.set 2 (.call 8 (.c (.call 7 (.c (.v 0) (.c (.v 1) .n))) (.c (.v 1) .n)))) (.c (.tset [6,7] (.tup (.c (.call 32 (.c (.v 2) .n)) (.c (.bin .mod (.bin .fdiv (.v 2) (.int 4)) (.int 4)) .n)))) (.c (.set 3 (.shr (.call 26 (.c (.v 6) (.c (.v 7) .n))))) (.c (.ifs (.cmp .ne (.v 3) (.call 38 (.c (.v 6) (.c (.v 7) .n)))) (.c (.ret (.bl false)) .n) .n) (.c (.set 4 (.shr (.call 26 (.c (.v 6) (.c (.bin .add (.v 7) (.int 1)) .n))))) (.c (.forr (.v 5) (.rng1 (.blt .min (.c (.int 12) (.c (.blt .len (.c (.v 3) .n)) .n)))) (.c (.set 8 (.ix (.v 3) (.bin .mod (.call 8 (.c (.v 2) (.c (.bin .add (.int 10) (.v 5)) .n))) (.blt .len (.c (.v 3) .n))))) (.c (.ifs (.cmp .ne (.call 29 (.c (.v 6) (.c (.v 8) .n))) (.comp (.v 11) [11] (.seq (.v 4)) (.cmp .eq (.call 31 (.c (.v 6) (.c (.v 11) (.c (.v 7) .n)))) (.v 8)) (.v 11))) (.c (.ret (.bl false)) .n) .n) (.c (.ifs (.isx .isnt (.call 28 (.c (.v 6) (.c (.v 8) .n))) .non) (.c (.ret (.bl false)) .n) .n) .n)))) (.c (.forr (.v 5) (.rng1 (.int 12)) (.c (.set 8 (.ix (.v 4) (.bin .mod (.call 8 (.c (.v 2) (.c (.bin .add (.int 30) (.v 5)) .n))) (.blt .len (.c (.v 4) .n))))) (.c (.set 9 (.shr (.call 39 (.c (.v 6) (.c (.v 8) .n))))) (.c (.forr (.v 10) (.rng1 (.bin .add (.v 7) (.int 1))) (.c (.ifs (.cmp .ne (.call 31 (.c (.v 6) (.c (.v 8) (.c (.v 10) .n)))) (.call 37 (.c (.v 6) (.c (.bin .add (.sl (.v 9) .nop (.v 10)) (.sl (.v 9) (.bin .add (.v 10) (.int 1)) .nop)) .n)))) (.c (.ret (.bl false)) .n) .n) .n)) .n)))) (.c (.ifs (.and (.c (.cmp .eq (.bin .mod (.v 2) (.int 40)) (.int 0)) (.c (.cmp .ne (.call 26 (.c (.v 6) (.c (.int 5) .n))) (.sset (.call 26 (.c (.v 6) (.c (.int 5) .n))))) .n))) (.c (.ret (.bl false)) .n) .n) .n))))))))) (.c (.ret (.bl true)) .n))⟩
def top (i : Nat) : Stmt := PySem.Challenge.pw_denselines_k20_whole_kinds.main.body.getD i (.Pass ⟨0, 0, 0, 0⟩)
def L : Law := ⟨[(20, F20), (21, F21), (22, F22), (23, F23), (24, F24), (25, F25), (26, F26), (27, F27), (28, F28), (29, F29), (30, F30), (31, F31), (7, F7), (8, F8), (32, F32), (33, F33), (34, F34), (35, F35), (36, F36), (37, F37), (38, F38), (39, F39), (40, F40)], [top 6, top 7, top 8, top 9, top 10, top 11, top 12, top 13, top 14, top 15, top 16, top 17, top 19, top 20, top 21, top 22, top 23, top 24, top 25, top 26, top 27, top 28, top 29], FM, CC, [⟨#[105,115,105,110,115,116,97,110,99,101]⟩, ⟨#[116,117,112,108,101]⟩, ⟨#[108,101,110]⟩, ⟨#[97,108,108]⟩, ⟨#[98,111,111,108]⟩, ⟨#[105,110,116]⟩, ⟨#[109,97,120]⟩, ⟨#[114,97,110,103,101]⟩, ⟨#[115,111,114,116,101,100]⟩, ⟨#[115,101,116]⟩, ⟨#[108,105,115,116]⟩, ⟨#[122,105,112]⟩, ⟨#[109,105,110]⟩], [(1, ⟨#[77,79,83,84,95,80,79,73,78,84,83]⟩, 5)], [⟨#[66,97,100,76,105,110,101]⟩, ⟨#[66,97,100,75,105,110,100]⟩]⟩
abbrev loose : List Str := ["is_line", "need_line", "is_count", "need_many", "ways_of", "kinds_of", "kinds", "is_kind", "need_kind", "ways", "less_one", "without", "_law_cell", "_law_drawn", "_law_line", "_law_beyond", "_law_top", "_law_is_there", "_law_dense", "_law_kind", "_law_kinds", "_law_at", "LineError", "BadLine", "BadKind", "MOST_POINTS"]
-- law at 29 number 40
-- 20 is_line sh
-- 21 need_line sh
-- 22 is_count sh
-- 23 need_many sh
-- 24 ways_of fr
-- 25 kinds_of fr
-- 26 kinds fr
-- 27 is_kind sh
-- 28 need_kind sh
-- 29 ways fr
-- 30 less_one sh
-- 31 without sh
-- 7 _law_cell sh
-- 8 _law_drawn sh
-- 32 _law_line sh
-- 33 _law_beyond fr
-- 34 _law_top sh
-- 35 _law_is_there sh
-- 36 _law_dense sh
-- 37 _law_kind sh
-- 38 _law_kinds fr
-- 39 _law_at fr
-- 40 law sh
theorem chk : L.chk = true := by decide +kernel
end Py.K20
end
section
set_option maxHeartbeats 0
namespace Py.K20
open PySem PySem.Spec PyProof.Rows L2 Py
abbrev R : PySem.W.OpenRow := PySem.W.OpenLaw.row PySem.Challenge.rw_denselines_k20_whole_kinds
abbrev hk : PySem.W.Hook := He.hookD 4 L.fa L.fn
def ob (s : PySem.W.SharedT) : He.AlD := He.obsDG 4 L.fa L.fn (HandSHeadRun.getT s)
theorem ob_eq (s : PySem.W.SharedT) : ob s = hk.obs s.abs := He.obsDG_eq (HandSHeadRun.getT_eq s)
theorem run (w : World) : HandSHeadRun.RunEq R (PySem.W.view R.prog [29]) hk ob 2000 loose w := by
  intro os
  kernel_rfl
end Py.K20
end
section
set_option maxHeartbeats 0
namespace Py
open PySem PySem.Spec PyProof.Rows L2
mutual
def deq : D → D → Bool
  | .non, .non => true
  | .bl a, .bl b => a == b
  | .int a, .int b => decide (a = b)
  | .tup l, .tup r => deqs l r
  | .lst l, .lst r => deqs l r
  | _, _ => false
def deqs : List D → List D → Bool
  | [], [] => true
  | x :: xs, y :: ys => deq x y && deqs xs ys
  | _, _ => false
end
mutual
theorem deq_eq : ∀ x y : D, deq x y = true → x = y
  | .non, .non, _ => rfl
  | .bl a, .bl b, h => by rw [show a = b from by simpa [deq] using h]
  | .int a, .int b, h => by rw [show a = b from by simpa [deq] using h]
  | .tup l, .tup r, h => by rw [deqs_eq l r (by simpa [deq] using h)]
  | .lst l, .lst r, h => by rw [deqs_eq l r (by simpa [deq] using h)]
theorem deqs_eq : ∀ x y : List D, deqs x y = true → x = y
  | [], [], _ => rfl
  | x :: xs, y :: ys, h => by
    simp only [deqs, Bool.and_eq_true] at h
    rw [deq_eq x y h.1, deqs_eq xs ys h.2]
end
def isOk (r : RR D) (d : D) : Bool := match r with
  | .ok e => deq e d
  | _ => false
theorem isOk_eq {r : RR D} {d : D} (h : isOk r d = true) : r = .ok d := by
  cases r with
  | ok e => rw [deq_eq e d h]
  | _ => cases h
mutual
theorem eqv_self : ∀ d : D, nod d = true → PyData.eqv (toPy d) (toPy d) = true
  | .non, _ => by simp [toPy, PyData.eqv]
  | .bl _, _ => by simp [toPy, PyData.eqv]
  | .int _, _ => by simp [toPy, PyData.eqv]
  | .str _, _ => by simp [toPy, PyData.eqv]
  | .tup l, h => by simp only [toPy, PyData.eqv]; exact eqvs_self l h
  | .lst l, h => by simp only [toPy, PyData.eqv]; exact eqvs_self l h
  | .scr l, _ => by
    simp only [toPy, PyData.eqv]
    induction l with
    | nil => rfl
    | cons x l ih => simp only [List.map_cons, PyData.eqvAll, PyData.eqv, ih (by rfl)]; simp
  | .dic _ _, h => by cases h
theorem eqvs_self : ∀ l : List D, nods l = true → PyData.eqvAll (toPys l) (toPys l) = true
  | [], _ => rfl
  | d :: l, h => by
    simp only [nods, Bool.and_eq_true] at h
    simp only [toPys, PyData.eqvAll, eqv_self d h.1, eqvs_self l h.2]; rfl
end
theorem ne_self {d : D} (h : nod d = true) (h2 : dep d ≤ 64) : cmpB .ne d d = some false := by
  show (eqB d d).map (!·) = _
  unfold eqB eqP
  rw [eqv_self d h, h]
  simp [h2]
mutual
theorem eqv_rig : ∀ x y : D, rig x y = true → PyData.eqv (toPy x) (toPy y) = true → x = y
  | .bl _, .bl _, _, h => by simp [toPy, PyData.eqv] at h; rw [h]
  | .int _, .int _, _, h => by simp [toPy, PyData.eqv] at h; rw [h]
  | .str _, .str _, _, h => by simp [toPy, PyData.eqv] at h; rw [h]
  | .tup l, .tup r, h1, h => by
    simp only [toPy, PyData.eqv] at h
    rw [eqvs_rig l r (by simpa [rig] using h1) h]
theorem eqvs_rig : ∀ x y : List D, rigs x y = true → PyData.eqvAll (toPys x) (toPys y) = true → x = y
  | [], [], _, _ => rfl
  | x :: xs, y :: ys, h1, h => by
    simp only [rigs, Bool.and_eq_true] at h1
    simp only [toPys, PyData.eqvAll, Bool.and_eq_true] at h
    rw [eqv_rig x y h1.1 h.1, eqvs_rig xs ys h1.2 h.2]
end
theorem eq_rig {x y : D} (h : rig x y = true) (n1 : nod x = true) (n2 : nod y = true) (d1 : dep x ≤ 64) : ∃ b, cmpB .eq x y = some b ∧ (b = true ↔ x = y) := by
  refine ⟨eqP x y, ?_, fun e => eqv_rig x y h e, fun e => by subst e; exact eqv_self x n1⟩
  show eqB x y = _
  unfold eqB
  rw [n1, n2]
  have : decide (min (dep x) (dep y) ≤ 64) = true := decide_eq_true (by omega)
  rw [this]; rfl
end Py
namespace Py.K20
open PySem PySem.Spec PyProof.Rows L2 Py
abbrev Kd := List Nat × Bool × Bool
def ei (n : Nat) : D := .int (n : Nat)
def encK (k : Kd) : D := .tup [.tup (k.1.map ei), .bl k.2.1, .bl k.2.2]
def encL (a b : Bool) : D := .tup [.bl a, .bl b]
def encKs (l : List Kd) : D := .lst (l.map encK)
def ksV : Bool → Bool → Nat → List Kd
  | true, true, 0 => [([],false,false)]
  | true, true, 1 => [([0],false,false),([0],false,true),([0],true,false)]
  | true, true, 2 => [([0,0],false,false),([0,0],false,true),([0,0],true,false),([0,1],false,false),([0,1],false,true),([0,1],true,false),([0,1],true,true),([1,0],false,false),([1,0],false,true),([1,0],true,false),([1,0],true,true)]
  | true, true, 3 => [([0,0,0],false,false),([0,0,0],false,true),([0,0,0],true,false),([0,0,1],false,false),([0,0,1],false,true),([0,0,1],true,false),([0,0,1],true,true),([0,1,0],false,false),([0,1,0],false,true),([0,1,0],true,false),([0,1,0],true,true),([0,1,1],false,false),([0,1,1],false,true),([0,1,1],true,false),([0,1,1],true,true),([0,1,2],false,false),([0,1,2],false,true),([0,1,2],true,false),([0,1,2],true,true),([0,2,1],false,false),([0,2,1],false,true),([0,2,1],true,false),([0,2,1],true,true),([1,0,0],false,false),([1,0,0],false,true),([1,0,0],true,false),([1,0,0],true,true),([1,0,1],false,false),([1,0,1],false,true),([1,0,1],true,false),([1,0,1],true,true),([1,0,2],false,false),([1,0,2],false,true),([1,0,2],true,false),([1,0,2],true,true),([1,1,0],false,false),([1,1,0],false,true),([1,1,0],true,false),([1,1,0],true,true),([1,2,0],false,false),([1,2,0],false,true),([1,2,0],true,false),([1,2,0],true,true),([2,0,1],false,false),([2,0,1],false,true),([2,0,1],true,false),([2,0,1],true,true),([2,1,0],false,false),([2,1,0],false,true),([2,1,0],true,false),([2,1,0],true,true)]
  | true, true, 4 => [([0,0,0,0],false,false),([0,0,0,0],false,true),([0,0,0,0],true,false),([0,0,0,1],false,false),([0,0,0,1],false,true),([0,0,0,1],true,false),([0,0,0,1],true,true),([0,0,1,0],false,false),([0,0,1,0],false,true),([0,0,1,0],true,false),([0,0,1,0],true,true),([0,0,1,1],false,false),([0,0,1,1],false,true),([0,0,1,1],true,false),([0,0,1,1],true,true),([0,0,1,2],false,false),([0,0,1,2],false,true),([0,0,1,2],true,false),([0,0,1,2],true,true),([0,0,2,1],false,false),([0,0,2,1],false,true),([0,0,2,1],true,false),([0,0,2,1],true,true),([0,1,0,0],false,false),([0,1,0,0],false,true),([0,1,0,0],true,false),([0,1,0,0],true,true),([0,1,0,1],false,false),([0,1,0,1],false,true),([0,1,0,1],true,false),([0,1,0,1],true,true),([0,1,0,2],false,false),([0,1,0,2],false,true),([0,1,0,2],true,false),([0,1,0,2],true,true),([0,1,1,0],false,false),([0,1,1,0],false,true),([0,1,1,0],true,false),([0,1,1,0],true,true),([0,1,1,1],false,false),([0,1,1,1],false,true),([0,1,1,1],true,false),([0,1,1,1],true,true),([0,1,1,2],false,false),([0,1,1,2],false,true),([0,1,1,2],true,false),([0,1,1,2],true,true),([0,1,2,0],false,false),([0,1,2,0],false,true),([0,1,2,0],true,false),([0,1,2,0],true,true),([0,1,2,1],false,false),([0,1,2,1],false,true),([0,1,2,1],true,false),([0,1,2,1],true,true),([0,1,2,2],false,false),([0,1,2,2],false,true),([0,1,2,2],true,false),([0,1,2,2],true,true),([0,1,2,3],false,false),([0,1,2,3],false,true),([0,1,2,3],true,false),([0,1,2,3],true,true),([0,1,3,2],false,false),([0,1,3,2],false,true),([0,1,3,2],true,false),([0,1,3,2],true,true),([0,2,0,1],false,false),([0,2,0,1],false,true),([0,2,0,1],true,false),([0,2,0,1],true,true),([0,2,1,0],false,false),([0,2,1,0],false,true),([0,2,1,0],true,false),([0,2,1,0],true,true),([0,2,1,1],false,false),([0,2,1,1],false,true),([0,2,1,1],true,false),([0,2,1,1],true,true),([0,2,1,2],false,false),([0,2,1,2],false,true),([0,2,1,2],true,false),([0,2,1,2],true,true),([0,2,1,3],false,false),([0,2,1,3],false,true),([0,2,1,3],true,false),([0,2,1,3],true,true),([0,2,2,1],false,false),([0,2,2,1],false,true),([0,2,2,1],true,false),([0,2,2,1],true,true),([0,2,3,1],false,false),([0,2,3,1],false,true),([0,2,3,1],true,false),([0,2,3,1],true,true),([0,3,1,2],false,false),([0,3,1,2],false,true),([0,3,1,2],true,false),([0,3,1,2],true,true),([0,3,2,1],false,false),([0,3,2,1],false,true),([0,3,2,1],true,false),([0,3,2,1],true,true),([1,0,0,0],false,false),([1,0,0,0],false,true),([1,0,0,0],true,false),([1,0,0,0],true,true),([1,0,0,1],false,false),([1,0,0,1],false,true),([1,0,0,1],true,false),([1,0,0,1],true,true),([1,0,0,2],false,false),([1,0,0,2],false,true),([1,0,0,2],true,false),([1,0,0,2],true,true),([1,0,1,0],false,false),([1,0,1,0],false,true),([1,0,1,0],true,false),([1,0,1,0],true,true),([1,0,1,1],false,false),([1,0,1,1],false,true),([1,0,1,1],true,false),([1,0,1,1],true,true),([1,0,1,2],false,false),([1,0,1,2],false,true),([1,0,1,2],true,false),([1,0,1,2],true,true),([1,0,2,0],false,false),([1,0,2,0],false,true),([1,0,2,0],true,false),([1,0,2,0],true,true),([1,0,2,1],false,false),([1,0,2,1],false,true),([1,0,2,1],true,false),([1,0,2,1],true,true),([1,0,2,2],false,false),([1,0,2,2],false,true),([1,0,2,2],true,false),([1,0,2,2],true,true),([1,0,2,3],false,false),([1,0,2,3],false,true),([1,0,2,3],true,false),([1,0,2,3],true,true),([1,0,3,2],false,false),([1,0,3,2],false,true),([1,0,3,2],true,false),([1,0,3,2],true,true),([1,1,0,0],false,false),([1,1,0,0],false,true),([1,1,0,0],true,false),([1,1,0,0],true,true),([1,1,0,1],false,false),([1,1,0,1],false,true),([1,1,0,1],true,false),([1,1,0,1],true,true),([1,1,0,2],false,false),([1,1,0,2],false,true),([1,1,0,2],true,false),([1,1,0,2],true,true),([1,1,1,0],false,false),([1,1,1,0],false,true),([1,1,1,0],true,false),([1,1,1,0],true,true),([1,1,2,0],false,false),([1,1,2,0],false,true),([1,1,2,0],true,false),([1,1,2,0],true,true),([1,2,0,0],false,false),([1,2,0,0],false,true),([1,2,0,0],true,false),([1,2,0,0],true,true),([1,2,0,1],false,false),([1,2,0,1],false,true),([1,2,0,1],true,false),([1,2,0,1],true,true),([1,2,0,2],false,false),([1,2,0,2],false,true),([1,2,0,2],true,false),([1,2,0,2],true,true),([1,2,0,3],false,false),([1,2,0,3],false,true),([1,2,0,3],true,false),([1,2,0,3],true,true),([1,2,1,0],false,false),([1,2,1,0],false,true),([1,2,1,0],true,false),([1,2,1,0],true,true),([1,2,2,0],false,false),([1,2,2,0],false,true),([1,2,2,0],true,false),([1,2,2,0],true,true),([1,2,3,0],false,false),([1,2,3,0],false,true),([1,2,3,0],true,false),([1,2,3,0],true,true),([1,3,0,2],false,false),([1,3,0,2],false,true),([1,3,0,2],true,false),([1,3,0,2],true,true),([1,3,2,0],false,false),([1,3,2,0],false,true),([1,3,2,0],true,false),([1,3,2,0],true,true),([2,0,0,1],false,false),([2,0,0,1],false,true),([2,0,0,1],true,false),([2,0,0,1],true,true),([2,0,1,0],false,false),([2,0,1,0],false,true),([2,0,1,0],true,false),([2,0,1,0],true,true),([2,0,1,1],false,false),([2,0,1,1],false,true),([2,0,1,1],true,false),([2,0,1,1],true,true),([2,0,1,2],false,false),([2,0,1,2],false,true),([2,0,1,2],true,false),([2,0,1,2],true,true),([2,0,1,3],false,false),([2,0,1,3],false,true),([2,0,1,3],true,false),([2,0,1,3],true,true),([2,0,2,1],false,false),([2,0,2,1],false,true),([2,0,2,1],true,false),([2,0,2,1],true,true),([2,0,3,1],false,false),([2,0,3,1],false,true),([2,0,3,1],true,false),([2,0,3,1],true,true),([2,1,0,0],false,false),([2,1,0,0],false,true),([2,1,0,0],true,false),([2,1,0,0],true,true),([2,1,0,1],false,false),([2,1,0,1],false,true),([2,1,0,1],true,false),([2,1,0,1],true,true),([2,1,0,2],false,false),([2,1,0,2],false,true),([2,1,0,2],true,false),([2,1,0,2],true,true),([2,1,0,3],false,false),([2,1,0,3],false,true),([2,1,0,3],true,false),([2,1,0,3],true,true),([2,1,1,0],false,false),([2,1,1,0],false,true),([2,1,1,0],true,false),([2,1,1,0],true,true),([2,1,2,0],false,false),([2,1,2,0],false,true),([2,1,2,0],true,false),([2,1,2,0],true,true),([2,1,3,0],false,false),([2,1,3,0],false,true),([2,1,3,0],true,false),([2,1,3,0],true,true),([2,2,0,1],false,false),([2,2,0,1],false,true),([2,2,0,1],true,false),([2,2,0,1],true,true),([2,2,1,0],false,false),([2,2,1,0],false,true),([2,2,1,0],true,false),([2,2,1,0],true,true),([2,3,0,1],false,false),([2,3,0,1],false,true),([2,3,0,1],true,false),([2,3,0,1],true,true),([2,3,1,0],false,false),([2,3,1,0],false,true),([2,3,1,0],true,false),([2,3,1,0],true,true),([3,0,1,2],false,false),([3,0,1,2],false,true),([3,0,1,2],true,false),([3,0,1,2],true,true),([3,0,2,1],false,false),([3,0,2,1],false,true),([3,0,2,1],true,false),([3,0,2,1],true,true),([3,1,0,2],false,false),([3,1,0,2],false,true),([3,1,0,2],true,false),([3,1,0,2],true,true),([3,1,2,0],false,false),([3,1,2,0],false,true),([3,1,2,0],true,false),([3,1,2,0],true,true),([3,2,0,1],false,false),([3,2,0,1],false,true),([3,2,0,1],true,false),([3,2,0,1],true,true),([3,2,1,0],false,false),([3,2,1,0],false,true),([3,2,1,0],true,false),([3,2,1,0],true,true)]
  | true, false, 0 => [([],false,false)]
  | true, false, 1 => [([0],false,false),([0],true,false)]
  | true, false, 2 => [([0,0],false,false),([0,0],true,false),([0,1],false,false),([0,1],true,false),([1,0],false,false),([1,0],true,false)]
  | true, false, 3 => [([0,0,0],false,false),([0,0,0],true,false),([0,0,1],false,false),([0,0,1],true,false),([0,1,0],false,false),([0,1,0],true,false),([0,1,1],false,false),([0,1,1],true,false),([0,1,2],false,false),([0,1,2],true,false),([0,2,1],false,false),([0,2,1],true,false),([1,0,0],false,false),([1,0,0],true,false),([1,0,1],false,false),([1,0,1],true,false),([1,0,2],false,false),([1,0,2],true,false),([1,1,0],false,false),([1,1,0],true,false),([1,2,0],false,false),([1,2,0],true,false),([2,0,1],false,false),([2,0,1],true,false),([2,1,0],false,false),([2,1,0],true,false)]
  | true, false, 4 => [([0,0,0,0],false,false),([0,0,0,0],true,false),([0,0,0,1],false,false),([0,0,0,1],true,false),([0,0,1,0],false,false),([0,0,1,0],true,false),([0,0,1,1],false,false),([0,0,1,1],true,false),([0,0,1,2],false,false),([0,0,1,2],true,false),([0,0,2,1],false,false),([0,0,2,1],true,false),([0,1,0,0],false,false),([0,1,0,0],true,false),([0,1,0,1],false,false),([0,1,0,1],true,false),([0,1,0,2],false,false),([0,1,0,2],true,false),([0,1,1,0],false,false),([0,1,1,0],true,false),([0,1,1,1],false,false),([0,1,1,1],true,false),([0,1,1,2],false,false),([0,1,1,2],true,false),([0,1,2,0],false,false),([0,1,2,0],true,false),([0,1,2,1],false,false),([0,1,2,1],true,false),([0,1,2,2],false,false),([0,1,2,2],true,false),([0,1,2,3],false,false),([0,1,2,3],true,false),([0,1,3,2],false,false),([0,1,3,2],true,false),([0,2,0,1],false,false),([0,2,0,1],true,false),([0,2,1,0],false,false),([0,2,1,0],true,false),([0,2,1,1],false,false),([0,2,1,1],true,false),([0,2,1,2],false,false),([0,2,1,2],true,false),([0,2,1,3],false,false),([0,2,1,3],true,false),([0,2,2,1],false,false),([0,2,2,1],true,false),([0,2,3,1],false,false),([0,2,3,1],true,false),([0,3,1,2],false,false),([0,3,1,2],true,false),([0,3,2,1],false,false),([0,3,2,1],true,false),([1,0,0,0],false,false),([1,0,0,0],true,false),([1,0,0,1],false,false),([1,0,0,1],true,false),([1,0,0,2],false,false),([1,0,0,2],true,false),([1,0,1,0],false,false),([1,0,1,0],true,false),([1,0,1,1],false,false),([1,0,1,1],true,false),([1,0,1,2],false,false),([1,0,1,2],true,false),([1,0,2,0],false,false),([1,0,2,0],true,false),([1,0,2,1],false,false),([1,0,2,1],true,false),([1,0,2,2],false,false),([1,0,2,2],true,false),([1,0,2,3],false,false),([1,0,2,3],true,false),([1,0,3,2],false,false),([1,0,3,2],true,false),([1,1,0,0],false,false),([1,1,0,0],true,false),([1,1,0,1],false,false),([1,1,0,1],true,false),([1,1,0,2],false,false),([1,1,0,2],true,false),([1,1,1,0],false,false),([1,1,1,0],true,false),([1,1,2,0],false,false),([1,1,2,0],true,false),([1,2,0,0],false,false),([1,2,0,0],true,false),([1,2,0,1],false,false),([1,2,0,1],true,false),([1,2,0,2],false,false),([1,2,0,2],true,false),([1,2,0,3],false,false),([1,2,0,3],true,false),([1,2,1,0],false,false),([1,2,1,0],true,false),([1,2,2,0],false,false),([1,2,2,0],true,false),([1,2,3,0],false,false),([1,2,3,0],true,false),([1,3,0,2],false,false),([1,3,0,2],true,false),([1,3,2,0],false,false),([1,3,2,0],true,false),([2,0,0,1],false,false),([2,0,0,1],true,false),([2,0,1,0],false,false),([2,0,1,0],true,false),([2,0,1,1],false,false),([2,0,1,1],true,false),([2,0,1,2],false,false),([2,0,1,2],true,false),([2,0,1,3],false,false),([2,0,1,3],true,false),([2,0,2,1],false,false),([2,0,2,1],true,false),([2,0,3,1],false,false),([2,0,3,1],true,false),([2,1,0,0],false,false),([2,1,0,0],true,false),([2,1,0,1],false,false),([2,1,0,1],true,false),([2,1,0,2],false,false),([2,1,0,2],true,false),([2,1,0,3],false,false),([2,1,0,3],true,false),([2,1,1,0],false,false),([2,1,1,0],true,false),([2,1,2,0],false,false),([2,1,2,0],true,false),([2,1,3,0],false,false),([2,1,3,0],true,false),([2,2,0,1],false,false),([2,2,0,1],true,false),([2,2,1,0],false,false),([2,2,1,0],true,false),([2,3,0,1],false,false),([2,3,0,1],true,false),([2,3,1,0],false,false),([2,3,1,0],true,false),([3,0,1,2],false,false),([3,0,1,2],true,false),([3,0,2,1],false,false),([3,0,2,1],true,false),([3,1,0,2],false,false),([3,1,0,2],true,false),([3,1,2,0],false,false),([3,1,2,0],true,false),([3,2,0,1],false,false),([3,2,0,1],true,false),([3,2,1,0],false,false),([3,2,1,0],true,false)]
  | false, true, 0 => [([],false,false)]
  | false, true, 1 => [([0],false,false),([0],false,true)]
  | false, true, 2 => [([0,0],false,false),([0,0],false,true),([0,1],false,false),([0,1],false,true),([1,0],false,false),([1,0],false,true)]
  | false, true, 3 => [([0,0,0],false,false),([0,0,0],false,true),([0,0,1],false,false),([0,0,1],false,true),([0,1,0],false,false),([0,1,0],false,true),([0,1,1],false,false),([0,1,1],false,true),([0,1,2],false,false),([0,1,2],false,true),([0,2,1],false,false),([0,2,1],false,true),([1,0,0],false,false),([1,0,0],false,true),([1,0,1],false,false),([1,0,1],false,true),([1,0,2],false,false),([1,0,2],false,true),([1,1,0],false,false),([1,1,0],false,true),([1,2,0],false,false),([1,2,0],false,true),([2,0,1],false,false),([2,0,1],false,true),([2,1,0],false,false),([2,1,0],false,true)]
  | false, true, 4 => [([0,0,0,0],false,false),([0,0,0,0],false,true),([0,0,0,1],false,false),([0,0,0,1],false,true),([0,0,1,0],false,false),([0,0,1,0],false,true),([0,0,1,1],false,false),([0,0,1,1],false,true),([0,0,1,2],false,false),([0,0,1,2],false,true),([0,0,2,1],false,false),([0,0,2,1],false,true),([0,1,0,0],false,false),([0,1,0,0],false,true),([0,1,0,1],false,false),([0,1,0,1],false,true),([0,1,0,2],false,false),([0,1,0,2],false,true),([0,1,1,0],false,false),([0,1,1,0],false,true),([0,1,1,1],false,false),([0,1,1,1],false,true),([0,1,1,2],false,false),([0,1,1,2],false,true),([0,1,2,0],false,false),([0,1,2,0],false,true),([0,1,2,1],false,false),([0,1,2,1],false,true),([0,1,2,2],false,false),([0,1,2,2],false,true),([0,1,2,3],false,false),([0,1,2,3],false,true),([0,1,3,2],false,false),([0,1,3,2],false,true),([0,2,0,1],false,false),([0,2,0,1],false,true),([0,2,1,0],false,false),([0,2,1,0],false,true),([0,2,1,1],false,false),([0,2,1,1],false,true),([0,2,1,2],false,false),([0,2,1,2],false,true),([0,2,1,3],false,false),([0,2,1,3],false,true),([0,2,2,1],false,false),([0,2,2,1],false,true),([0,2,3,1],false,false),([0,2,3,1],false,true),([0,3,1,2],false,false),([0,3,1,2],false,true),([0,3,2,1],false,false),([0,3,2,1],false,true),([1,0,0,0],false,false),([1,0,0,0],false,true),([1,0,0,1],false,false),([1,0,0,1],false,true),([1,0,0,2],false,false),([1,0,0,2],false,true),([1,0,1,0],false,false),([1,0,1,0],false,true),([1,0,1,1],false,false),([1,0,1,1],false,true),([1,0,1,2],false,false),([1,0,1,2],false,true),([1,0,2,0],false,false),([1,0,2,0],false,true),([1,0,2,1],false,false),([1,0,2,1],false,true),([1,0,2,2],false,false),([1,0,2,2],false,true),([1,0,2,3],false,false),([1,0,2,3],false,true),([1,0,3,2],false,false),([1,0,3,2],false,true),([1,1,0,0],false,false),([1,1,0,0],false,true),([1,1,0,1],false,false),([1,1,0,1],false,true),([1,1,0,2],false,false),([1,1,0,2],false,true),([1,1,1,0],false,false),([1,1,1,0],false,true),([1,1,2,0],false,false),([1,1,2,0],false,true),([1,2,0,0],false,false),([1,2,0,0],false,true),([1,2,0,1],false,false),([1,2,0,1],false,true),([1,2,0,2],false,false),([1,2,0,2],false,true),([1,2,0,3],false,false),([1,2,0,3],false,true),([1,2,1,0],false,false),([1,2,1,0],false,true),([1,2,2,0],false,false),([1,2,2,0],false,true),([1,2,3,0],false,false),([1,2,3,0],false,true),([1,3,0,2],false,false),([1,3,0,2],false,true),([1,3,2,0],false,false),([1,3,2,0],false,true),([2,0,0,1],false,false),([2,0,0,1],false,true),([2,0,1,0],false,false),([2,0,1,0],false,true),([2,0,1,1],false,false),([2,0,1,1],false,true),([2,0,1,2],false,false),([2,0,1,2],false,true),([2,0,1,3],false,false),([2,0,1,3],false,true),([2,0,2,1],false,false),([2,0,2,1],false,true),([2,0,3,1],false,false),([2,0,3,1],false,true),([2,1,0,0],false,false),([2,1,0,0],false,true),([2,1,0,1],false,false),([2,1,0,1],false,true),([2,1,0,2],false,false),([2,1,0,2],false,true),([2,1,0,3],false,false),([2,1,0,3],false,true),([2,1,1,0],false,false),([2,1,1,0],false,true),([2,1,2,0],false,false),([2,1,2,0],false,true),([2,1,3,0],false,false),([2,1,3,0],false,true),([2,2,0,1],false,false),([2,2,0,1],false,true),([2,2,1,0],false,false),([2,2,1,0],false,true),([2,3,0,1],false,false),([2,3,0,1],false,true),([2,3,1,0],false,false),([2,3,1,0],false,true),([3,0,1,2],false,false),([3,0,1,2],false,true),([3,0,2,1],false,false),([3,0,2,1],false,true),([3,1,0,2],false,false),([3,1,0,2],false,true),([3,1,2,0],false,false),([3,1,2,0],false,true),([3,2,0,1],false,false),([3,2,0,1],false,true),([3,2,1,0],false,false),([3,2,1,0],false,true)]
  | false, false, 0 => [([],false,false)]
  | false, false, 1 => [([0],false,false)]
  | false, false, 2 => [([0,0],false,false),([0,1],false,false),([1,0],false,false)]
  | false, false, 3 => [([0,0,0],false,false),([0,0,1],false,false),([0,1,0],false,false),([0,1,1],false,false),([0,1,2],false,false),([0,2,1],false,false),([1,0,0],false,false),([1,0,1],false,false),([1,0,2],false,false),([1,1,0],false,false),([1,2,0],false,false),([2,0,1],false,false),([2,1,0],false,false)]
  | false, false, 4 => [([0,0,0,0],false,false),([0,0,0,1],false,false),([0,0,1,0],false,false),([0,0,1,1],false,false),([0,0,1,2],false,false),([0,0,2,1],false,false),([0,1,0,0],false,false),([0,1,0,1],false,false),([0,1,0,2],false,false),([0,1,1,0],false,false),([0,1,1,1],false,false),([0,1,1,2],false,false),([0,1,2,0],false,false),([0,1,2,1],false,false),([0,1,2,2],false,false),([0,1,2,3],false,false),([0,1,3,2],false,false),([0,2,0,1],false,false),([0,2,1,0],false,false),([0,2,1,1],false,false),([0,2,1,2],false,false),([0,2,1,3],false,false),([0,2,2,1],false,false),([0,2,3,1],false,false),([0,3,1,2],false,false),([0,3,2,1],false,false),([1,0,0,0],false,false),([1,0,0,1],false,false),([1,0,0,2],false,false),([1,0,1,0],false,false),([1,0,1,1],false,false),([1,0,1,2],false,false),([1,0,2,0],false,false),([1,0,2,1],false,false),([1,0,2,2],false,false),([1,0,2,3],false,false),([1,0,3,2],false,false),([1,1,0,0],false,false),([1,1,0,1],false,false),([1,1,0,2],false,false),([1,1,1,0],false,false),([1,1,2,0],false,false),([1,2,0,0],false,false),([1,2,0,1],false,false),([1,2,0,2],false,false),([1,2,0,3],false,false),([1,2,1,0],false,false),([1,2,2,0],false,false),([1,2,3,0],false,false),([1,3,0,2],false,false),([1,3,2,0],false,false),([2,0,0,1],false,false),([2,0,1,0],false,false),([2,0,1,1],false,false),([2,0,1,2],false,false),([2,0,1,3],false,false),([2,0,2,1],false,false),([2,0,3,1],false,false),([2,1,0,0],false,false),([2,1,0,1],false,false),([2,1,0,2],false,false),([2,1,0,3],false,false),([2,1,1,0],false,false),([2,1,2,0],false,false),([2,1,3,0],false,false),([2,2,0,1],false,false),([2,2,1,0],false,false),([2,3,0,1],false,false),([2,3,1,0],false,false),([3,0,1,2],false,false),([3,0,2,1],false,false),([3,1,0,2],false,false),([3,1,2,0],false,false),([3,2,0,1],false,false),([3,2,1,0],false,false)]
  | _, _, _ => []
def denseK (r : List Nat) : List Nat := r.map fun x => ((List.range x).filter fun y => r.contains y).length
def backK (k : Kd) (p : Nat) : Kd :=
  let r := k.1.eraseIdx p
  (denseK r, k.2.1 && r.contains 0, k.2.2 && r.contains (k.1.foldl max 0))
abbrev GG := L.G 29
def chA (a b : Bool) (m : Nat) : Bool := isOk (callG GG 26 [encL a b, ei m]) (encKs (ksV a b m))
def chB (a b : Bool) (m : Nat) : Bool := isOk (callG GG 38 [encL a b, ei m]) (encKs (ksV a b m))
def chW (a b : Bool) (m : Nat) : Bool := (ksV a b (m + 1)).all fun one => decide (one.1.length = m + 1) && (List.range (m + 1)).all fun p => isOk (callG GG 31 [encL a b, encK one, ei p]) (encK (backK one p)) && decide ((backK one p).1.length = m)
def chV (a b : Bool) (m : Nat) : Bool := (ksV a b m).all fun k => decide (k.1.length = m) && isOk (callG GG 29 [encL a b, encK k]) (encKs ((ksV a b (m + 1)).filter fun one => backK one m == k)) && isOk (callG GG 28 [encL a b, encK k]) .non
def chP (a b : Bool) (m : Nat) : Bool := (ksV a b (m + 1)).all fun one => match callG GG 39 [encL a b, encK one] with
  | .ok (.lst pts) => decide (pts.length = m + 1) && (List.range (m + 1)).all fun p => isOk (callG GG 37 [encL a b, .lst (pts.take p ++ pts.drop (p + 1))]) (encK (backK one p))
  | _ => false
def chS (a b : Bool) : Bool := match callG GG 26 [encL a b, ei 5] with
  | .ok (.lst l) => fastS l && decide (deps l ≤ 60) && nods l
  | _ => false
end Py.K20
end
section
set_option maxHeartbeats 4000000
set_option exponentiation.threshold 2000
namespace Py.K20
open PySem PySem.Spec PyProof.Rows L2 Py
theorem abs_lt {x : Int} {n : Nat} (h0 : 0 ≤ x) (h : x < (n : Nat)) : x.natAbs < n := by omega
theorem r8 (G : GT) (i k : Int) : ∃ r : Int, 0 ≤ r ∧ F8.run FM CC G [.int i, .int k] = .ok (.int r) := by
  have e1 : ∀ j : Int, binD .mul (.int j) (.int 6364136223846793005) = some (.int (j * 6364136223846793005)) := fun j => b_mul _ _ (.inr (by decide))
  have e2 : ∀ j : Int, binD .mul (.int j) (.int 1442695040888963407) = some (.int (j * 1442695040888963407)) := fun j => b_mul _ _ (.inr (by decide))
  have e3 : ∀ j : Int, binD .mod (.int j) (.int 340282366920938463463374607431768211507) = some (.int (j % 340282366920938463463374607431768211507)) := fun j => b_mod _ _ (by decide)
  have e4 : ∀ j : Int, binD .mod (.int j) (.int 340282366920938463463374607431768211297) = some (.int (j % 340282366920938463463374607431768211297)) := fun j => b_mod _ _ (by decide)
  have e5 : ∀ j : Int, binD .mod (.int j) (.int 18446744073709551557) = some (.int (j % 18446744073709551557)) := fun j => b_mod _ _ (by decide)
  have e6 : ∀ j : Int, binD .fdiv (.int j) (.int 18446744073709551557) = some (.int (j / 18446744073709551557)) := fun j => b_fdiv _ _ (by decide) (by decide)
  have e7 : ∀ j : Int, 0 ≤ j → j < 340282366920938463463374607431768211507 → binD .mul (.int j) (.int j) = some (.int (j * j)) := fun j h1 h2 => b_mulW _ _ (by omega) (by omega)
  have e8 : ∀ p q : Int, 0 ≤ p → p < 36893488147419103232 → 0 ≤ q → q < 36893488147419103232 → binD .mul (.int p) (.int q) = some (.int (p * q)) := fun p q h1 h2 h3 h4 => b_mulW _ _ (by omega) (by omega)
  have e9 : ∀ p q y : Int, 0 ≤ p → p < 36893488147419103232 → 0 ≤ q → q < 36893488147419103232 → 0 ≤ y → y < 340282366920938463463374607431768211507 → binD .mul (.int (p * q)) (.int y) = some (.int (p * q * y)) := fun p q y h1 h2 h3 h4 h5 h6 => by
    have h7 : p * q ≤ 36893488147419103232 * 36893488147419103232 := Int.mul_le_mul (by omega) (by omega) h3 (by decide)
    have h8 : 0 ≤ p * q := Int.mul_nonneg h1 h3
    exact b_mulW _ _ (by omega) (by omega)
  have m1 := Int.emod_nonneg (i * 6364136223846793005 + (k + 1) * 1442695040888963407) (show (340282366920938463463374607431768211507 : Int) ≠ 0 by decide)
  have m2 := Int.emod_lt_of_pos (i * 6364136223846793005 + (k + 1) * 1442695040888963407) (show (0 : Int) < 340282366920938463463374607431768211507 by decide)
  generalize hx : (i * 6364136223846793005 + (k + 1) * 1442695040888963407) % 340282366920938463463374607431768211507 = x at m1 m2
  have m3 := Int.emod_nonneg (x * x) (show (340282366920938463463374607431768211297 : Int) ≠ 0 by decide)
  have m4 := Int.emod_lt_of_pos (x * x) (show (0 : Int) < 340282366920938463463374607431768211297 by decide)
  generalize hy : x * x % 340282366920938463463374607431768211297 = y at m3 m4
  have m5 := Int.emod_nonneg y (show (18446744073709551557 : Int) ≠ 0 by decide)
  have m6 := Int.emod_lt_of_pos y (show (0 : Int) < 18446744073709551557 by decide)
  have m7 : 0 ≤ y / 18446744073709551557 := Int.ediv_nonneg m3 (by decide)
  have m8 : y / 18446744073709551557 < 36893488147419103200 := by omega
  refine ⟨(y % 18446744073709551557 + 1) * (y / 18446744073709551557 + 1) * y % 340282366920938463463374607431768211507, Int.emod_nonneg _ (by decide), ?_⟩
  simp only [run_eq, F8, startD, exs, ex, ev, evs]
  simp [E.md, Blt.md, mkV, e1, e2, e3, hx, e7 x m1 m2, e4, hy, e5, e6]
  rw [e8 _ _ (by omega) (by omega) (by omega) (by omega)]
  simp only [of_some, RR.bind_ok]
  rw [e9 _ _ _ (by omega) (by omega) (by omega) (by omega) m3 (by omega)]
  simp [e3]
theorem r7 (G : GT) (ns : List Int) (hl : ns.length ≤ 63) (k : Nat) : ∃ r : Int, F7.run FM CC G [.scr ns, .int (k : Nat)] = .ok (.int r) := by
  simp only [run_eq, F7, startD, exs, ex, ev, evs]
  cases ns with
  | nil =>
    refine ⟨(k : Int) * 7919, ?_⟩
    have e : binD .mul (.int ((k : Nat) : Int)) (.int 7919) = some (.int ((k : Int) * 7919)) := b_mul _ _ (.inr (by decide))
    simp [cmpB, e, show eqB (.scr []) (.lst []) = some true from rfl]
  | cons n ns =>
    have e1 : eqB (.scr (n :: ns)) (.lst []) = some false := by
      show (if _ then _ else _) = _
      rw [if_pos (by simp [nod, nods, dep, deps])]
      simp [eqP, toPy, toPys, PyData.eqv, PyData.eqvAll]
    have hp : (0 : Int) < ((n :: ns).length : Nat) := by rw [List.length_cons]; omega
    have hb : (n :: ns).length < 64 := by omega
    generalize hL : n :: ns = l at *
    have m1 := Int.emod_nonneg (k : Int) (show ((l.length : Nat) : Int) ≠ 0 by omega)
    have m2 := Int.emod_lt_of_pos (k : Int) hp
    have e2 : binD .mod (.int (k : Nat)) (.int (l.length : Nat)) = some (.int ((k : Int) % (l.length : Nat))) := b_mod _ _ hp
    have e3 : binD .fdiv (.int (k : Nat)) (.int (l.length : Nat)) = some (.int ((k : Int) / (l.length : Nat))) := b_fdiv _ _ hp (by omega)
    have e4 : ∀ j : Int, binD .mul (.int j) (.int 104729) = some (.int (j * 104729)) := fun j => b_mul _ _ (.inr (by decide))
    have e5 : ∃ x, ixD (.scr l) (.int ((k : Int) % (l.length : Nat))) = some (.int x) := by
      refine ⟨l[((k : Int) % (l.length : Nat)).toNat]'(by omega), ?_⟩
      show (L2.atI l _).map D.int = _
      rw [atI_ok l _ m1 m2]
      rfl
    obtain ⟨x, e5⟩ := e5
    refine ⟨x + (k : Int) / (l.length : Nat) * 104729, ?_⟩
    simp [cmpB, e1, Blt.g, lenD, e2, e3, e4, e5]
end Py.K20
end
section
set_option maxHeartbeats 4000000
set_option exponentiation.threshold 2000
namespace Py.K20
open PySem PySem.Spec PyProof.Rows L2 Py
theorem encK_nod (k : Kd) : nod (encK k) = true := by
  have : ∀ r : List Nat, nods (r.map ei) = true := by
    intro r
    induction r with
    | nil => rfl
    | cons n r ih => simp [nods, ei, nod, ih]
  simp [encK, nod, nods, this]
theorem encK_dep (k : Kd) : dep (encK k) ≤ 3 := by
  have : ∀ r : List Nat, deps (r.map ei) ≤ 1 := by
    intro r
    induction r with
    | nil => simp [deps]
    | cons n r ih => simp only [List.map_cons, ei, deps, dep] at ih ⊢; omega
  have := this k.1
  simp only [encK, dep, deps]; omega
theorem encKs_nod (l : List Kd) : nod (encKs l) = true := by
  show nods _ = true
  induction l with
  | nil => rfl
  | cons k l ih => simp [nods, encK_nod, ih]
theorem encKs_dep (l : List Kd) : dep (encKs l) ≤ 4 := by
  show deps _ + 1 ≤ 4
  induction l with
  | nil => simp [deps]
  | cons k l ih =>
    have := encK_dep k
    simp only [List.map_cons, deps]; omega
theorem encK_inj {x y : Kd} (h : encK x = encK y) : x = y := by
  obtain ⟨r, a, b⟩ := x
  obtain ⟨r', a', b'⟩ := y
  simp only [encK, D.tup.injEq, List.cons.injEq, D.bl.injEq] at h
  obtain ⟨h1, rfl, rfl, _⟩ := h
  have := congrArg (List.map fun d : D => match d with | .int i => i.toNat | _ => 0) h1
  have : r = r' := by simpa [ei, Function.comp_def] using this
  rw [this]
theorem encK_rig {x y : Kd} (h : x.1.length = y.1.length) : rig (encK x) (encK y) = true := by
  have : ∀ r r' : List Nat, r.length = r'.length → rigs (r.map ei) (r'.map ei) = true := by
    intro r
    induction r with
    | nil => intro r' h; cases r' <;> simp_all [rigs]
    | cons n r ih => intro r' h; cases r' with
      | nil => cases h
      | cons n' r' => simp [rigs, rig, ei, ih r' (by simpa using h)]
  simp [encK, rig, rigs, this _ _ h]
theorem encK_eq {x y : Kd} (h : x.1.length = y.1.length) : cmpB .eq (encK x) (encK y) = some (x == y) := by
  obtain ⟨b, h1, h2⟩ := eq_rig (encK_rig h) (encK_nod x) (encK_nod y) (Nat.le_trans (encK_dep x) (by omega))
  rw [h1]
  congr 1
  rw [Bool.eq_iff_iff, h2, beq_iff_eq]
  exact ⟨encK_inj, fun e => by rw [e]⟩
structure At (a b : Bool) (m : Nat) : Prop where
  m3 : m ≤ 3
  k0 : callG GG 26 [encL a b, .int (m : Nat)] = .ok (encKs (ksV a b m))
  l0 : callG GG 38 [encL a b, .int (m : Nat)] = .ok (encKs (ksV a b m))
  k1 : callG GG 26 [encL a b, .int ((m : Nat) + 1)] = .ok (encKs (ksV a b (m + 1)))
  p0 : 0 < (ksV a b m).length
  f0 : (ksV a b m).length ≤ 400
  p1 : 0 < (ksV a b (m + 1)).length
  w : ∀ one ∈ ksV a b (m + 1), ∀ p : Nat, p < m + 1 → callG GG 31 [encL a b, encK one, .int (p : Nat)] = .ok (encK (backK one p)) ∧ (backK one p).1.length = m
  v : ∀ k ∈ ksV a b m, k.1.length = m ∧ callG GG 29 [encL a b, encK k] = .ok (encKs ((ksV a b (m + 1)).filter fun one => backK one m == k)) ∧ callG GG 28 [encL a b, encK k] = .ok .non
  p : ∀ one ∈ ksV a b (m + 1), ∃ pts : List D, callG GG 39 [encL a b, encK one] = .ok (.lst pts) ∧ pts.length = m + 1 ∧ ∀ p : Nat, p < m + 1 → callG GG 37 [encL a b, .lst (pts.take p ++ pts.drop (p + 1))] = .ok (encK (backK one p))
  s : ∃ l : List D, callG GG 26 [encL a b, .int 5] = .ok (.lst l) ∧ ssD (.lst l) = .ok (.lst l) ∧ nods l = true ∧ deps l ≤ 60
/-- the draw -/
theorem pick {l : List Kd} (h : 0 < l.length) (r : Int) (h0 : 0 ≤ r) : ∃ k ∈ l, binD .mod (.int r) (.int (l.length : Nat)) = some (.int (r % (l.length : Nat))) ∧ ixD (encKs l) (.int (r % (l.length : Nat))) = some (encK k) := by
  have hp : (0 : Int) < (l.length : Nat) := by omega
  have m1 := Int.emod_nonneg r (show ((l.length : Nat) : Int) ≠ 0 by omega)
  have m2 := Int.emod_lt_of_pos r hp
  refine ⟨l[(r % (l.length : Nat)).toNat]'(by omega), List.getElem_mem _, b_mod _ _ hp, ?_⟩
  show L2.atI (l.map encK) _ = _
  rw [atI_ok _ _ m1 (by rw [List.length_map]; exact m2)]
  simp
def B1 : Ss := (.c (.set 8 (.ix (.v 3) (.bin .mod (.call 8 (.c (.v 2) (.c (.bin .add (.int 10) (.v 5)) .n))) (.blt .len (.c (.v 3) .n))))) (.c (.ifs (.cmp .ne (.call 29 (.c (.v 6) (.c (.v 8) .n))) (.comp (.v 11) [11] (.seq (.v 4)) (.cmp .eq (.call 31 (.c (.v 6) (.c (.v 11) (.c (.v 7) .n)))) (.v 8)) (.v 11))) (.c (.ret (.bl false)) .n) .n) (.c (.ifs (.isx .isnt (.call 28 (.c (.v 6) (.c (.v 8) .n))) .non) (.c (.ret (.bl false)) .n) .n) .n)))
def B3 : Ss := (.c (.ifs (.cmp .ne (.call 31 (.c (.v 6) (.c (.v 8) (.c (.v 10) .n)))) (.call 37 (.c (.v 6) (.c (.bin .add (.sl (.v 9) .nop (.v 10)) (.sl (.v 9) (.bin .add (.v 10) (.int 1)) .nop)) .n)))) (.c (.ret (.bl false)) .n) .n) .n)
def B2 : Ss := (.c (.set 8 (.ix (.v 4) (.bin .mod (.call 8 (.c (.v 2) (.c (.bin .add (.int 30) (.v 5)) .n))) (.blt .len (.c (.v 4) .n))))) (.c (.set 9 (.shr (.call 39 (.c (.v 6) (.c (.v 8) .n))))) (.c (.forr (.v 10) (.rng1 (.bin .add (.v 7) (.int 1))) B3) .n)))
def E5 : S := (.ifs (.and (.c (.cmp .eq (.bin .mod (.v 2) (.int 40)) (.int 0)) (.c (.cmp .ne (.call 26 (.c (.v 6) (.c (.int 5) .n))) (.sset (.call 26 (.c (.v 6) (.c (.int 5) .n))))) .n))) (.c (.ret (.bl false)) .n) .n)
def B0 : Ss := (.c (.set 2 (.call 8 (.c (.call 7 (.c (.v 0) (.c (.v 1) .n))) (.c (.v 1) .n)))) (.c (.tset [6,7] (.tup (.c (.call 32 (.c (.v 2) .n)) (.c (.bin .mod (.bin .fdiv (.v 2) (.int 4)) (.int 4)) .n)))) (.c (.set 3 (.shr (.call 26 (.c (.v 6) (.c (.v 7) .n))))) (.c (.ifs (.cmp .ne (.v 3) (.call 38 (.c (.v 6) (.c (.v 7) .n)))) (.c (.ret (.bl false)) .n) .n) (.c (.set 4 (.shr (.call 26 (.c (.v 6) (.c (.bin .add (.v 7) (.int 1)) .n))))) (.c (.forr (.v 5) (.rng1 (.blt .min (.c (.int 12) (.c (.blt .len (.c (.v 3) .n)) .n)))) B1) (.c (.forr (.v 5) (.rng1 (.int 12)) B2) (.c E5 .n))))))))
theorem body_eq : F40.body = .c (.forr (.v 1) (.rng1 (.blt .max (.c (.int 1) (.c (.blt .min (.c (.int 2) (.c (.blt .len (.c (.v 0) .n)) .n))) .n)))) B0) (.c (.ret (.bl true)) .n) := rfl
theorem c8 (i k : Int) : ∃ r : Int, 0 ≤ r ∧ callG GG 8 [.int i, .int k] = .ok (.int r) := r8 _ i k
theorem c7 (ns : List Int) (hl : ns.length ≤ 63) (k : Nat) : ∃ r : Int, callG GG 7 [.scr ns, .int (k : Nat)] = .ok (.int r) := r7 _ ns hl k
theorem c32 (i : Int) : callG GG 32 [.int i] = .ok (encL (decide (i % 2 = 0)) (decide (i / 2 % 2 = 0))) := by
  show F32.run FM CC (L.G 28) [.int i] = _
  simp [run_eq, F32, startD, exs, ex, ev, evs, b_mod, b_fdiv, encL]
theorem ev_cmp {C : List D} {G : GT} {o : Cop} {a b : E} {ρ : Env} {x y : D} {r : Bool} (h1 : ev C G a ρ = .ok x) (h2 : ev C G b ρ = .ok y) (h3 : cmpB o x y = some r) : ev C G (.cmp o a b) ρ = .ok (.bl r) := by
  simp only [ev]
  rw [h1, RR.bind_ok, h2, RR.bind_ok, h3]; rfl
theorem ifs_no {fm : List Md} {C : List D} {G : GT} {e : E} {a b : Ss} {ρ : Env} (h : ev C G e ρ = .ok (.bl false)) : ex fm C G (.ifs e a b) ρ = exs fm C G b ρ := by
  simp only [ex]
  rw [h]; rfl
theorem set_sh {fm : List Md} {C : List D} {G : GT} {i : Nat} {e : E} {ρ : Env} {d : D} (h : ev C G e ρ = .ok d) (hm : e.md fm = .sh) : ex fm C G (.set i e) ρ = .ok (.nx (ρ.set i (some (false, d)))) := by
  simp only [ex]
  rw [h, RR.bind_ok, hm]; rfl
theorem step {fm : List Md} {C : List D} {G : GT} {s : S} {l : Ss} {ρ ρ' : Env} {r : RR Out} (h : ex fm C G s ρ = .ok (.nx ρ')) (h2 : exs fm C G l ρ' = r) : exs fm C G (.c s l) ρ = r := by
  simp only [exs]
  rw [h]; exact h2
theorem no_step {fm : List Md} {C : List D} {G : GT} {e : E} {a l : Ss} {ρ : Env} {r : RR Out} (h : ev C G e ρ = .ok (.bl false)) (h2 : exs fm C G l ρ = r) : exs fm C G (.c (.ifs e a .n) l) ρ = r :=
  step (by rw [ifs_no h]; rfl) h2
abbrev sh (d : D) : Option (Bool × D) := some (false, d)
theorem len_enc (l : List Kd) : Blt.len.g [encKs l] = some (.int (l.length : Nat)) := by
  show some (D.int ((l.map encK).length : Nat)) = _
  rw [List.length_map]
theorem ex_B1 {a b : Bool} {m : Nat} (A : At a b m) (o0 o1 o5' o8 o9 o10 o11 : Option (Bool × D)) (more : Int) (j : Nat) : ∃ k, exs FM CC GG B1 [o0, o1, sh (.int more), sh (encKs (ksV a b m)), sh (encKs (ksV a b (m + 1))), sh (.int (j : Nat)), sh (encL a b), sh (.int (m : Nat)), o8, o9, o10, o11] = .ok (.nx [o0, o1, sh (.int more), sh (encKs (ksV a b m)), sh (encKs (ksV a b (m + 1))), sh (.int (j : Nat)), sh (encL a b), sh (.int (m : Nat)), sh (encK k), o9, o10, o11]) := by
  obtain ⟨r, h0, hr⟩ := c8 more (10 + (j : Nat))
  obtain ⟨k, hk, h1, h2⟩ := pick A.p0 r h0
  obtain ⟨v1, v2, v3⟩ := A.v k hk
  refine ⟨k, ?_⟩
  have hcomp : ev CC GG (.comp (.v 11) [11] (.seq (.v 4)) (.cmp .eq (.call 31 (.c (.v 6) (.c (.v 11) (.c (.v 7) .n)))) (.v 8)) (.v 11)) [o0, o1, sh (.int more), sh (encKs (ksV a b m)), sh (encKs (ksV a b (m + 1))), sh (.int (j : Nat)), sh (encL a b), sh (.int (m : Nat)), sh (encK k), o9, o10, o11] = .ok (encKs ((ksV a b (m + 1)).filter fun one => backK one m == k)) := by
    refine compF_filter (l := ksV a b (m + 1)) (fun one => backK one m == k) (en := encK) (g := encK) ?_ fun one ho => ?_
    · simp [evr, ev, encKs, seqD]
    · obtain ⟨w1, w2⟩ := A.w one ho m (by omega)
      have e := encK_eq (x := backK one m) (y := k) (by rw [w2, v1])
      simp [turn_v, wipeD, ev, evs, isNop, w1, e]
      by_cases q : backK one m = k <;> simp [q]
  refine step (set_sh (d := encK k) ?_ rfl) ?_
  · simp [ev, evs, hr, len_enc, h1, h2]
  refine no_step (ev_cmp (x := encKs ((ksV a b (m + 1)).filter fun one => backK one m == k)) ?_ hcomp (ne_self (encKs_nod _) (Nat.le_trans (encKs_dep _) (by omega)))) ?_
  · simp [ev, evs, v2]
  refine no_step ?_ rfl
  simp [ev, evs, v3]
  rfl
theorem ex_B3 {a b : Bool} {m : Nat} (A : At a b m) (o0 o1 o2 o3 o4 o5 o11 : Option (Bool × D)) {one : Kd} (ho : one ∈ ksV a b (m + 1)) {pts : List D} (hl : pts.length = m + 1) (hp : ∀ p : Nat, p < m + 1 → callG GG 37 [encL a b, .lst (pts.take p ++ pts.drop (p + 1))] = .ok (encK (backK one p))) (p : Nat) (hpm : p < m + 1) :
    exs FM CC GG B3 [o0, o1, o2, o3, o4, o5, sh (encL a b), sh (.int (m : Nat)), sh (encK one), sh (.lst pts), sh (.int (p : Nat)), o11] = .ok (.nx [o0, o1, o2, o3, o4, o5, sh (encL a b), sh (.int (m : Nat)), sh (encK one), sh (.lst pts), sh (.int (p : Nat)), o11]) := by
  obtain ⟨w1, w2⟩ := A.w one ho p hpm
  refine no_step (ev_cmp (x := encK (backK one p)) (y := encK (backK one p)) ?_ ?_ (ne_self (encK_nod _) (Nat.le_trans (encK_dep _) (by omega)))) rfl
  · simp [ev, evs, w1]
  · have m3 := A.m3
    have s1 : slD (.lst pts) none (some ((p : Nat) : Int)) = some (.lst (pts.take p)) := by
      show some (D.lst (cutD pts (HT.sIx pts.length 0 none) (HT.sIx pts.length pts.length (some ((p : Nat) : Int))))) = _
      have e : HT.sIx pts.length pts.length (some ((p : Nat) : Int)) = p := by
        rw [HT.sIx_nat]; omega
      rw [e]
      simp [cutD, HT.sIx]
    have s2 : slD (.lst pts) (some (((p : Nat) : Int) + 1)) none = some (.lst (pts.drop (p + 1))) := by
      show some (D.lst (cutD pts (HT.sIx pts.length 0 (some (((p : Nat) : Int) + 1))) (HT.sIx pts.length pts.length none))) = _
      have e : HT.sIx pts.length 0 (some (((p : Nat) : Int) + 1)) = p + 1 := by
        rw [show ((p : Nat) : Int) + 1 = ((p + 1 : Nat) : Int) from rfl, HT.sIx_nat]; omega
      rw [e]
      show some (D.lst (((pts.drop (p + 1)).take (pts.length - (p + 1))))) = _
      rw [List.take_of_length_le (by rw [List.length_drop]; omega)]
    have s3 : binD .add (.lst (pts.take p)) (.lst (pts.drop (p + 1))) = some (.lst (pts.take p ++ pts.drop (p + 1))) := by
      show (if _ then _ else _) = _
      rw [if_pos (by unfold lim; rw [List.length_take, List.length_drop]; omega)]
    simp [ev, evs, isNop, intO, s1, s2, s3, hp p hpm]
theorem range_map_inv {t : Tg} {body : Env → RR Out} (n : Nat) (I : Env → Prop) (ρ : Env) (h0 : I ρ) (h : ∀ i ρ, i < n → I ρ → ∃ ρ1 ρ', bindT t (.int (i : Nat)) ρ = .ok ρ1 ∧ body ρ1 = .ok (.nx ρ') ∧ I ρ') : ∃ ρ', execFor t body ((List.range n).map fun i => D.int ((i : Nat) : Int)) ρ = .ok (.nx ρ') ∧ I ρ' := by
  obtain ⟨ρ', h1, h2⟩ := execFor_inv (t := t) (body := body) (en := fun i => D.int ((i : Nat) : Int)) (fun _ ρ => I ρ) (List.range n) [] ρ (fun _ x ρ hx hi => h x ρ (List.mem_range.mp hx) hi) h0
  exact ⟨ρ', h1, h2⟩
theorem forr_inv {fm : List Md} {C : List D} {G : GT} {t : Tg} {r : Sr} {b : Ss} (n : Nat) (I : Env → Prop) (ρ : Env) (hr : evr C G r ρ = .ok ((List.range n).map fun i => D.int ((i : Nat) : Int))) (h0 : I ρ) (h : ∀ i ρ, i < n → I ρ → ∃ ρ1 ρ', bindT t (.int (i : Nat)) ρ = .ok ρ1 ∧ exs fm C G b ρ1 = .ok (.nx ρ') ∧ I ρ') : ∃ ρ', ex fm C G (.forr t r b) ρ = .ok (.nx ρ') ∧ I ρ' := by
  obtain ⟨ρ', h1, h2⟩ := range_map_inv n I ρ h0 h
  refine ⟨ρ', ?_, h2⟩
  simp only [ex]
  rw [hr]; exact h1
theorem rng1_is {i : Int} {n : Nat} (e : i = (n : Int)) (h : n ≤ 400) : rng1D (.int i) = .ok ((List.range n).map fun i => D.int ((i : Nat) : Int)) := by
  subst e
  exact rng1_nat n (Nat.le_trans h (by decide))
theorem ex_B2 {a b : Bool} {m : Nat} (A : At a b m) (o0 o1 o3 o8 o9 o10 o11 : Option (Bool × D)) (more : Int) (j : Nat) : ∃ p8 p9 p10, exs FM CC GG B2 [o0, o1, sh (.int more), o3, sh (encKs (ksV a b (m + 1))), sh (.int (j : Nat)), sh (encL a b), sh (.int (m : Nat)), o8, o9, o10, o11] = .ok (.nx [o0, o1, sh (.int more), o3, sh (encKs (ksV a b (m + 1))), sh (.int (j : Nat)), sh (encL a b), sh (.int (m : Nat)), p8, p9, p10, o11]) := by
  obtain ⟨r, h0, hr⟩ := c8 more (30 + (j : Nat))
  obtain ⟨one, ho, h1, h2⟩ := pick A.p1 r h0
  obtain ⟨pts, p1, p2, p3⟩ := A.p one ho
  have m3 := A.m3
  obtain ⟨ρ', h3, o10', rfl⟩ := forr_inv (fm := FM) (C := CC) (G := GG) (t := .v 10) (r := .rng1 (.bin .add (.v 7) (.int 1))) (b := B3) (m + 1)
    (fun ρ => ∃ o10, ρ = [o0, o1, sh (.int more), o3, sh (encKs (ksV a b (m + 1))), sh (.int (j : Nat)), sh (encL a b), sh (.int (m : Nat)), sh (encK one), sh (.lst pts), o10, o11]) [o0, o1, sh (.int more), o3, sh (encKs (ksV a b (m + 1))), sh (.int (j : Nat)), sh (encL a b), sh (.int (m : Nat)), sh (encK one), sh (.lst pts), o10, o11]
    (by simp -implicitDefEqProofs only [evr, ev, varD_0, varD_s, RR.bind_ok, b_add, of_some]
        exact rng1_is (n := m + 1) rfl (by omega)) ⟨o10, rfl⟩ (fun i ρ hi ⟨o10, e⟩ => by
      subst e
      exact ⟨_, _, rfl, ex_B3 A _ _ _ _ _ _ _ ho p2 p3 i hi, _, rfl⟩)
  refine ⟨_, _, _, step (set_sh (d := encK one) ?_ rfl) (step (set_sh (d := .lst pts) ?_ rfl) (step h3 rfl))⟩
  · simp [ev, evs, hr, len_enc, h1, h2]
  · simp [ev, evs, p1]
theorem ex_E5 {a b : Bool} {m : Nat} (A : At a b m) (o0 o1 o3 o4 o5 o7 o8 o9 o10 o11 : Option (Bool × D)) (more : Int) : exs FM CC GG (.c E5 .n) [o0, o1, sh (.int more), o3, o4, o5, sh (encL a b), o7, o8, o9, o10, o11] = .ok (.nx [o0, o1, sh (.int more), o3, o4, o5, sh (encL a b), o7, o8, o9, o10, o11]) := by
  obtain ⟨l, s1, s2, s3, s4⟩ := A.s
  have e1 : binD .mod (.int more) (.int 40) = some (.int (more % 40)) := b_mod _ _ (by decide)
  have e2 : cmpB .ne (.lst l) (.lst l) = some false := ne_self s3 (by show deps l + 1 ≤ 64; omega)
  refine no_step ?_ rfl
  by_cases q : more % 40 = 0
  · simp [ev, evs, e1, q, s1, s2, e2]
  · simp [ev, evs, e1, q]
theorem min2 (x y : Nat) : Blt.min.g [D.int (x : Nat), D.int (y : Nat)] = some (.int ((min x y : Nat) : Int)) := by
  show some (D.int (if ((y : Nat) : Int) < (x : Nat) then ((y : Nat) : Int) else ((x : Nat) : Int))) = _
  congr 2
  split <;> omega
theorem max2 (x y : Nat) : Blt.max.g [D.int (x : Nat), D.int (y : Nat)] = some (.int ((max x y : Nat) : Int)) := by
  show some (D.int (if ((y : Nat) : Int) > (x : Nat) then ((y : Nat) : Int) else ((x : Nat) : Int))) = _
  congr 2
  split <;> omega
theorem ex_B0 (hA : ∀ a b m, m ≤ 3 → At a b m) (ns : List Int) (hl : ns.length ≤ 63) (k : Nat) (o2 o3 o4 o5 o6 o7 o8 o9 o10 o11 : Option (Bool × D)) : ∃ p2 p3 p4 p5 p6 p7 p8 p9 p10, exs FM CC GG B0 [sh (.scr ns), sh (.int (k : Nat)), o2, o3, o4, o5, o6, o7, o8, o9, o10, o11] = .ok (.nx [sh (.scr ns), sh (.int (k : Nat)), p2, p3, p4, p5, p6, p7, p8, p9, p10, o11]) := by
  obtain ⟨c, hc⟩ := c7 ns hl k
  obtain ⟨more, h0, hr⟩ := c8 c (k : Nat)
  have h32 := c32 more
  have q0 : 0 ≤ more / 4 % 4 := Int.emod_nonneg _ (by decide)
  have q1 : more / 4 % 4 < 4 := Int.emod_lt_of_pos _ (by decide)
  obtain ⟨m, hm⟩ : ∃ m : Nat, more / 4 % 4 = (m : Int) := ⟨(more / 4 % 4).toNat, by omega⟩
  have A := hA (decide (more % 2 = 0)) (decide (more / 2 % 2 = 0)) m (by omega)
  generalize decide (more % 2 = 0) = a at *
  generalize decide (more / 2 % 2 = 0) = b at *
  have e1 : binD .fdiv (.int more) (.int 4) = some (.int (more / 4)) := b_fdiv _ _ (by decide) (by decide)
  have e2 : binD .mod (.int (more / 4)) (.int 4) = some (.int (m : Nat)) := by rw [b_mod _ _ (by decide), hm]
  have lf := A.f0
  obtain ⟨ρ1, h3, o5a, o8a, rfl⟩ := forr_inv (fm := FM) (C := CC) (G := GG) (t := .v 5) (r := .rng1 (.blt .min (.c (.int 12) (.c (.blt .len (.c (.v 3) .n)) .n)))) (b := B1) (min 12 (ksV a b m).length)
    (fun ρ => ∃ o5 o8, ρ = [sh (.scr ns), sh (.int (k : Nat)), sh (.int more), sh (encKs (ksV a b m)), sh (encKs (ksV a b (m + 1))), o5, sh (encL a b), sh (.int (m : Nat)), o8, o9, o10, o11]) [sh (.scr ns), sh (.int (k : Nat)), sh (.int more), sh (encKs (ksV a b m)), sh (encKs (ksV a b (m + 1))), o5, sh (encL a b), sh (.int (m : Nat)), o8, o9, o10, o11]
    (by
      have e : Blt.min.g [D.int 12, D.int ((ksV a b m).length : Nat)] = some (.int ((min 12 (ksV a b m).length : Nat) : Int)) := by
        exact min2 _ _
      simp -implicitDefEqProofs only [evr, ev, evs, varD_0, varD_s, RR.bind_ok, len_enc, of_some, e]
      exact rng1_is rfl (by omega)) ⟨o5, o8, rfl⟩ (fun i ρ hi ⟨o5, o8, e⟩ => by
      subst e
      obtain ⟨kk, h⟩ := ex_B1 A (sh (.scr ns)) (sh (.int (k : Nat))) none o8 o9 o10 o11 more i
      exact ⟨_, _, rfl, h, _, _, rfl⟩)
  obtain ⟨ρ2, h4, o5b, o8b, o9b, o10b, rfl⟩ := forr_inv (fm := FM) (C := CC) (G := GG) (t := .v 5) (r := .rng1 (.int 12)) (b := B2) 12
    (fun ρ => ∃ o5 o8 o9 o10, ρ = [sh (.scr ns), sh (.int (k : Nat)), sh (.int more), sh (encKs (ksV a b m)), sh (encKs (ksV a b (m + 1))), o5, sh (encL a b), sh (.int (m : Nat)), o8, o9, o10, o11]) [sh (.scr ns), sh (.int (k : Nat)), sh (.int more), sh (encKs (ksV a b m)), sh (encKs (ksV a b (m + 1))), o5a, sh (encL a b), sh (.int (m : Nat)), o8a, o9, o10, o11]
    (by
      simp -implicitDefEqProofs only [evr, ev, RR.bind_ok]
      exact rng1_is (n := 12) rfl (by omega)) ⟨_, _, _, _, rfl⟩ (fun i ρ hi ⟨o5, o8, o9, o10, e⟩ => by
      subst e
      obtain ⟨o8', o9', o10', h⟩ := ex_B2 A (sh (.scr ns)) (sh (.int (k : Nat))) (sh (encKs (ksV a b m))) o8 o9 o10 o11 more i
      exact ⟨_, _, rfl, h, _, _, _, _, rfl⟩)
  refine ⟨_, _, _, _, _, _, _, _, _, step (set_sh (d := .int more) ?_ rfl) (step (ρ' := [sh (.scr ns), sh (.int (k : Nat)), sh (.int more), o3, o4, o5, sh (encL a b), sh (.int (m : Nat)), o8, o9, o10, o11]) ?_ (step (set_sh (d := encKs (ksV a b m)) ?_ rfl) (no_step (ev_cmp (x := encKs (ksV a b m)) (y := encKs (ksV a b m)) rfl ?_ (ne_self (encKs_nod _) (Nat.le_trans (encKs_dep _) (by omega)))) (step (set_sh (d := encKs (ksV a b (m + 1))) ?_ rfl) (step h3 (step h4 (ex_E5 A _ _ _ _ _ _ _ _ _ _ more)))))))⟩
  · simp -implicitDefEqProofs [ev, evs, hc, hr]
  · simp -implicitDefEqProofs [ex, ev, evs, h32, e1, e2, unpD, bindT, setD, mkV]
  · simp -implicitDefEqProofs [ev, evs, A.k0]
  · simp -implicitDefEqProofs [ev, evs, A.l0]
  · simp -implicitDefEqProofs [ev, evs, A.k1]
theorem law_ok (hA : ∀ a b m, m ≤ 3 → At a b m) (ns : List Int) (hl : ns.length ≤ 63) : F40.run FM CC GG [.scr ns] = .ok (.bl true) := by
  rw [run_eq, body_eq]
  obtain ⟨ρ1, h3, o1, o2, o3, o4, o5, o6, o7, o8, o9, o10, rfl⟩ := forr_inv (fm := FM) (C := CC) (G := GG) (t := .v 1) (r := .rng1 (.blt .max (.c (.int 1) (.c (.blt .min (.c (.int 2) (.c (.blt .len (.c (.v 0) .n)) .n))) .n)))) (b := B0) (max 1 (min 2 ns.length))
    (fun ρ => ∃ o1 o2 o3 o4 o5 o6 o7 o8 o9 o10, ρ = [sh (.scr ns), o1, o2, o3, o4, o5, o6, o7, o8, o9, o10, none]) (startD F40.N.length [.scr ns])
    (by
      have e0 : Blt.len.g [D.scr ns] = some (.int (ns.length : Nat)) := rfl
      have e : Blt.min.g [D.int 2, D.int (ns.length : Nat)] = some (.int ((min 2 ns.length : Nat) : Int)) := by
        exact min2 _ _
      have e2 : ∀ x : Nat, Blt.max.g [D.int 1, D.int (x : Nat)] = some (.int ((max 1 x : Nat) : Int)) := fun x => by
        exact max2 _ _
      have v0 : varD 0 (startD F40.N.length [.scr ns]) = .ok (.scr ns) := rfl
      simp -implicitDefEqProofs only [evr, ev, evs, v0, RR.bind_ok, e0, of_some, e, e2]
      exact rng1_is rfl (by omega)) ⟨_, _, _, _, _, _, _, _, _, _, rfl⟩ (fun i ρ hi ⟨o1, o2, o3, o4, o5, o6, o7, o8, o9, o10, e⟩ => by
      subst e
      obtain ⟨p2, p3, p4, p5, p6, p7, p8, p9, p10, h⟩ := ex_B0 hA ns hl i o2 o3 o4 o5 o6 o7 o8 o9 o10 none
      exact ⟨_, _, rfl, h, _, _, _, _, _, _, _, _, _, _, rfl⟩)
  rw [step h3 rfl]
  simp [exs, ex, ev]
end Py.K20
end
section
set_option maxHeartbeats 4000000
set_option exponentiation.threshold 2000
namespace Py
open PySem PySem.Spec PyProof.Rows L2
theorem execFor_pre {α : Type} {t : Tg} {body : Env → RR Out} {en : α → D} {l0 : List α} (I : List α → Env → Prop) (h : ∀ done x rest ρ, done ++ x :: rest = l0 → I done ρ → ∃ ρ1 ρ', bindT t (en x) ρ = .ok ρ1 ∧ body ρ1 = .ok (.nx ρ') ∧ I (done ++ [x]) ρ') : ∀ (l done : List α) (ρ : Env), done ++ l = l0 → I done ρ → ∃ ρ', execFor t body (l.map en) ρ = .ok (.nx ρ') ∧ I l0 ρ'
  | [], done, ρ, e, h0 => ⟨ρ, rfl, by rw [← e, List.append_nil]; exact h0⟩
  | x :: l, done, ρ, e, h0 => by
    obtain ⟨ρ1, ρ2, h1, h2, h3⟩ := h done x l ρ e h0
    obtain ⟨ρ', h4, h5⟩ := execFor_pre I h l (done ++ [x]) ρ2 (by rw [← e]; simp) h3
    refine ⟨ρ', ?_, h5⟩
    rw [List.map_cons]
    unfold execFor
    rw [h1, RR.bind_ok, h2]
    exact h4
end Py
namespace Py.K20
open PySem PySem.Spec PyProof.Rows L2 Py
def lvl (W : Kd → List Kd) : Nat → List Kd
  | 0 => [([], false, false)]
  | n + 1 => (lvl W n).flatMap W
def BI : Ss := (.c (.ext 4 (.call 24 (.c (.v 0) (.c (.v 5) .n)))) .n)
def BO : Ss := (.c (.set 4 (.lst .n)) (.c (.forr (.v 5) (.seq (.v 2)) BI) (.c (.frz 4 (.set 2 (.v 4))) .n)))
theorem body25 : F25.body = .c (.set 2 (.shr (.lst (.c (.tup (.c (.tup .n) (.c (.bl false) (.c (.bl false) .n)))) .n)))) (.c (.forr (.v 3) (.rng1 (.v 1)) BO) (.c (.ret (.blt .sorted (.c (.v 2) .n))) .n)) := rfl
theorem ex_BI (G : GT) (W : Kd → List Kd) (a b : Bool) (l : List Kd) (hw : ∀ k ∈ l, callG G 24 [encL a b, encK k] = .ok (encKs (W k))) (hl : (l.flatMap W).length ≤ 5000) (o1 o2 o3 o5 : Option (Bool × D)) (h2 : o2 = sh (encKs l)) :
    ∃ p5, ex FM CC G (.forr (.v 5) (.seq (.v 2)) BI) [sh (encL a b), o1, o2, o3, some (true, .lst []), o5] = .ok (.nx [sh (encL a b), o1, o2, o3, some (true, .lst ((l.flatMap W).map encK)), p5]) := by
  subst h2
  obtain ⟨ρ', h3, p5, rfl⟩ := execFor_pre (t := .v 5) (body := fun ρ => exs FM CC G BI ρ) (en := encK) (l0 := l) (fun done ρ => ∃ p5, ρ = [sh (encL a b), o1, sh (encKs l), o3, some (true, .lst ((done.flatMap W).map encK)), p5]) (fun done x rest ρ e ⟨p5, hp⟩ => by
    subst hp
    refine ⟨_, [sh (encL a b), o1, sh (encKs l), o3, some (true, .lst (((done ++ [x]).flatMap W).map encK)), sh (encK x)], rfl, ?_, sh (encK x), rfl⟩
    have hx : x ∈ l := by rw [← e]; simp
    have hlen : ((done ++ [x]).flatMap W).length ≤ 5000 := by
      refine Nat.le_trans ?_ hl
      rw [← e]
      simp only [List.flatMap_append, List.flatMap_cons, List.length_append]
      simp
    have hlen2 : (done.flatMap W).length + (W x).length ≤ 5000 := by
      simpa [List.flatMap_append] using hlen
    refine step (ρ' := [sh (encL a b), o1, sh (encKs l), o3, some (true, .lst (((done ++ [x]).flatMap W).map encK)), sh (encK x)]) ?_ rfl
    show extO 4 (ev CC G (.call 24 (.c (.v 0) (.c (.v 5) .n)))) [sh (encL a b), o1, sh (encKs l), o3, some (true, .lst ((done.flatMap W).map encK)), sh (encK x)] = _
    rw [extO_ok (l := (done.flatMap W).map encK) (l2 := (W x).map encK) rfl (by simp -implicitDefEqProofs [ev, evs, hw x hx]; rfl) (by rw [List.length_map, List.length_map]; omega)]
    rw [List.flatMap_append, List.map_append]
    simp) l [] [sh (encL a b), o1, sh (encKs l), o3, some (true, .lst []), o5] rfl ⟨o5, rfl⟩
  refine ⟨p5, ?_⟩
  simp only [ex]
  rw [show evr CC G (.seq (.v 2)) [sh (encL a b), o1, sh (encKs l), o3, some (true, .lst []), o5] = .ok (l.map encK) from rfl]
  exact h3
theorem r25 (G : GT) (W : Kd → List Kd) (a b : Bool) (n : Nat) (hn : n ≤ 400) (hw : ∀ i < n, ∀ k ∈ lvl W i, callG G 24 [encL a b, encK k] = .ok (encKs (W k))) (hl : ∀ i ≤ n, (lvl W i).length ≤ 5000) (r : D) (hs : Blt.sorted.g [encKs (lvl W n)] = some r) : F25.run FM CC G [encL a b, .int (n : Nat)] = .ok r := by
  rw [run_eq, body25]
  obtain ⟨ρ', h3, p4, p5, p3, rfl⟩ := execFor_pre (t := .v 3) (body := fun ρ => exs FM CC G BO ρ) (en := fun i : Nat => D.int ((i : Nat) : Int)) (l0 := List.range n) (fun done ρ => ∃ p3 p4 p5, ρ = [sh (encL a b), sh (.int (n : Nat)), sh (encKs (lvl W done.length)), p3, p4, p5]) (fun done x rest ρ e ⟨p3, p4, p5, hp⟩ => by
    subst hp
    have hd : done.length < n := by
      have := congrArg List.length e
      simp at this; omega
    obtain ⟨q5, h5⟩ := ex_BI G W a b (lvl W done.length) (hw _ hd) (hl (done.length + 1) (by omega)) (sh (.int (n : Nat))) _ (sh (.int (x : Nat))) p5 rfl
    refine ⟨_, [sh (encL a b), sh (.int (n : Nat)), sh (encKs (lvl W (done.length + 1))), sh (.int (x : Nat)), some (false, encKs (lvl W (done.length + 1))), q5], rfl, ?_, sh (.int (x : Nat)), some (false, encKs (lvl W (done.length + 1))), q5, by simp⟩
    refine step (ρ' := [sh (encL a b), sh (.int (n : Nat)), sh (encKs (lvl W done.length)), sh (.int (x : Nat)), some (true, .lst []), p5]) ?_ (step h5 (step (ρ' := [sh (encL a b), sh (.int (n : Nat)), sh (encKs (lvl W (done.length + 1))), sh (.int (x : Nat)), some (false, encKs (lvl W (done.length + 1))), q5]) ?_ rfl))
    · rfl
    · rfl) (List.range n) [] [sh (encL a b), sh (.int (n : Nat)), sh (encKs (lvl W 0)), none, none, none] rfl ⟨_, _, _, rfl⟩
  refine (congrArg (finO F25.md) (step (ρ' := [sh (encL a b), sh (.int (n : Nat)), sh (encKs (lvl W 0)), none, none, none]) ?_ (step (ρ' := [sh (encL a b), sh (.int (n : Nat)), sh (encKs (lvl W (List.range n).length)), p4, p5, p3]) ?_ rfl))).trans ?_
  · rfl
  · simp only [ex]
    rw [show evr CC G (.rng1 (.v 1)) [sh (encL a b), sh (.int (n : Nat)), sh (encKs (lvl W 0)), none, none, none] = .ok ((List.range n).map fun i => D.int ((i : Nat) : Int)) from by
      simp -implicitDefEqProofs only [evr, ev, varD_0, varD_s, RR.bind_ok]
      exact rng1_is rfl hn]
    exact h3
  · rw [List.length_range]
    simp -implicitDefEqProofs [exs, ex, ev, evs, hs]
end Py.K20
end
section
set_option maxHeartbeats 0
namespace Py.K20
open PySem PySem.Spec PyProof.Rows L2 Py
def manyK : List Nat → Nat
  | [] => 0
  | n :: r => max (n + 1) (manyK r)
def lowsK (edge lo own : Bool) : List Bool := if own then [lo] else (if !lo then [false] else []) ++ (if edge && !lo then [true] else [])
def laterK (r : List Nat) (own : Nat) : List Nat := r.map (fun x => x + (if own ≤ x then 1 else 0)) ++ [own]
def waysA (k : Kd) : List Kd := (List.range (manyK k.1)).map fun own => (k.1 ++ [own], k.2.1, k.2.2)
def waysB (a b : Bool) (k : Kd) (own : Nat) : List Kd := (lowsK a k.2.1 (decide (0 < own))).flatMap fun low => ((lowsK b k.2.2 (decide (own < manyK k.1))).filter fun high => decide (0 < manyK k.1) || !(low && high)).map fun high => (laterK k.1 own, low, high)
def waysT (a b : Bool) (k : Kd) : List Kd := srt (fun x y => leF (encK x) (encK y)) (waysA k ++ (List.range (manyK k.1 + 1)).flatMap (waysB a b k))
def ch24 (a b : Bool) (l : List Kd) : Bool := l.all fun k => isOk (callG (L.G 27) 24 [encL a b, encK k]) (encKs (waysT a b k))
def chF (a b : Bool) : Bool := match sortL ((lvl (waysT a b) 5).map encK) with
  | some r => fastS r && nods r && decide (deps r ≤ 60) && decide ((lvl (waysT a b) 5).length ≤ 5000)
  | none => false
theorem isOks {l : List Kd} {a b : Bool} (h : ch24 a b l = true) : ∀ k ∈ l, callG (L.G 27) 24 [encL a b, encK k] = .ok (encKs (waysT a b k)) := fun k hk => isOk_eq (List.all_eq_true.mp h k hk)
theorem all_parts {l : List Kd} {p : Kd → Bool} (n : Nat) (h1 : (l.take n).all p = true) (h2 : (l.drop n).all p = true) : l.all p = true := by
  rw [← List.take_append_drop n l, List.all_append, h1, h2]; rfl
end Py.K20
end
section
set_option maxHeartbeats 0
namespace Py.K20
open PySem PySem.Spec PyProof.Rows L2 Py
def fW (a b : Bool) (m : Nat) (one : Kd) : Bool := decide (one.1.length = m + 1) && (List.range (m + 1)).all fun p => isOk (callG GG 31 [encL a b, encK one, ei p]) (encK (backK one p)) && decide ((backK one p).1.length = m)
def fP (a b : Bool) (m : Nat) (one : Kd) : Bool := match callG GG 39 [encL a b, encK one] with
  | .ok (.lst pts) => decide (pts.length = m + 1) && (List.range (m + 1)).all fun p => isOk (callG GG 37 [encL a b, .lst (pts.take p ++ pts.drop (p + 1))]) (encK (backK one p))
  | _ => false
theorem chW_eq (a b : Bool) (m : Nat) : chW a b m = (ksV a b (m + 1)).all (fW a b m) := rfl
theorem chP_eq (a b : Bool) (m : Nat) : chP a b m = (ksV a b (m + 1)).all (fP a b m) := rfl
theorem r4 {p : Nat → Bool} (h : (List.range 3).all p = true) (h3 : p 3 = true) : (List.range 4).all p = true := by
  rw [List.range_succ, List.all_append, h]; simp [h3]
theorem r5 {p : Nat → Bool} (h : (List.range 4).all p = true) (h3 : p 4 = true) : (List.range 5).all p = true := by
  rw [List.range_succ, List.all_append, h]; simp [h3]
theorem parts8 {l : List Kd} {p : Kd → Bool} (n : Nat) (h0 : ((l.drop 0).take n).all p = true) (h1 : ((l.drop (1 * n)).take n).all p = true) (h2 : ((l.drop (2 * n)).take n).all p = true) (h3 : ((l.drop (3 * n)).take n).all p = true) (h4 : ((l.drop (4 * n)).take n).all p = true) (h5 : ((l.drop (5 * n)).take n).all p = true) (h6 : ((l.drop (6 * n)).take n).all p = true) (h7 : ((l.drop (7 * n)).take n).all p = true) (h8 : l.length ≤ 8 * n) : l.all p = true := by
  refine all_parts n (by simpa using h0) ?_
  refine all_parts n (by simpa using h1) ?_
  rw [List.drop_drop]
  refine all_parts n (by rw [show n + n = 2 * n by omega]; exact h2) ?_
  rw [List.drop_drop]
  refine all_parts n (by rw [show n + n + n = 3 * n by omega]; exact h3) ?_
  rw [List.drop_drop]
  refine all_parts n (by rw [show n + n + n + n = 4 * n by omega]; exact h4) ?_
  rw [List.drop_drop]
  refine all_parts n (by rw [show n + n + n + n + n = 5 * n by omega]; exact h5) ?_
  rw [List.drop_drop]
  refine all_parts n (by rw [show n + n + n + n + n + n = 6 * n by omega]; exact h6) ?_
  rw [List.drop_drop]
  refine all_parts n (by rw [show n + n + n + n + n + n + n = 7 * n by omega]; exact h7) ?_
  rw [List.drop_drop, List.drop_eq_nil_of_le (by omega)]; rfl
theorem cA0_tt : (List.range 4).all (chA true true) = true := by decide +kernel
theorem cA4_tt : chA true true 4 = true := by decide +kernel
theorem cA_tt : (List.range 5).all (chA true true) = true := r5 cA0_tt cA4_tt
theorem cB_tt : (List.range 4).all (chB true true) = true := by decide +kernel
theorem cl4_tt : (ksV true true 4).length ≤ 8 * 40 := by decide +kernel
theorem cW0_tt : (List.range 3).all (chW true true) = true := by decide +kernel
theorem cW3_tt_0 : (((ksV true true 4).drop (0)).take 40).all (fW true true 3) = true := by decide +kernel
theorem cW3_tt_1 : (((ksV true true 4).drop (1 * 40)).take 40).all (fW true true 3) = true := by decide +kernel
theorem cW3_tt_2 : (((ksV true true 4).drop (2 * 40)).take 40).all (fW true true 3) = true := by decide +kernel
theorem cW3_tt_3 : (((ksV true true 4).drop (3 * 40)).take 40).all (fW true true 3) = true := by decide +kernel
theorem cW3_tt_4 : (((ksV true true 4).drop (4 * 40)).take 40).all (fW true true 3) = true := by decide +kernel
theorem cW3_tt_5 : (((ksV true true 4).drop (5 * 40)).take 40).all (fW true true 3) = true := by decide +kernel
theorem cW3_tt_6 : (((ksV true true 4).drop (6 * 40)).take 40).all (fW true true 3) = true := by decide +kernel
theorem cW3_tt_7 : (((ksV true true 4).drop (7 * 40)).take 40).all (fW true true 3) = true := by decide +kernel
theorem cW_tt : (List.range 4).all (chW true true) = true := r4 cW0_tt (by rw [chW_eq]; exact parts8 40 cW3_tt_0 cW3_tt_1 cW3_tt_2 cW3_tt_3 cW3_tt_4 cW3_tt_5 cW3_tt_6 cW3_tt_7 cl4_tt)
theorem cP0_tt : (List.range 3).all (chP true true) = true := by decide +kernel
theorem cP3_tt_0 : (((ksV true true 4).drop (0)).take 40).all (fP true true 3) = true := by decide +kernel
theorem cP3_tt_1 : (((ksV true true 4).drop (1 * 40)).take 40).all (fP true true 3) = true := by decide +kernel
theorem cP3_tt_2 : (((ksV true true 4).drop (2 * 40)).take 40).all (fP true true 3) = true := by decide +kernel
theorem cP3_tt_3 : (((ksV true true 4).drop (3 * 40)).take 40).all (fP true true 3) = true := by decide +kernel
theorem cP3_tt_4 : (((ksV true true 4).drop (4 * 40)).take 40).all (fP true true 3) = true := by decide +kernel
theorem cP3_tt_5 : (((ksV true true 4).drop (5 * 40)).take 40).all (fP true true 3) = true := by decide +kernel
theorem cP3_tt_6 : (((ksV true true 4).drop (6 * 40)).take 40).all (fP true true 3) = true := by decide +kernel
theorem cP3_tt_7 : (((ksV true true 4).drop (7 * 40)).take 40).all (fP true true 3) = true := by decide +kernel
theorem cP_tt : (List.range 4).all (chP true true) = true := r4 cP0_tt (by rw [chP_eq]; exact parts8 40 cP3_tt_0 cP3_tt_1 cP3_tt_2 cP3_tt_3 cP3_tt_4 cP3_tt_5 cP3_tt_6 cP3_tt_7 cl4_tt)
theorem cV_tt : (List.range 4).all (chV true true) = true := by decide +kernel
theorem cF_tt : chF true true = true := by decide +kernel
theorem c3_tt : (List.range 4).all (fun i => ch24 true true (lvl (waysT true true) i)) = true := by decide +kernel
theorem c4_tt_0 : ch24 true true (((lvl (waysT true true) 4).drop 0).take 75) = true := by decide +kernel
theorem c4_tt_1 : ch24 true true (((lvl (waysT true true) 4).drop 75).take 75) = true := by decide +kernel
theorem c4_tt_2 : ch24 true true (((lvl (waysT true true) 4).drop 150).take 75) = true := by decide +kernel
theorem c4_tt_3 : ch24 true true (((lvl (waysT true true) 4).drop 225).take 75) = true := by decide +kernel
theorem c4_tt_4 : (lvl (waysT true true) 4).drop 300 = [] := by
  have : (lvl (waysT true true) 4).length ≤ 300 := by decide +kernel
  exact List.drop_eq_nil_of_le this
theorem cL_tt : (List.range 5).all (fun i => decide ((lvl (waysT true true) i).length ≤ 5000)) = true := by decide +kernel
theorem cN_tt : (List.range 5).all (fun i => decide (0 < (ksV true true i).length) && decide ((ksV true true i).length ≤ 400)) = true := by decide +kernel
theorem cM_tt : (isOk (callG (L.G 28) 21 [encL true true]) .non && isOk (callG (L.G 28) 23 [.int 5]) .non) = true := by decide +kernel
theorem cA0_tf : (List.range 4).all (chA true false) = true := by decide +kernel
theorem cA4_tf : chA true false 4 = true := by decide +kernel
theorem cA_tf : (List.range 5).all (chA true false) = true := r5 cA0_tf cA4_tf
theorem cB_tf : (List.range 4).all (chB true false) = true := by decide +kernel
theorem cl4_tf : (ksV true false 4).length ≤ 8 * 40 := by decide +kernel
theorem cW0_tf : (List.range 3).all (chW true false) = true := by decide +kernel
theorem cW3_tf_0 : (((ksV true false 4).drop (0)).take 40).all (fW true false 3) = true := by decide +kernel
theorem cW3_tf_1 : (((ksV true false 4).drop (1 * 40)).take 40).all (fW true false 3) = true := by decide +kernel
theorem cW3_tf_2 : (((ksV true false 4).drop (2 * 40)).take 40).all (fW true false 3) = true := by decide +kernel
theorem cW3_tf_3 : (((ksV true false 4).drop (3 * 40)).take 40).all (fW true false 3) = true := by decide +kernel
theorem cW3_tf_4 : (((ksV true false 4).drop (4 * 40)).take 40).all (fW true false 3) = true := by decide +kernel
theorem cW3_tf_5 : (((ksV true false 4).drop (5 * 40)).take 40).all (fW true false 3) = true := by decide +kernel
theorem cW3_tf_6 : (((ksV true false 4).drop (6 * 40)).take 40).all (fW true false 3) = true := by decide +kernel
theorem cW3_tf_7 : (((ksV true false 4).drop (7 * 40)).take 40).all (fW true false 3) = true := by decide +kernel
theorem cW_tf : (List.range 4).all (chW true false) = true := r4 cW0_tf (by rw [chW_eq]; exact parts8 40 cW3_tf_0 cW3_tf_1 cW3_tf_2 cW3_tf_3 cW3_tf_4 cW3_tf_5 cW3_tf_6 cW3_tf_7 cl4_tf)
theorem cP0_tf : (List.range 3).all (chP true false) = true := by decide +kernel
theorem cP3_tf_0 : (((ksV true false 4).drop (0)).take 40).all (fP true false 3) = true := by decide +kernel
theorem cP3_tf_1 : (((ksV true false 4).drop (1 * 40)).take 40).all (fP true false 3) = true := by decide +kernel
theorem cP3_tf_2 : (((ksV true false 4).drop (2 * 40)).take 40).all (fP true false 3) = true := by decide +kernel
theorem cP3_tf_3 : (((ksV true false 4).drop (3 * 40)).take 40).all (fP true false 3) = true := by decide +kernel
theorem cP3_tf_4 : (((ksV true false 4).drop (4 * 40)).take 40).all (fP true false 3) = true := by decide +kernel
theorem cP3_tf_5 : (((ksV true false 4).drop (5 * 40)).take 40).all (fP true false 3) = true := by decide +kernel
theorem cP3_tf_6 : (((ksV true false 4).drop (6 * 40)).take 40).all (fP true false 3) = true := by decide +kernel
theorem cP3_tf_7 : (((ksV true false 4).drop (7 * 40)).take 40).all (fP true false 3) = true := by decide +kernel
theorem cP_tf : (List.range 4).all (chP true false) = true := r4 cP0_tf (by rw [chP_eq]; exact parts8 40 cP3_tf_0 cP3_tf_1 cP3_tf_2 cP3_tf_3 cP3_tf_4 cP3_tf_5 cP3_tf_6 cP3_tf_7 cl4_tf)
theorem cV_tf : (List.range 4).all (chV true false) = true := by decide +kernel
theorem cF_tf : chF true false = true := by decide +kernel
theorem c3_tf : (List.range 4).all (fun i => ch24 true false (lvl (waysT true false) i)) = true := by decide +kernel
theorem c4_tf_0 : ch24 true false (((lvl (waysT true false) 4).drop 0).take 75) = true := by decide +kernel
theorem c4_tf_1 : ch24 true false (((lvl (waysT true false) 4).drop 75).take 75) = true := by decide +kernel
theorem c4_tf_2 : ch24 true false (((lvl (waysT true false) 4).drop 150).take 75) = true := by decide +kernel
theorem c4_tf_3 : ch24 true false (((lvl (waysT true false) 4).drop 225).take 75) = true := by decide +kernel
theorem c4_tf_4 : (lvl (waysT true false) 4).drop 300 = [] := by
  have : (lvl (waysT true false) 4).length ≤ 300 := by decide +kernel
  exact List.drop_eq_nil_of_le this
theorem cL_tf : (List.range 5).all (fun i => decide ((lvl (waysT true false) i).length ≤ 5000)) = true := by decide +kernel
theorem cN_tf : (List.range 5).all (fun i => decide (0 < (ksV true false i).length) && decide ((ksV true false i).length ≤ 400)) = true := by decide +kernel
theorem cM_tf : (isOk (callG (L.G 28) 21 [encL true false]) .non && isOk (callG (L.G 28) 23 [.int 5]) .non) = true := by decide +kernel
theorem cA0_ft : (List.range 4).all (chA false true) = true := by decide +kernel
theorem cA4_ft : chA false true 4 = true := by decide +kernel
theorem cA_ft : (List.range 5).all (chA false true) = true := r5 cA0_ft cA4_ft
theorem cB_ft : (List.range 4).all (chB false true) = true := by decide +kernel
theorem cl4_ft : (ksV false true 4).length ≤ 8 * 40 := by decide +kernel
theorem cW0_ft : (List.range 3).all (chW false true) = true := by decide +kernel
theorem cW3_ft_0 : (((ksV false true 4).drop (0)).take 40).all (fW false true 3) = true := by decide +kernel
theorem cW3_ft_1 : (((ksV false true 4).drop (1 * 40)).take 40).all (fW false true 3) = true := by decide +kernel
theorem cW3_ft_2 : (((ksV false true 4).drop (2 * 40)).take 40).all (fW false true 3) = true := by decide +kernel
theorem cW3_ft_3 : (((ksV false true 4).drop (3 * 40)).take 40).all (fW false true 3) = true := by decide +kernel
theorem cW3_ft_4 : (((ksV false true 4).drop (4 * 40)).take 40).all (fW false true 3) = true := by decide +kernel
theorem cW3_ft_5 : (((ksV false true 4).drop (5 * 40)).take 40).all (fW false true 3) = true := by decide +kernel
theorem cW3_ft_6 : (((ksV false true 4).drop (6 * 40)).take 40).all (fW false true 3) = true := by decide +kernel
theorem cW3_ft_7 : (((ksV false true 4).drop (7 * 40)).take 40).all (fW false true 3) = true := by decide +kernel
theorem cW_ft : (List.range 4).all (chW false true) = true := r4 cW0_ft (by rw [chW_eq]; exact parts8 40 cW3_ft_0 cW3_ft_1 cW3_ft_2 cW3_ft_3 cW3_ft_4 cW3_ft_5 cW3_ft_6 cW3_ft_7 cl4_ft)
theorem cP0_ft : (List.range 3).all (chP false true) = true := by decide +kernel
theorem cP3_ft_0 : (((ksV false true 4).drop (0)).take 40).all (fP false true 3) = true := by decide +kernel
theorem cP3_ft_1 : (((ksV false true 4).drop (1 * 40)).take 40).all (fP false true 3) = true := by decide +kernel
theorem cP3_ft_2 : (((ksV false true 4).drop (2 * 40)).take 40).all (fP false true 3) = true := by decide +kernel
theorem cP3_ft_3 : (((ksV false true 4).drop (3 * 40)).take 40).all (fP false true 3) = true := by decide +kernel
theorem cP3_ft_4 : (((ksV false true 4).drop (4 * 40)).take 40).all (fP false true 3) = true := by decide +kernel
theorem cP3_ft_5 : (((ksV false true 4).drop (5 * 40)).take 40).all (fP false true 3) = true := by decide +kernel
theorem cP3_ft_6 : (((ksV false true 4).drop (6 * 40)).take 40).all (fP false true 3) = true := by decide +kernel
theorem cP3_ft_7 : (((ksV false true 4).drop (7 * 40)).take 40).all (fP false true 3) = true := by decide +kernel
theorem cP_ft : (List.range 4).all (chP false true) = true := r4 cP0_ft (by rw [chP_eq]; exact parts8 40 cP3_ft_0 cP3_ft_1 cP3_ft_2 cP3_ft_3 cP3_ft_4 cP3_ft_5 cP3_ft_6 cP3_ft_7 cl4_ft)
theorem cV_ft : (List.range 4).all (chV false true) = true := by decide +kernel
theorem cF_ft : chF false true = true := by decide +kernel
theorem c3_ft : (List.range 4).all (fun i => ch24 false true (lvl (waysT false true) i)) = true := by decide +kernel
theorem c4_ft_0 : ch24 false true (((lvl (waysT false true) 4).drop 0).take 75) = true := by decide +kernel
theorem c4_ft_1 : ch24 false true (((lvl (waysT false true) 4).drop 75).take 75) = true := by decide +kernel
theorem c4_ft_2 : ch24 false true (((lvl (waysT false true) 4).drop 150).take 75) = true := by decide +kernel
theorem c4_ft_3 : ch24 false true (((lvl (waysT false true) 4).drop 225).take 75) = true := by decide +kernel
theorem c4_ft_4 : (lvl (waysT false true) 4).drop 300 = [] := by
  have : (lvl (waysT false true) 4).length ≤ 300 := by decide +kernel
  exact List.drop_eq_nil_of_le this
theorem cL_ft : (List.range 5).all (fun i => decide ((lvl (waysT false true) i).length ≤ 5000)) = true := by decide +kernel
theorem cN_ft : (List.range 5).all (fun i => decide (0 < (ksV false true i).length) && decide ((ksV false true i).length ≤ 400)) = true := by decide +kernel
theorem cM_ft : (isOk (callG (L.G 28) 21 [encL false true]) .non && isOk (callG (L.G 28) 23 [.int 5]) .non) = true := by decide +kernel
theorem cA0_ff : (List.range 4).all (chA false false) = true := by decide +kernel
theorem cA4_ff : chA false false 4 = true := by decide +kernel
theorem cA_ff : (List.range 5).all (chA false false) = true := r5 cA0_ff cA4_ff
theorem cB_ff : (List.range 4).all (chB false false) = true := by decide +kernel
theorem cl4_ff : (ksV false false 4).length ≤ 8 * 40 := by decide +kernel
theorem cW0_ff : (List.range 3).all (chW false false) = true := by decide +kernel
theorem cW3_ff_0 : (((ksV false false 4).drop (0)).take 40).all (fW false false 3) = true := by decide +kernel
theorem cW3_ff_1 : (((ksV false false 4).drop (1 * 40)).take 40).all (fW false false 3) = true := by decide +kernel
theorem cW3_ff_2 : (((ksV false false 4).drop (2 * 40)).take 40).all (fW false false 3) = true := by decide +kernel
theorem cW3_ff_3 : (((ksV false false 4).drop (3 * 40)).take 40).all (fW false false 3) = true := by decide +kernel
theorem cW3_ff_4 : (((ksV false false 4).drop (4 * 40)).take 40).all (fW false false 3) = true := by decide +kernel
theorem cW3_ff_5 : (((ksV false false 4).drop (5 * 40)).take 40).all (fW false false 3) = true := by decide +kernel
theorem cW3_ff_6 : (((ksV false false 4).drop (6 * 40)).take 40).all (fW false false 3) = true := by decide +kernel
theorem cW3_ff_7 : (((ksV false false 4).drop (7 * 40)).take 40).all (fW false false 3) = true := by decide +kernel
theorem cW_ff : (List.range 4).all (chW false false) = true := r4 cW0_ff (by rw [chW_eq]; exact parts8 40 cW3_ff_0 cW3_ff_1 cW3_ff_2 cW3_ff_3 cW3_ff_4 cW3_ff_5 cW3_ff_6 cW3_ff_7 cl4_ff)
theorem cP0_ff : (List.range 3).all (chP false false) = true := by decide +kernel
theorem cP3_ff_0 : (((ksV false false 4).drop (0)).take 40).all (fP false false 3) = true := by decide +kernel
theorem cP3_ff_1 : (((ksV false false 4).drop (1 * 40)).take 40).all (fP false false 3) = true := by decide +kernel
theorem cP3_ff_2 : (((ksV false false 4).drop (2 * 40)).take 40).all (fP false false 3) = true := by decide +kernel
theorem cP3_ff_3 : (((ksV false false 4).drop (3 * 40)).take 40).all (fP false false 3) = true := by decide +kernel
theorem cP3_ff_4 : (((ksV false false 4).drop (4 * 40)).take 40).all (fP false false 3) = true := by decide +kernel
theorem cP3_ff_5 : (((ksV false false 4).drop (5 * 40)).take 40).all (fP false false 3) = true := by decide +kernel
theorem cP3_ff_6 : (((ksV false false 4).drop (6 * 40)).take 40).all (fP false false 3) = true := by decide +kernel
theorem cP3_ff_7 : (((ksV false false 4).drop (7 * 40)).take 40).all (fP false false 3) = true := by decide +kernel
theorem cP_ff : (List.range 4).all (chP false false) = true := r4 cP0_ff (by rw [chP_eq]; exact parts8 40 cP3_ff_0 cP3_ff_1 cP3_ff_2 cP3_ff_3 cP3_ff_4 cP3_ff_5 cP3_ff_6 cP3_ff_7 cl4_ff)
theorem cV_ff : (List.range 4).all (chV false false) = true := by decide +kernel
theorem cF_ff : chF false false = true := by decide +kernel
theorem c3_ff : (List.range 4).all (fun i => ch24 false false (lvl (waysT false false) i)) = true := by decide +kernel
theorem c4_ff_0 : ch24 false false (((lvl (waysT false false) 4).drop 0).take 75) = true := by decide +kernel
theorem c4_ff_1 : ch24 false false (((lvl (waysT false false) 4).drop 75).take 75) = true := by decide +kernel
theorem c4_ff_2 : ch24 false false (((lvl (waysT false false) 4).drop 150).take 75) = true := by decide +kernel
theorem c4_ff_3 : ch24 false false (((lvl (waysT false false) 4).drop 225).take 75) = true := by decide +kernel
theorem c4_ff_4 : (lvl (waysT false false) 4).drop 300 = [] := by
  have : (lvl (waysT false false) 4).length ≤ 300 := by decide +kernel
  exact List.drop_eq_nil_of_le this
theorem cL_ff : (List.range 5).all (fun i => decide ((lvl (waysT false false) i).length ≤ 5000)) = true := by decide +kernel
theorem cN_ff : (List.range 5).all (fun i => decide (0 < (ksV false false i).length) && decide ((ksV false false i).length ≤ 400)) = true := by decide +kernel
theorem cM_ff : (isOk (callG (L.G 28) 21 [encL false false]) .non && isOk (callG (L.G 28) 23 [.int 5]) .non) = true := by decide +kernel
end Py.K20
end
section
set_option maxHeartbeats 4000000
namespace Py.K20
open PySem PySem.Spec PyProof.Rows L2 Py
theorem rAll {n : Nat} {p : Nat → Bool} (h : (List.range n).all p = true) (i : Nat) (hi : i < n) : p i = true := List.all_eq_true.mp h i (List.mem_range.mpr hi)
structure Ck (a b : Bool) : Prop where
  cA : (List.range 5).all (chA a b) = true
  cB : (List.range 4).all (chB a b) = true
  cW : (List.range 4).all (chW a b) = true
  cV : (List.range 4).all (chV a b) = true
  cP : (List.range 4).all (chP a b) = true
  cF : chF a b = true
  c24 : ∀ i < 5, ∀ k ∈ lvl (waysT a b) i, callG (L.G 27) 24 [encL a b, encK k] = .ok (encKs (waysT a b k))
  cL : (List.range 5).all (fun i => decide ((lvl (waysT a b) i).length ≤ 5000)) = true
  cN : (List.range 5).all (fun i => decide (0 < (ksV a b i).length) && decide ((ksV a b i).length ≤ 400)) = true
  cM : (isOk (callG (L.G 28) 21 [encL a b]) .non && isOk (callG (L.G 28) 23 [.int 5]) .non) = true
theorem five {a b : Bool} (c : Ck a b) : ∃ l : List D, callG GG 26 [encL a b, .int 5] = .ok (.lst l) ∧ ssD (.lst l) = .ok (.lst l) ∧ nods l = true ∧ deps l ≤ 60 := by
  have hF := c.cF
  unfold chF at hF
  cases q : sortL ((lvl (waysT a b) 5).map encK) with
  | none => rw [q] at hF; cases hF
  | some r =>
    rw [q] at hF
    simp only [Bool.and_eq_true, decide_eq_true_eq] at hF
    obtain ⟨⟨⟨f1, f2⟩, f3⟩, f4⟩ := hF
    have hM := c.cM
    rw [Bool.and_eq_true] at hM
    have h25 : callG (L.G 28) 25 [encL a b, .int 5] = .ok (.lst r) := by
      refine r25 (L.G 27) (waysT a b) a b 5 (by decide) (fun i hi k hk => c.c24 i hi k hk) (fun i hi => ?_) (.lst r) ?_
      · rcases Nat.lt_or_ge i 5 with h | h
        · exact of_decide_eq_true (rAll c.cL i h)
        · rw [show i = 5 by omega]; exact f4
      · show (sortL ((lvl (waysT a b) 5).map encK)).map D.lst = _
        rw [q]; rfl
    refine ⟨r, ?_, ?_, f2, f3⟩
    · show F26.run FM CC (L.G 28) [encL a b, .int 5] = _
      have e1 := isOk_eq hM.1
      have e2 := isOk_eq hM.2
      rw [run_eq]
      simp -implicitDefEqProofs [F26, startD, exs, ex, ev, evs, e1, e2, h25]
    · show (RR.of (ssortL r)) >>= _ = _
      unfold ssortL
      rw [if_pos f1]; rfl
theorem at_of {a b : Bool} (c : Ck a b) (m : Nat) (hm : m ≤ 3) : At a b m where
  m3 := hm
  k0 := isOk_eq (rAll c.cA m (by omega))
  l0 := isOk_eq (rAll c.cB m (by omega))
  k1 := isOk_eq (rAll c.cA (m + 1) (by omega))
  p0 := by have := rAll c.cN m (by omega); simp only [Bool.and_eq_true, decide_eq_true_eq] at this; exact this.1
  f0 := by have := rAll c.cN m (by omega); simp only [Bool.and_eq_true, decide_eq_true_eq] at this; exact this.2
  p1 := by have := rAll c.cN (m + 1) (by omega); simp only [Bool.and_eq_true, decide_eq_true_eq] at this; exact this.1
  w := fun one ho p hp => by
    have := List.all_eq_true.mp (rAll c.cW m (by omega)) one ho
    rw [Bool.and_eq_true] at this
    have := rAll this.2 p hp
    rw [Bool.and_eq_true] at this
    exact ⟨isOk_eq this.1, of_decide_eq_true this.2⟩
  v := fun k hk => by
    have := List.all_eq_true.mp (rAll c.cV m (by omega)) k hk
    simp only [Bool.and_eq_true, decide_eq_true_eq] at this
    exact ⟨this.1.1, isOk_eq this.1.2, isOk_eq this.2⟩
  p := fun one ho => by
    have := List.all_eq_true.mp (rAll c.cP m (by omega)) one ho
    cases q : callG GG 39 [encL a b, encK one] with
    | ok d =>
      rw [q] at this
      cases d with
      | lst pts =>
        dsimp only at this
        rw [Bool.and_eq_true, decide_eq_true_eq] at this
        exact ⟨pts, rfl, this.1, fun p hp => isOk_eq (rAll this.2 p hp)⟩
      | _ => cases this
    | _ => rw [q] at this; cases this
  s := five c
theorem c24_of {a b : Bool} (h3 : (List.range 4).all (fun i => ch24 a b (lvl (waysT a b) i)) = true) (h40 : ch24 a b (((lvl (waysT a b) 4).drop 0).take 75) = true) (h41 : ch24 a b (((lvl (waysT a b) 4).drop 75).take 75) = true) (h42 : ch24 a b (((lvl (waysT a b) 4).drop 150).take 75) = true) (h43 : ch24 a b (((lvl (waysT a b) 4).drop 225).take 75) = true) (h44 : (lvl (waysT a b) 4).drop 300 = []) : ∀ i < 5, ∀ k ∈ lvl (waysT a b) i, callG (L.G 27) 24 [encL a b, encK k] = .ok (encKs (waysT a b k)) := fun i hi => by
  rcases Nat.lt_or_ge i 4 with h | h
  · exact isOks (rAll h3 i h)
  · rw [show i = 4 by omega]
    generalize lvl (waysT a b) 4 = l at *
    refine isOks ?_
    refine all_parts 75 h40 (all_parts 75 h41 (all_parts 75 ?_ (all_parts 75 ?_ ?_)))
    · rw [List.drop_drop]; exact h42
    · rw [List.drop_drop, List.drop_drop]; exact h43
    · rw [List.drop_drop, List.drop_drop, List.drop_drop, h44]; rfl
theorem ck : ∀ a b : Bool, Ck a b
  | true, true => ⟨cA_tt, cB_tt, cW_tt, cV_tt, cP_tt, cF_tt, c24_of c3_tt c4_tt_0 c4_tt_1 c4_tt_2 c4_tt_3 c4_tt_4, cL_tt, cN_tt, cM_tt⟩
  | true, false => ⟨cA_tf, cB_tf, cW_tf, cV_tf, cP_tf, cF_tf, c24_of c3_tf c4_tf_0 c4_tf_1 c4_tf_2 c4_tf_3 c4_tf_4, cL_tf, cN_tf, cM_tf⟩
  | false, true => ⟨cA_ft, cB_ft, cW_ft, cV_ft, cP_ft, cF_ft, c24_of c3_ft c4_ft_0 c4_ft_1 c4_ft_2 c4_ft_3 c4_ft_4, cL_ft, cN_ft, cM_ft⟩
  | false, false => ⟨cA_ff, cB_ff, cW_ff, cV_ff, cP_ff, cF_ff, c24_of c3_ff c4_ff_0 c4_ff_1 c4_ff_2 c4_ff_3 c4_ff_4, cL_ff, cN_ff, cM_ff⟩
theorem law_run (ns : List Int) (hl : ns.length ≤ 63) : L.run 30 40 ns = .ok (.bl true) := law_ok (fun a b m hm => at_of (ck a b) m hm) ns hl
end Py.K20
end
section
set_option maxHeartbeats 0
namespace Py.K20
open PySem PySem.Spec PyProof.Rows L2 Py
theorem law_okX (ns : List Int) (hl : ns.length ≤ 63) : L.run 30 40 ns = .ok (.bl true) := law_run ns hl
theorem facts {P : Program} {w : World} {K : PySem.W.Frag} {h : Heap} {mg : Str → Option Value} {f : Addr} (X : K.In h) (G : h.Ns mainGlobals mg) (hfa : mg ("law" : Str) = some (.ref f)) (c : He.SaysD L.fa L.fn K) :
    ∃ fd : FuncData, (∀ (s : Shared) (v : Value), BindsTo s fd ⟨[v], []⟩ [("_law_script", v)]) ∧ ∀ base : Heap, K.In base → base.Ns mainGlobals mg → FnOk P w K mg base L2.CX0 30 f fd ["_law_script"] (fun vs H Q _ => spD K [] .sh 1 (callG (L.G 30) 40) vs H Q (fun _ _ _ => False)) := by
  have e : F40.name = ("law" : Str) := by decide +kernel
  obtain ⟨fd, h1, h2⟩ := L.walk chk (P := P) (w := w) (fa := f) (i := 40) (d := F40) (k := 30) (p := "_law_script") X G c rfl rfl (by decide +kernel) (by rw [e]; exact hfa)
  exact ⟨fd, h1, fun base a b => to0 (h2 base a b)⟩
end Py.K20
open PySem PySem.W PySem.Calls PyProof.Rows Py.K20
theorem PySem.Challenge.cw_denselines_k20_whole_kinds_holds : PySem.Challenge.rw_denselines_k20_whole_kinds.Holds := by
  w_on; o_law
  refine HandSHeadRun.head_any (r := OpenLaw.row PySem.Challenge.rw_denselines_k20_whole_kinds) (q := view (OpenLaw.row PySem.Challenge.rw_denselines_k20_whole_kinds).prog [29]) (H := Py.K20.hk) (ob := Py.K20.ob) (M := 2000) (loose := Py.K20.loose) (d := HandSHeadRun.topDef (OpenLaw.row PySem.Challenge.rw_denselines_k20_whole_kinds).prog 29) (kwd := []) Py.K20.ob_eq
    (by kernel_rfl) (fun s => by kernel_rfl) Py.K20.run (by kernel_rfl) (by kernel_rfl) (by kernel_rfl) (by rfl) (by first | assumption | decide +kernel) (by decide +kernel) ⟨rfl, rfl, rfl, rfl, rfl, by decide +kernel⟩ ?hw ?hc
  case hw => w_witness2
  case hc =>
    refine L2.walk_ofE (l := PySem.Challenge.rw_denselines_k20_whole_kinds) (n := 63) (k := 30) (x := "_law_script") (CX := L2.CX0) rfl (by decide) (by kernel_rfl) ⟨rfl, by decide, by decide⟩ ?F (fun _ _ _ _ z => z)
    intro w mg fa h Y G hmg0
    obtain ⟨K, KX, c⟩ := Y
    have hmg : mg ("law" : PySem.Str) = some (.ref fa) := by
      have e : (HandSHeadRun.topDef (OpenLaw.row PySem.Challenge.rw_denselines_k20_whole_kinds).prog 29).name = ("law" : PySem.Str) := by kernel_rfl
      rw [← e]
      exact hmg0
    obtain ⟨fd, hb, hF⟩ := Py.K20.facts (P := (PySem.Challenge.rw_denselines_k20_whole_kinds).prog) (w := w) KX G hmg c
    exact ⟨K, fd, (fun vs H Q _ => Py.spD K [] .sh 1 (Py.callG (L.G 30) 40) vs H Q (fun _ _ _ => False)), KX, hb, fun H a ns hl _ hS => Py.Law.keeps hl hS (Py.K20.law_okX ns hl), hF⟩
end
