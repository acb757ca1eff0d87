import PyProof.Rows.All
import Wide.All
import OpenK.AllK
import Wide.FinOn
import KE.KStateDown
import Lean
import HandS.ForMost
import HandS.Exc
import HandS.TryOnly
import HandS.ExcOwn
import HandS.WordsExc
import HandS.Lambda
import HandS.Wide
import HandS.WideBits
import HandS.TupMul
import HandS.TupAny
import HandS.Flow
import HandS.IsInst
import HandS.Deep
import HandS.Conv
import HandS.SortRule
import HandS.SortInts
import HandS.Head0
import HandS.Head1
import HandS.Head2
import HandS.HeadEnd
import HandS.HeadHook1
import HandS.HeadHook2
import HandS.HeadHook3
import HandS.HeadHook4
import HandS.HeadWalk
import HandS.EndTab
import HandS.Defaults
import HandS.ExcCtx
import HandS.Hot
import HandS.HotCalls
import HandS.ExcIs
import HandS.Text
import HandS.More
import KE.SortData
import KE.DataMinMax
import HandS.Walk
import HandS.TupLe
import HandS.TupSets
import KE.KeyNested
import KE.KDictCopyH
import HandS.Zip
import KE.GoesMore
import KE.GoesZip
import PyProof.SumAny
import PyProof.WalksS
import PySem.Challenge.RW_denselines_k21_whole_worlds
set_option Elab.async false
set_option linter.all false
set_option maxRecDepth 100000
section
namespace Py
open PySem PySem.Spec PyProof.Rows L2 LamX

/-! ### data -/
inductive D where
  | non | bl (b : Bool) | int (i : Int) | str (x : Str) | tup (l : List D) | lst (l : List D) | dic (ks : List Key) (vs : List D) | scr (l : List Int) | obj (a : Addr) | glo (x : Str)

mutual
def Rep (K : PySem.W.Frag) (H : Hp) : D → V → Prop
  | .non, v => v = .non
  | .bl b, v => v = .bl b
  | .int i, v => v = .int i
  | .str x, v => PyData.strOk x = true ∧ x.length ≤ sizeLine ∧ v = .str x
  | .tup l, v => l.length ≤ sizeLine ∧ ∃ a xs, v = .ref a ∧ SqT K H a xs ∧ Reps K H l xs
  | .lst l, v => l.length ≤ sizeLine ∧ ∃ a xs, v = .ref a ∧ H a = some (.lst xs) ∧ Reps K H l xs
  | .dic ks vs, v => ∃ a kvs, v = .ref a ∧ Rd H a (.dK kvs) ∧ kvs.map (·.1) = ks ∧ Reps K H vs (kvs.map (·.2))
  | .scr l, v => l.length ≤ sizeLine ∧ ∃ a, v = .ref a ∧ SqL K H a (l.map V.int)
  | .obj a, v => v = .ref a
  | .glo x, v => v = .ref (He.ga K x)
def Reps (K : PySem.W.Frag) (H : Hp) : List D → List V → Prop
  | [], vs => vs = []
  | d :: ds, vs => ∃ v r, vs = v :: r ∧ Rep K H d v ∧ Reps K H ds r
end

/-- what a result is: shared, fresh (a list, a dict that none else has), borrowed (the list, the dict of a name) -/
inductive Md where | sh | fr | bo
  deriving DecidableEq

def hide (H : Hp) (Z : Addr → Bool) : Hp := fun a => if Z a then none else H a
def FreshAt (H : Hp) (a : Addr) : Prop := H a = none ∨ ∃ ps, H a = some (.tbl ps)
def Zs (Z : Addr → Bool) (a : Addr) : Addr → Bool := fun b => Z b || decide (b = a)

def OwnAt (K : PySem.W.Frag) (G H : Hp) (a : Addr) : D → Prop
  | .lst l => l.length ≤ sizeLine ∧ ∃ xs, H a = some (.lst xs) ∧ Reps K G l xs
  | .dic ks vs => ∃ kvs, H a = some (.dK kvs) ∧ kvs.map (·.1) = ks ∧ Reps K G vs (kvs.map (·.2))
  | _ => False
def RepB (K : PySem.W.Frag) (G H : Hp) : D → V → Prop
  | .lst l, v => ∃ a, v = .ref a ∧ OwnAt K G H a (.lst l)
  | .dic ks vs, v => ∃ a kvs, v = .ref a ∧ Rd H a (.dK kvs) ∧ kvs.map (·.1) = ks ∧ Reps K G vs (kvs.map (·.2))
  | d, v => Rep K G d v
def RepV (K : PySem.W.Frag) (Z : Addr → Bool) (H H' : Hp) (m : Md) (d : D) (v : V) : Prop :=
  match m with
  | .sh => Rep K (hide H' Z) d v
  | .fr => ∃ a, v = .ref a ∧ FreshAt H a ∧ OwnAt K (hide H' (Zs Z a)) H' a d
  | .bo => RepB K (hide H' Z) H' d v
def RepBs (K : PySem.W.Frag) (G H : Hp) : List D → List V → Prop
  | [], vs => vs = []
  | d :: ds, vs => ∃ v r, vs = v :: r ∧ RepB K G H d v ∧ RepBs K G H ds r

/-! ### heaps that grow -/
abbrev Tb := List (Addr × Str)
structure Ext (T : Tb) (H H' : Hp) : Prop where
  ext : ExtN H H'
  tabs : Tabs T H'
theorem Ext.trans {T : Tb} {H H1 H2 : Hp} (a : Ext T H H1) (b : Ext T H1 H2) : Ext T H H2 := ⟨a.ext.trans b.ext, b.tabs⟩
theorem Ext.refl {T : Tb} {H : Hp} (t : Tabs T H) : Ext T H H := ⟨ExtN.refl H, t⟩
theorem FreshAt.back {H H' : Hp} {a : Addr} (e : ExtN H H') (f : FreshAt H' a) : FreshAt H a := by
  cases q : H a with
  | none => exact .inl q
  | some o =>
    by_cases t : ∃ ps, o = .tbl ps
    · obtain ⟨ps, rfl⟩ := t; exact .inr ⟨ps, q⟩
    · have z := e a o q fun ps h => t ⟨ps, h⟩
      rcases f with f | ⟨ps, f⟩
      · rw [f] at z; cases z
      · rw [f] at z; cases z; exact (t ⟨ps, rfl⟩).elim
theorem hide_of {H : Hp} {Z : Addr → Bool} {a : Addr} (h : Z a = false) : hide H Z a = H a := by unfold hide; rw [h]; rfl
theorem hide_some {H : Hp} {Z : Addr → Bool} {a : Addr} {o : HO} (h : hide H Z a = some o) : Z a = false ∧ H a = some o := by
  unfold hide at h
  cases q : Z a with
  | true => rw [q] at h; cases h
  | false => rw [q] at h; exact ⟨rfl, h⟩
theorem exHide {H H' : Hp} {Z : Addr → Bool} (e : ExtN H H') : ExtN (hide H Z) (hide H' Z) := fun b o h n => by
  obtain ⟨h1, h2⟩ := hide_some h
  rw [hide_of h1]; exact e b o h2 n
theorem exUnhide {H : Hp} {Z : Addr → Bool} : ExtN (hide H Z) H := fun b o h n => (hide_some h).2
theorem exLess {H : Hp} {Z Z' : Addr → Bool} (s : ∀ a, Z' a = true → Z a = true) : ExtN (hide H Z) (hide H Z') := fun b o h n => by
  obtain ⟨h1, h2⟩ := hide_some h
  cases q : Z' b with
  | true => rw [s b q] at h1; cases h1
  | false => rw [hide_of q]; exact h2
/-- an address that none has is hidden from none -/
theorem exZs {H : Hp} {Z : Addr → Bool} {a : Addr} (f : FreshAt H a) : ExtN (hide H Z) (hide H (Zs Z a)) := fun b o h n => by
  obtain ⟨h1, h2⟩ := hide_some h
  have ne : b ≠ a := fun e => by
    subst e
    rcases f with f | ⟨ps, f⟩
    · rw [f] at h2; cases h2
    · rw [f] at h2; cases h2; exact n ps rfl
  have z : Zs Z a b = false := by unfold Zs; rw [h1]; simp [ne]
  rw [hide_of z]; exact h2

theorem Rd.ext {H H' : Hp} {a : Addr} {u : HO} (e : ExtN H H') (n : ∀ ps, u ≠ .tbl ps) (r : Rd H a u) : Rd H' a u := by
  rcases r with r | ⟨o, r⟩
  · exact .inl (e a u r n)
  · exact .inr ⟨o, e a _ r fun ps => by intro h; cases h⟩
theorem SqT.ext {K : PySem.W.Frag} {H H' : Hp} {a : Addr} {xs : List V} (e : ExtN H H') (h : SqT K H a xs) : SqT K H' a xs := by
  rcases h with h | h
  · exact .inl (Rd.ext e (fun ps h => by cases h) h)
  · exact .inr h
theorem SqL.ext {K : PySem.W.Frag} {H H' : Hp} {a : Addr} {xs : List V} (e : ExtN H H') (h : SqL K H a xs) : SqL K H' a xs := by
  rcases h with h | h
  · exact .inl (Rd.ext e (fun ps h => by cases h) h)
  · exact .inr h
mutual
theorem Rep.ext {K : PySem.W.Frag} {H H' : Hp} (e : ExtN H H') : ∀ (d : D) (v : V), Rep K H d v → Rep K H' d v
  | .non, v, h => h
  | .bl b, v, h => h
  | .int i, v, h => h
  | .str x, v, h => h
  | .tup l, v, h => by
    obtain ⟨z, a, xs, e1, h1, h2⟩ := h
    exact ⟨z, a, xs, e1, SqT.ext e h1, Reps.ext e l xs h2⟩
  | .lst l, v, h => by
    obtain ⟨z, a, xs, e1, h1, h2⟩ := h
    exact ⟨z, a, xs, e1, e a _ h1 (fun ps q => by cases q), Reps.ext e l xs h2⟩
  | .dic ks vs, v, h => by
    obtain ⟨a, kvs, e1, h1, h3, h2⟩ := h
    exact ⟨a, kvs, e1, Rd.ext e (fun ps q => by cases q) h1, h3, Reps.ext e vs _ h2⟩
  | .scr l, v, h => by
    obtain ⟨z, a, e1, h1⟩ := h
    exact ⟨z, a, e1, SqL.ext e h1⟩
  | .obj a, v, h => h
  | .glo x, v, h => h
theorem Reps.ext {K : PySem.W.Frag} {H H' : Hp} (e : ExtN H H') : ∀ (ds : List D) (vs : List V), Reps K H ds vs → Reps K H' ds vs
  | [], vs, h => h
  | d :: ds, vs, h => by
    obtain ⟨v, r, e1, h1, h2⟩ := h
    exact ⟨v, r, e1, Rep.ext e d v h1, Reps.ext e ds r h2⟩
end
theorem Reps.length {K : PySem.W.Frag} {H : Hp} : ∀ {ds : List D} {vs : List V}, Reps K H ds vs → vs.length = ds.length
  | [], vs, h => by rw [show vs = [] from h]; rfl
  | d :: ds, vs, h => by
    obtain ⟨v, r, e1, h1, h2⟩ := h
    rw [e1, List.length_cons, List.length_cons, Reps.length h2]
theorem Reps.append {K : PySem.W.Frag} {H : Hp} : ∀ {ds es : List D} {vs ws : List V}, Reps K H ds vs → Reps K H es ws → Reps K H (ds ++ es) (vs ++ ws)
  | [], es, vs, ws, h, h' => by rw [show vs = [] from h]; exact h'
  | d :: ds, es, vs, ws, h, h' => by
    obtain ⟨v, r, e1, h1, h2⟩ := h
    rw [e1]
    exact ⟨v, r ++ ws, rfl, h1, Reps.append h2 h'⟩
theorem Reps.get {K : PySem.W.Frag} {H : Hp} : ∀ {ds : List D} {vs : List V} {i : Nat} {d : D}, Reps K H ds vs → ds[i]? = some d → ∃ v, vs[i]? = some v ∧ Rep K H d v
  | [], vs, i, d, h, e => by simp at e
  | d0 :: ds, vs, 0, d, h, e => by
    obtain ⟨v, r, e1, h1, h2⟩ := h
    simp at e; subst e
    exact ⟨v, by rw [e1]; rfl, h1⟩
  | d0 :: ds, vs, i + 1, d, h, e => by
    obtain ⟨v, r, e1, h1, h2⟩ := h
    obtain ⟨u, q1, q2⟩ := Reps.get h2 (by simpa using e)
    exact ⟨u, by rw [e1]; simpa using q1, q2⟩
theorem Reps.getV {K : PySem.W.Frag} {H : Hp} : ∀ {ds : List D} {vs : List V} {i : Nat} {v : V}, Reps K H ds vs → vs[i]? = some v → ∃ d, ds[i]? = some d ∧ Rep K H d v := by
  intro ds vs i v h e
  have hl := h.length
  have hi : i < ds.length := by
    rw [← hl]
    by_cases q : i < vs.length
    · exact q
    · rw [List.getElem?_eq_none (by omega)] at e; cases e
  obtain ⟨u, q1, q2⟩ := h.get (i := i) (d := ds[i]) (by simp [hi])
  rw [e] at q1; cases q1
  exact ⟨ds[i], by simp [hi], q2⟩
theorem Reps.drop {K : PySem.W.Frag} {H : Hp} : ∀ {ds : List D} {vs : List V} (n : Nat), Reps K H ds vs → Reps K H (ds.drop n) (vs.drop n)
  | ds, vs, 0, h => h
  | [], vs, n + 1, h => by rw [show vs = [] from h]; rfl
  | d :: ds, vs, n + 1, h => by
    obtain ⟨v, r, e1, h1, h2⟩ := h
    rw [e1]; exact Reps.drop n h2
theorem Reps.take {K : PySem.W.Frag} {H : Hp} : ∀ {ds : List D} {vs : List V} (n : Nat), Reps K H ds vs → Reps K H (ds.take n) (vs.take n)
  | ds, vs, 0, h => by rw [List.take_zero, List.take_zero]; rfl
  | [], vs, n + 1, h => by rw [show vs = [] from h]; rfl
  | d :: ds, vs, n + 1, h => by
    obtain ⟨v, r, e1, h1, h2⟩ := h
    rw [e1]; exact ⟨v, r.take n, rfl, h1, Reps.take n h2⟩
theorem OwnAt.ext {K : PySem.W.Frag} {G G' H H' : Hp} {a : Addr} {d : D} (g : ExtN G G') (e : ExtN H H') (h : OwnAt K G H a d) : OwnAt K G' H' a d := by
  cases d with
  | lst l =>
    obtain ⟨z, xs, h1, h2⟩ := h
    exact ⟨z, xs, e a _ h1 (fun ps q => by cases q), Reps.ext g l xs h2⟩
  | dic ks vs =>
    obtain ⟨kvs, h1, h3, h2⟩ := h
    exact ⟨kvs, e a _ h1 (fun ps q => by cases q), h3, Reps.ext g vs _ h2⟩
  | _ => exact False.elim h
theorem RepB.ext {K : PySem.W.Frag} {G G' H H' : Hp} {v : V} {d : D} (g : ExtN G G') (e : ExtN H H') (h : RepB K G H d v) : RepB K G' H' d v := by
  cases d with
  | lst l =>
    obtain ⟨a, e1, h1⟩ := h
    exact ⟨a, e1, h1.ext g e⟩
  | dic ks vs =>
    obtain ⟨a, kvs, e1, h1, h3, h2⟩ := h
    exact ⟨a, kvs, e1, Rd.ext e (fun ps q => by cases q) h1, h3, Reps.ext g _ _ h2⟩
  | non => exact Rep.ext g _ v h
  | bl b => exact Rep.ext g _ v h
  | int i => exact Rep.ext g _ v h
  | str x => exact Rep.ext g _ v h
  | tup l => exact Rep.ext g _ v h
  | scr l => exact Rep.ext g _ v h
  | obj a => exact Rep.ext g _ v h
  | glo x => exact Rep.ext g _ v h
theorem RepBs.ext {K : PySem.W.Frag} {G G' H H' : Hp} (g : ExtN G G') (e : ExtN H H') : ∀ {ds : List D} {vs : List V}, RepBs K G H ds vs → RepBs K G' H' ds vs
  | [], vs, h => h
  | d :: ds, vs, h => by
    obtain ⟨v, r, e1, h1, h2⟩ := h
    exact ⟨v, r, e1, h1.ext g e, h2.ext g e⟩
/-- a shared one as a borrowed one -/
theorem Rep.b {K : PySem.W.Frag} {G H : Hp} {v : V} {d : D} (e : ExtN G H) (h : Rep K G d v) : RepB K G H d v := by
  cases d with
  | lst l =>
    obtain ⟨z, a, xs, e1, h1, h2⟩ := h
    exact ⟨a, e1, z, xs, e a _ h1 (fun ps q => by cases q), h2⟩
  | dic ks vs =>
    obtain ⟨a, kvs, e1, h1, h3, h2⟩ := h
    exact ⟨a, kvs, e1, Rd.ext e (fun ps q => by cases q) h1, h3, h2⟩
  | _ => exact h
theorem RepB.rep {K : PySem.W.Frag} {G H : Hp} {v : V} {d : D} (e : ExtN G H) (h : RepB K G H d v) : Rep K H d v := by
  cases d with
  | lst l =>
    obtain ⟨a, e1, z, xs, h1, h2⟩ := h
    exact ⟨z, a, xs, e1, h1, Reps.ext e _ _ h2⟩
  | dic ks vs =>
    obtain ⟨a, kvs, e1, h1, h3, h2⟩ := h
    exact ⟨a, kvs, e1, h1, h3, Reps.ext e _ _ h2⟩
  | non => exact Rep.ext e _ v h
  | bl b => exact Rep.ext e _ v h
  | int i => exact Rep.ext e _ v h
  | str x => exact Rep.ext e _ v h
  | tup l => exact Rep.ext e _ v h
  | scr l => exact Rep.ext e _ v h
  | obj a => exact Rep.ext e _ v h
  | glo x => exact Rep.ext e _ v h
theorem OwnAt.b {K : PySem.W.Frag} {G H : Hp} {a : Addr} {d : D} (h : OwnAt K G H a d) : RepB K G H d (.ref a) := by
  cases d with
  | lst l => exact ⟨a, rfl, h⟩
  | dic ks vs =>
    obtain ⟨kvs, h1, h3, h2⟩ := h
    exact ⟨a, kvs, rfl, .inl h1, h3, h2⟩
  | _ => exact False.elim h
theorem zs_sub {Z : Addr → Bool} {a : Addr} : ∀ b, Z b = true → Zs Z a b = true := fun b h => by unfold Zs; rw [h]; rfl
theorem zs_self {Z : Addr → Bool} {a : Addr} : Zs Z a a = true := by unfold Zs; simp
theorem RepV.b {K : PySem.W.Frag} {Z : Addr → Bool} {H H' : Hp} {m : Md} {d : D} {v : V} (h : RepV K Z H H' m d v) : RepB K (hide H' Z) H' d v := by
  cases m with
  | sh => exact Rep.b exUnhide h
  | fr =>
    obtain ⟨a, rfl, f, o⟩ := h
    exact OwnAt.b (o.ext (exLess zs_sub) (ExtN.refl _))
  | bo => exact h
/-- what may be kept -/
theorem RepV.sh {K : PySem.W.Frag} {Z : Addr → Bool} {H H' : Hp} {m : Md} {d : D} {v : V} (h : RepV K Z H H' m d v) (hm : m ≠ .bo) (hz : ∀ a, Z a = true → ¬ FreshAt H a) : Rep K (hide H' Z) d v := by
  cases m with
  | sh => exact h
  | fr =>
    obtain ⟨a, rfl, f, o⟩ := h
    have za : Z a = false := by
      cases q : Z a with
      | true => exact (hz a q f).elim
      | false => rfl
    have o2 := o.ext (G' := hide H' Z) (exLess zs_sub) (ExtN.refl _)
    cases d with
    | lst l =>
      obtain ⟨z, xs, h1, h2⟩ := o2
      exact ⟨z, a, xs, rfl, by rw [hide_of za]; exact h1, h2⟩
    | dic ks vs =>
      obtain ⟨kvs, h1, h3, h2⟩ := o2
      exact ⟨a, kvs, rfl, .inl (by rw [hide_of za]; exact h1), h3, h2⟩
    | _ => exact False.elim o
  | bo => exact (hm rfl).elim
theorem RepV.ext {K : PySem.W.Frag} {Z : Addr → Bool} {H H1 H2 : Hp} {m : Md} {d : D} {v : V} (h : RepV K Z H H1 m d v) (e : ExtN H1 H2) : RepV K Z H H2 m d v := by
  cases m with
  | sh => exact Rep.ext (exHide e) d v h
  | fr =>
    obtain ⟨a, rfl, f, o⟩ := h
    exact ⟨a, rfl, f, o.ext (exHide e) e⟩
  | bo => exact RepB.ext (exHide e) e h
theorem RepV.from {K : PySem.W.Frag} {Z : Addr → Bool} {H H1 H2 : Hp} {m : Md} {d : D} {v : V} (h : RepV K Z H1 H2 m d v) (e : ExtN H H1) : RepV K Z H H2 m d v := by
  cases m with
  | sh => exact h
  | fr =>
    obtain ⟨a, rfl, f, o⟩ := h
    exact ⟨a, rfl, f.back e, o⟩
  | bo => exact h

/-! ### results -/
inductive RR (α : Type) where
  | ok (a : α) | ex (c : Str) | bad
def RR.bind {α β : Type} (x : RR α) (f : α → RR β) : RR β := match x with
  | .ok a => f a
  | .ex c => .ex c
  | .bad => .bad
instance : Monad RR where
  pure := RR.ok
  bind := RR.bind
@[simp] theorem RR.bind_ok {α β : Type} (a : α) (f : α → RR β) : (RR.ok a >>= f) = f a := rfl
@[simp] theorem RR.bind_ex {α β : Type} (c : Str) (f : α → RR β) : ((RR.ex c : RR α) >>= f) = .ex c := rfl
@[simp] theorem RR.bind_bad {α β : Type} (f : α → RR β) : ((RR.bad : RR α) >>= f) = .bad := rfl
@[simp] theorem RR.pure_ok {α : Type} (a : α) : (pure a : RR α) = .ok a := rfl
def RR.of {α : Type} : Option α → RR α
  | some a => .ok a
  | none => .bad

/-! ### the names -/
abbrev Env := List (Option (Bool × D))
def SlotOk (K : PySem.W.Frag) (Z : Addr → Bool) (H : Hp) (s : Bool × D) (v : V) : Prop :=
  if s.1 = true then ∃ a, v = .ref a ∧ Z a = true ∧ OwnAt K (hide H Z) H a s.2 else Rep K (hide H Z) s.2 v
structure StE (K : PySem.W.Frag) (T : Tb) (Z : Addr → Bool) (σ : L2.St) (H : Hp) (ρ : Env) : Prop where
  slot : ∀ (i : Nat) (s : Bool × D), ρ[i]? = some (some s) → ∃ v, σ[i]? = some (some v) ∧ SlotOk K Z H s v
  dist : ∀ (i j : Nat) (a : Addr) (d e : D), ρ[i]? = some (some (true, d)) → ρ[j]? = some (some (true, e)) → σ[i]? = some (some (.ref a)) → σ[j]? = some (some (.ref a)) → i = j
  zdom : ∀ a, Z a = true → ¬ FreshAt H a
  tabs : Tabs T H
  len : ρ.length = σ.length
theorem SlotOk.ext {K : PySem.W.Frag} {Z : Addr → Bool} {H H' : Hp} {s : Bool × D} {v : V} (e : ExtN H H') (h : SlotOk K Z H s v) : SlotOk K Z H' s v := by
  obtain ⟨o, d⟩ := s
  cases o with
  | true =>
    obtain ⟨a, e1, z, h1⟩ := h
    exact ⟨a, e1, z, h1.ext (exHide e) e⟩
  | false => exact Rep.ext (exHide e) d v h
theorem StE.ext {K : PySem.W.Frag} {T : Tb} {Z : Addr → Bool} {σ : L2.St} {H H' : Hp} {ρ : Env} (h : StE K T Z σ H ρ) (e : Ext T H H') : StE K T Z σ H' ρ :=
  ⟨fun i s q => by
    obtain ⟨v, q1, q2⟩ := h.slot i s q
    exact ⟨v, q1, q2.ext e.ext⟩, h.dist, fun a z f => h.zdom a z (f.back e.ext), e.tabs, h.len⟩

/-- what is wanted behind an expression -/
def Post (K : PySem.W.Frag) (T : Tb) (Z : Addr → Bool) (W : WX) (σ : L2.St) (H : Hp) (m : Md) (Q : VK) : RR D → Prop
  | .ok d => ∀ v H', Ext T H H' → RepV K Z H H' m d v → Q v H'
  | .ex c => ∀ H', Ext T H H' → W (.ref (He.ga K c)) none σ H'
  | .bad => False
/-- .. of any kind -/
def PostX {α : Type} (K : PySem.W.Frag) (T : Tb) (W : WX) (σ : L2.St) (H : Hp) (Q : α → Hp → Prop) : RR α → Prop
  | .ok b => ∀ H', Ext T H H' → Q b H'
  | .ex c => ∀ H', Ext T H H' → W (.ref (He.ga K c)) none σ H'
  | .bad => False
def tD (K : PySem.W.Frag) (T : Tb) (W : WX) (m : Md) (f : Env → RR D) : TE := fun σ H Q => ∃ ρ Z, StE K T Z σ H ρ ∧ Post K T Z W σ H m Q (f ρ)
def tDT (K : PySem.W.Frag) (T : Tb) (W : WX) (f : Env → RR Bool) : TT := fun σ H Q => ∃ ρ Z, StE K T Z σ H ρ ∧ PostX K T W σ H Q (f ρ)
theorem Post.from {K : PySem.W.Frag} {T : Tb} {Z : Addr → Bool} {W : WX} {σ : L2.St} {H H1 : Hp} {m : Md} {Q : VK} {r : RR D} (h : Post K T Z W σ H m Q r) (e : Ext T H H1) : Post K T Z W σ H1 m Q r := by
  cases r with
  | ok d => exact fun v H' e' q => h v H' (e.trans e') (q.from e.ext)
  | ex c => exact fun H' e' => h H' (e.trans e')
  | bad => exact h
theorem PostX.from {α : Type} {K : PySem.W.Frag} {T : Tb} {W : WX} {σ : L2.St} {H H1 : Hp} {Q : α → Hp → Prop} {r : RR α} (h : PostX K T W σ H Q r) (e : Ext T H H1) : PostX K T W σ H1 Q r := by
  cases r with
  | ok d => exact fun H' e' => h H' (e.trans e')
  | ex c => exact fun H' e' => h H' (e.trans e')
  | bad => exact h
/-- one after another -/
theorem Post.then {K : PySem.W.Frag} {T : Tb} {Z : Addr → Bool} {W : WX} {σ : L2.St} {H : Hp} {m m' : Md} {Q Q' : VK} {x : RR D} {k : D → RR D} (h : Post K T Z W σ H m' Q' (x >>= k))
    (i : ∀ d v H1, x = .ok d → Ext T H H1 → RepV K Z H H1 m d v → Post K T Z W σ H1 m' Q' (k d) → Q v H1) : Post K T Z W σ H m Q x := by
  cases x with
  | ok d => exact fun v H1 e r => i d v H1 rfl e r (Post.from (r := k d) h e)
  | ex c => exact h
  | bad => exact h
theorem Post.thenX {α : Type} {K : PySem.W.Frag} {T : Tb} {Z : Addr → Bool} {W : WX} {σ : L2.St} {H : Hp} {m : Md} {Q : VK} {Q' : α → Hp → Prop} {x : RR D} {k : D → RR α} (h : PostX K T W σ H Q' (x >>= k))
    (i : ∀ d v H1, x = .ok d → Ext T H H1 → RepV K Z H H1 m d v → PostX K T W σ H1 Q' (k d) → Q v H1) : Post K T Z W σ H m Q x := by
  cases x with
  | ok d => exact fun v H1 e r => i d v H1 rfl e r (PostX.from (r := k d) h e)
  | ex c => exact h
  | bad => exact h
theorem PostX.then {α : Type} {K : PySem.W.Frag} {T : Tb} {Z : Addr → Bool} {W : WX} {σ : L2.St} {H : Hp} {m' : Md} {Q : α → Hp → Prop} {Q' : VK} {x : RR α} {k : α → RR D} (h : Post K T Z W σ H m' Q' (x >>= k))
    (i : ∀ d H1, x = .ok d → Ext T H H1 → Post K T Z W σ H1 m' Q' (k d) → Q d H1) : PostX K T W σ H Q x := by
  cases x with
  | ok d => exact fun H1 e => i d H1 rfl e (Post.from (r := k d) h e)
  | ex c => exact h
  | bad => exact h
theorem PostX.thenX {α β : Type} {K : PySem.W.Frag} {T : Tb} {W : WX} {σ : L2.St} {H : Hp} {Q : α → Hp → Prop} {Q' : β → Hp → Prop} {x : RR α} {k : α → RR β} (h : PostX K T W σ H Q' (x >>= k))
    (i : ∀ d H1, x = .ok d → Ext T H H1 → PostX K T W σ H1 Q' (k d) → Q d H1) : PostX K T W σ H Q x := by
  cases x with
  | ok d => exact fun H1 e => i d H1 rfl e (PostX.from (r := k d) h e)
  | ex c => exact h
  | bad => exact h

theorem peImp {X : Cx} {e : Expr} {t t' : TE} (h : PE X e t) (i : ∀ σ H Q, t' σ H Q → t σ H Q) : PE X e t' := ⟨fun pins s σ H Q I hw => h.run pins s σ H Q I (i σ H Q hw)⟩
theorem ptImp {X : Cx} {e : Expr} {t t' : TT} (h : PT X e t) (i : ∀ σ H Q, t' σ H Q → t σ H Q) : PT X e t' := ⟨fun pins s σ H Q I hw => h.run pins s σ H Q I (i σ H Q hw)⟩
theorem pwImp {X : Cx} {e : Expr} {t t' : TT} (h : PW X e t) (i : ∀ σ H Q, t' σ H Q → t σ H Q) : PW X e t' := ⟨fun wh pins s σ H Q I hw => h.run wh pins s σ H Q I (i σ H Q hw)⟩
theorem psImp {X : Cx} {e : Stmt} {t t' : TS} (h : PS X e t) (i : ∀ D σ H, t' D σ H → t D σ H) : PS X e t' := ⟨fun pins s σ H D I hw => h.run pins s σ H D I (i D σ H hw)⟩
end Py
end
section
set_option maxHeartbeats 1000000
namespace Py
open PySem PySem.Spec PyProof.Rows L2 LamX

/-! ### new objects -/
section
variable {K : PySem.W.Frag} {T : Tb} {Z : Addr → Bool} {H : Hp} {p : Addr} {o : HO}
theorem ext_new (t : Tabs T H) (n : H p = none) : Ext T H (upd H p o) := by
  have e : ∀ b u, H b = some u → upd H p o b = some u := fun b u h => by rw [upd_ne (ne_of_none h n)]; exact h
  exact ⟨ExtN.of e, t.ext e⟩
theorem z_new (hz : ∀ a, Z a = true → ¬ FreshAt H a) (n : H p = none) : Z p = false := by
  cases q : Z p with
  | true => exact (hz p q (.inl n)).elim
  | false => rfl
theorem rep_tup {l : List D} {xs : List V} (t : Tabs T H) (hz : ∀ a, Z a = true → ¬ FreshAt H a) (n : H p = none) (hl : l.length ≤ sizeLine) (r : Reps K (hide H Z) l xs) : Rep K (hide (upd H p (.tup xs)) Z) (.tup l) (.ref p) :=
  ⟨hl, p, xs, rfl, .inl (.inl (by rw [hide_of (z_new hz n)]; exact upd_same)), Reps.ext (exHide (ext_new t n).ext) l xs r⟩
theorem rep_lst {l : List D} {xs : List V} (t : Tabs T H) (hz : ∀ a, Z a = true → ¬ FreshAt H a) (n : H p = none) (hl : l.length ≤ sizeLine) (r : Reps K (hide H Z) l xs) : Rep K (hide (upd H p (.lst xs)) Z) (.lst l) (.ref p) :=
  ⟨hl, p, xs, rfl, by rw [hide_of (z_new hz n)]; exact upd_same, Reps.ext (exHide (ext_new t n).ext) l xs r⟩
theorem hide_zs {o : HO} : hide (upd H p o) (Zs Z p) = hide H (Zs Z p) := by
  funext b
  unfold hide
  by_cases h : b = p
  · subst h; rw [zs_self]; rfl
  · rw [upd_ne h]
theorem own_lst {l : List D} {xs : List V} (hl : l.length ≤ sizeLine) (n : FreshAt H p) (r : Reps K (hide H Z) l xs) : OwnAt K (hide (upd H p (.lst xs)) (Zs Z p)) (upd H p (.lst xs)) p (.lst l) :=
  ⟨hl, xs, upd_same, by rw [hide_zs]; exact Reps.ext (exZs n) l xs r⟩
theorem own_dic {ks : List Key} {vs : List D} {kvs : List (Key × V)} (n : FreshAt H p) (e : kvs.map (·.1) = ks) (r : Reps K (hide H Z) vs (kvs.map (·.2))) : OwnAt K (hide (upd H p (.dK kvs)) (Zs Z p)) (upd H p (.dK kvs)) p (.dic ks vs) :=
  ⟨kvs, upd_same, e, by rw [hide_zs]; exact Reps.ext (exZs n) vs _ r⟩
end

/-! ### operations on values -/
def rD2 (K : PySem.W.Frag) (T : Tb) (m : Md) (g : D → D → Option D) : R2 := fun x y H Q => ∃ (Z : Addr → Bool) (d e r : D), (∀ a, Z a = true → ¬ FreshAt H a) ∧ Tabs T H ∧ RepB K (hide H Z) H d x ∧ RepB K (hide H Z) H e y ∧ g d e = some r ∧
  ∀ v H', Ext T H H' → RepV K Z H H' m r v → Q v H'
def rDC (K : PySem.W.Frag) (T : Tb) (g : D → D → Option Bool) : R2 := fun x y H Q => ∃ (G : Hp) (d e : D) (k : Bool), ExtN G H ∧ Tabs T H ∧ RepB K G H d x ∧ RepB K G H e y ∧ g d e = some k ∧ Q (.bl k) H
def rDL (K : PySem.W.Frag) (T : Tb) (m : Md) (g : List D → Option D) : List V → Hp → VK → Prop := fun xs H Q => ∃ (Z : Addr → Bool) (ds : List D) (r : D), (∀ a, Z a = true → ¬ FreshAt H a) ∧ Tabs T H ∧ RepBs K (hide H Z) H ds xs ∧ g ds = some r ∧
  ∀ v H', Ext T H H' → RepV K Z H H' m r v → Q v H'
theorem opImp {X : Cx} {f : Value → Value → Sem Value} {r r' : R2} (h : OpR X f r) (i : ∀ x y H Q, r' x y H Q → r x y H Q) : OpR X f r' :=
  fun pins s σ H x y v u Q I rx ry q => h pins s σ H x y v u Q I rx ry (i x y H Q q)
theorem callImp {X : Cx} {f : Value} {r r' : List V → Hp → VK → Prop} (h : CallR X f r) (i : ∀ xs H Q, r' xs H Q → r xs H Q) : CallR X f r' :=
  fun pins s σ H xs us Q I rx q => h pins s σ H xs us Q I rx (i xs H Q q)

def lim : Nat := 16777216
theorem lim_eq : sizeLine = lim := sizeLine_eq

def addD : D → D → Option D
  | .int i, .int j => some (.int (i + j))
  | .str a, .str b => if a.length + b.length ≤ lim then some (.str (a ++ b)) else none
  | .tup a, .tup b => if a.length + b.length ≤ lim then some (.tup (a ++ b)) else none
  | .lst a, .lst b => if a.length + b.length ≤ lim then some (.lst (a ++ b)) else none
  | _, _ => none
theorem strOk_app {a b : Str} (ha : PyData.strOk a = true) (hb : PyData.strOk b = true) : PyData.strOk (a ++ b) = true := by
  show (a.cps ++ b.cps).all _ = true
  rw [Array.all_append]
  exact Bool.and_eq_true_iff.mpr ⟨ha, hb⟩
theorem len_app (a b : Str) : (a ++ b).length = a.length + b.length := by
  show (a.cps ++ b.cps).size = _
  rw [Array.size_append]; rfl
section
variable {X : Cx} {T : Tb}
theorem op_addD : OpR X (binaryOp .Add) (rD2 X.K T .sh addD) := by
  refine opImp (OpR.or op_add (OpR.or op_add_str (OpR.or op_catA op_cat))) fun x y H Q h => ?_
  obtain ⟨Z, d, e, r, hz, ht, hd, he, hg, hq⟩ := h
  cases d <;> cases e <;> simp only [addD, Option.some.injEq, reduceCtorEq] at hg
  · subst hg
    cases hd; cases he
    exact .inl ⟨_, _, rfl, rfl, hq _ H (Ext.refl ht) rfl⟩
  · split at hg
    · rename_i hl
      cases hg
      obtain ⟨o1, l1, rfl⟩ := hd
      obtain ⟨o2, l2, rfl⟩ := he
      refine .inr (.inl ⟨_, _, rfl, rfl, by rw [lim_eq]; exact hl, hq _ H (Ext.refl ht) ⟨strOk_app o1 o2, by rw [len_app, lim_eq]; exact hl, rfl⟩⟩)
    · cases hg
  · split at hg
    · rename_i hl
      cases hg
      obtain ⟨l1, a, xs, rfl, ha, ra⟩ := hd
      obtain ⟨l2, b, ys, rfl, hb, rb⟩ := he
      refine .inr (.inr (.inl ⟨a, b, xs, ys, rfl, rfl, SqT.ext exUnhide ha, SqT.ext exUnhide hb, by rw [ra.length, rb.length, lim_eq]; exact hl, fun e0 => ?_, fun _ e0 => ?_, fun _ _ p np => ?_⟩))
      · refine hq _ H (Ext.refl ht) ?_
        have z := ra.length
        rw [e0] at z
        have q := List.length_eq_zero_iff.mp z.symm
        rw [q]
        exact ⟨l2, b, ys, rfl, hb, rb⟩
      · refine hq _ H (Ext.refl ht) ?_
        have z := rb.length
        rw [e0] at z
        have q := List.length_eq_zero_iff.mp z.symm
        rw [q, List.append_nil]
        exact ⟨l1, a, xs, rfl, ha, ra⟩
      · exact hq _ _ (ext_new ht np) (rep_tup ht hz np (by rw [List.length_append, lim_eq]; exact hl) (ra.append rb))
    · cases hg
  · split at hg
    · rename_i hl
      cases hg
      obtain ⟨a, rfl, l1, xs, ha, ra⟩ := hd
      obtain ⟨b, rfl, l2, ys, hb, rb⟩ := he
      refine .inr (.inr (.inr ⟨a, b, xs, ys, rfl, rfl, ha, hb, by rw [ra.length, rb.length, lim_eq]; exact hl, fun p np => ?_⟩))
      exact hq _ _ (ext_new ht np) (rep_lst ht hz np (by rw [List.length_append, lim_eq]; exact hl) (ra.append rb))
    · cases hg
def subD : D → D → Option D
  | .int i, .int j => some (.int (i - j))
  | _, _ => none
theorem op_subD : OpR X (binaryOp .Sub) (rD2 X.K T .sh subD) := by
  refine opImp op_sub fun x y H Q h => ?_
  obtain ⟨Z, d, e, r, hz, ht, hd, he, hg, hq⟩ := h
  cases d <;> cases e <;> simp only [subD, Option.some.injEq, reduceCtorEq] at hg
  subst hg
  cases hd; cases he
  exact ⟨_, _, rfl, rfl, hq _ H (Ext.refl ht) rfl⟩
def mulOk (i j : Int) : Bool := decide (i.natAbs < 2 ^ 64) || decide (j.natAbs < 2 ^ 64) || (decide (i.natAbs < 2 ^ 1000) && decide (j.natAbs < 2 ^ 1000))
def mulD : D → D → Option D
  | .int i, .int j => if mulOk i j then some (.int (i * j)) else none
  | .lst a, .int k => if a.length * k.toNat ≤ lim ∧ k < 1000 ∧ -1000 < k then some (.lst (List.replicate k.toNat a).flatten) else none
  | .tup a, .int k => if a ≠ [] ∧ 2 ≤ k ∧ k ≤ 1000 ∧ a.length ≤ 1000 then some (.tup (List.replicate k.toNat a).flatten) else none
  | _, _ => none
theorem Reps.rep {K : PySem.W.Frag} {H : Hp} {l : List D} {xs : List V} (r : Reps K H l xs) : ∀ n, Reps K H (List.replicate n l).flatten (List.replicate n xs).flatten
  | 0 => rfl
  | n + 1 => by
    rw [List.replicate_succ, List.replicate_succ, List.flatten_cons, List.flatten_cons]
    exact r.append (Reps.rep r n)
theorem rep_len {α : Type} (l : List α) : ∀ n, (List.replicate n l).flatten.length = l.length * n
  | 0 => by simp
  | n + 1 => by rw [List.replicate_succ, List.flatten_cons, List.length_append, rep_len l n, Nat.mul_succ, Nat.add_comm]
theorem op_mulD : OpR X (binaryOp .Mult) (rD2 X.K T .sh mulD) := by
  refine opImp (OpR.or op_mul (OpR.or op_mulW (OpR.or op_rep op_repT))) fun x y H Q h => ?_
  obtain ⟨Z, d, e, r, hz, ht, hd, he, hg, hq⟩ := h
  cases d <;> cases e <;> simp only [mulD, Option.some.injEq, reduceCtorEq] at hg
  · split at hg
    · rename_i i j hl
      cases hg
      cases hd; cases he
      have fin := hq _ H (Ext.refl ht) rfl
      simp only [mulOk, Bool.or_eq_true, Bool.and_eq_true, decide_eq_true_eq] at hl
      rcases hl with (hl | hl) | hl
      · exact .inl ⟨i, j, rfl, rfl, .inl (by omega), fin⟩
      · exact .inl ⟨i, j, rfl, rfl, .inr (by omega), fin⟩
      · exact .inr (.inl ⟨i, j, rfl, rfl, wide_mul hl.1 hl.2 (by decide) (by decide) (by decide), fin⟩)
    · cases hg
  · split at hg
    · rename_i la k hl
      cases hg
      cases he
      obtain ⟨l1, a, xs, rfl, ha, ra⟩ := hd
      refine .inr (.inr (.inr ⟨a, k, xs, rfl, rfl, SqT.ext exUnhide ha, fun e0 => ?_, hl.2.1, hl.2.2.1, by rw [ra.length]; exact hl.2.2.2, fun p np => ?_⟩))
      · have z := ra.length
        rw [e0] at z
        exact hl.1 (List.length_eq_zero_iff.mp z.symm)
      · refine hq _ _ (ext_new ht np) (rep_tup ht hz np ?_ (ra.rep _))
        rw [rep_len, lim_eq]
        have h1 := hl.2.2.2
        have h2 : k.toNat ≤ 1000 := by omega
        calc la.length * k.toNat ≤ 1000 * 1000 := Nat.mul_le_mul h1 h2
          _ ≤ lim := by decide
    · cases hg
  · split at hg
    · rename_i la k hl
      cases hg
      cases he
      obtain ⟨a, rfl, l1, xs, ha, ra⟩ := hd
      refine .inr (.inr (.inl ⟨a, k, xs, rfl, rfl, ha, by omega, by omega, by rw [ra.length, lim_eq]; exact hl.1, fun p np => ?_⟩))
      exact hq _ _ (ext_new ht np) (rep_lst ht hz np (by rw [rep_len, lim_eq]; exact hl.1) (ra.rep _))
    · cases hg
def fdivD : D → D → Option D
  | .int i, .int j => if 0 < j ∧ j.natAbs < 2 ^ 1000 then some (.int (i / j)) else none
  | _, _ => none
theorem op_fdivD : OpR X (binaryOp .FloorDiv) (rD2 X.K T .sh fdivD) := by
  refine opImp op_fdivW fun x y H Q h => ?_
  obtain ⟨Z, d, e, r, hz, ht, hd, he, hg, hq⟩ := h
  cases d <;> cases e <;> simp only [fdivD, Option.some.injEq, reduceCtorEq] at hg
  split at hg
  · rename_i i j hl
    cases hg
    cases hd; cases he
    refine ⟨i, j, rfl, rfl, ⟨hl.1, ?_⟩, hq _ H (Ext.refl ht) rfl⟩
    exact Nat.lt_of_lt_of_le (PySem.Flt.log2_lt_of (by decide) hl.2) (by decide)
  · cases hg
def modD : D → D → Option D
  | .int i, .int j => if 0 < j then some (.int (i % j)) else none
  | _, _ => none
theorem op_modD : OpR X (binaryOp .Mod) (rD2 X.K T .sh modD) := by
  refine opImp op_mod fun x y H Q h => ?_
  obtain ⟨Z, d, e, r, hz, ht, hd, he, hg, hq⟩ := h
  cases d <;> cases e <;> simp only [modD, Option.some.injEq, reduceCtorEq] at hg
  split at hg
  · rename_i i j hl
    cases hg
    cases hd; cases he
    exact ⟨i, j, rfl, rfl, hl, hq _ H (Ext.refl ht) rfl⟩
  · cases hg
def powD : D → D → Option D
  | .int i, .int j => if 0 ≤ j ∧ j ≤ 1000 ∧ i.natAbs < 2 ^ 64 then some (.int (i ^ j.toNat)) else none
  | _, _ => none
theorem op_powD : OpR X (binaryOp .Pow) (rD2 X.K T .sh powD) := by
  refine opImp op_pow fun x y H Q h => ?_
  obtain ⟨Z, d, e, r, hz, ht, hd, he, hg, hq⟩ := h
  cases d <;> cases e <;> simp only [powD, Option.some.injEq, reduceCtorEq] at hg
  split at hg
  · rename_i i j hl
    cases hg
    cases hd; cases he
    exact ⟨i, j, rfl, rfl, ⟨hl.1, by omega, hl.2.2⟩, hq _ H (Ext.refl ht) rfl⟩
  · cases hg

inductive Bop where | add | sub | mul | fdiv | mod | pow
  deriving DecidableEq
def Bop.op : Bop → Operator
  | .add => .Add | .sub => .Sub | .mul => .Mult | .fdiv => .FloorDiv | .mod => .Mod | .pow => .Pow
def binD : Bop → D → D → Option D
  | .add => addD | .sub => subD | .mul => mulD | .fdiv => fdivD | .mod => modD | .pow => powD
theorem op_binD (o : Bop) : OpR X (binaryOp o.op) (rD2 X.K T .sh (binD o)) := by
  cases o
  · exact op_addD
  · exact op_subD
  · exact op_mulD
  · exact op_fdivD
  · exact op_modD
  · exact op_powD
end
end Py
end
section
set_option maxHeartbeats 1000000
namespace Py
open PySem PySem.Spec PyProof.Rows L2 LamX

/-! ### == -/
mutual
def toPy : D → PyData
  | .non => .none
  | .bl b => .bool b
  | .int i => .int i
  | .str x => .str x
  | .tup l => .tuple (toPys l)
  | .lst l => .list (toPys l)
  | .scr l => .list (l.map PyData.int)
  | .dic _ _ => .none
  | .obj _ => .none
  | .glo _ => .none
def toPys : List D → List PyData
  | [] => []
  | d :: ds => toPy d :: toPys ds
end
mutual
def nod : D → Bool
  | .tup l => nods l
  | .lst l => nods l
  | .dic _ _ => false
  | .obj _ => false
  | .glo _ => false
  | _ => true
def nods : List D → Bool
  | [] => true
  | d :: ds => nod d && nods ds
end
mutual
def dep : D → Nat
  | .tup l => deps l + 1
  | .lst l => deps l + 1
  | .scr _ => 2
  | _ => 1
def deps : List D → Nat
  | [] => 0
  | d :: ds => max (dep d) (deps ds)
end
theorem dpInts {K : PySem.W.Frag} {H : Hp} : ∀ l : List Int, DpAll K H (l.map V.int) (l.map PyData.int)
  | [] => .nil
  | i :: l => .cons (.int i) (dpInts l)
mutual
theorem Rep.dp {K : PySem.W.Frag} {H : Hp} : ∀ (d : D) (v : V), nod d = true → Rep K H d v → Dp K H v (toPy d) ∧ PyData.canLay0 (toPy d) = true
  | .non, v, n, h => by rw [show v = _ from h]; exact ⟨.non, rfl⟩
  | .bl b, v, n, h => by rw [show v = _ from h]; exact ⟨.bl b, rfl⟩
  | .int i, v, n, h => by rw [show v = _ from h]; exact ⟨.int i, rfl⟩
  | .str x, v, n, h => by
    obtain ⟨h1, h2, rfl⟩ := h
    exact ⟨.str x, h1⟩
  | .tup l, v, n, h => by
    obtain ⟨z, a, xs, rfl, h1, h2⟩ := h
    obtain ⟨q1, q2⟩ := Reps.dp l xs n h2
    exact ⟨.tup h1 q1, q2⟩
  | .lst l, v, n, h => by
    obtain ⟨z, a, xs, rfl, h1, h2⟩ := h
    obtain ⟨q1, q2⟩ := Reps.dp l xs n h2
    exact ⟨.lst (SqL.of h1) q1, q2⟩
  | .scr l, v, n, h => by
    obtain ⟨z, a, rfl, h1⟩ := h
    refine ⟨.lst h1 (dpInts l), ?_⟩
    show PyData.canLayAll0 (l.map PyData.int) = true
    clear h1 z n
    induction l with
    | nil => rfl
    | cons i l ih => simp only [List.map_cons, PyData.canLayAll0, ih, PyData.canLay0, Bool.and_self]
  | .dic ks vs, v, n, h => by cases (show false = true from n)
  | .obj a, v, n, h => by cases (show false = true from n)
  | .glo x, v, n, h => by cases (show false = true from n)
theorem Reps.dp {K : PySem.W.Frag} {H : Hp} : ∀ (ds : List D) (vs : List V), nods ds = true → Reps K H ds vs → DpAll K H vs (toPys ds) ∧ PyData.canLayAll0 (toPys ds) = true
  | [], vs, n, h => by rw [show vs = [] from h]; exact ⟨.nil, rfl⟩
  | d :: ds, vs, n, h => by
    obtain ⟨v, r, rfl, h1, h2⟩ := h
    have n' : (nod d && nods ds) = true := n
    rw [Bool.and_eq_true] at n'
    obtain ⟨q1, q2⟩ := Rep.dp d v n'.1 h1
    obtain ⟨q3, q4⟩ := Reps.dp ds r n'.2 h2
    refine ⟨.cons q1 q3, ?_⟩
    show (PyData.canLay0 (toPy d) && PyData.canLayAll0 (toPys ds)) = true
    rw [q2, q4]; rfl
end
mutual
theorem dep_py : ∀ d : D, (toPy d).depth ≤ dep d
  | .non => by simp [toPy, PyData.depth, dep]
  | .bl b => by simp [toPy, PyData.depth, dep]
  | .int i => by simp [toPy, PyData.depth, dep]
  | .str x => by simp [toPy, PyData.depth, dep]
  | .tup l => by
    have := deps_py l
    simp only [toPy, PyData.depth, dep]; omega
  | .lst l => by
    have := deps_py l
    simp only [toPy, PyData.depth, dep]; omega
  | .scr l => by
    simp only [toPy, PyData.depth, dep]
    have : PyData.depthAll (l.map PyData.int) ≤ 1 := by
      induction l with
      | nil => simp [PyData.depthAll]
      | cons i l ih => simp only [List.map_cons, PyData.depthAll, PyData.depth]; omega
    omega
  | .dic _ _ => by simp [toPy, PyData.depth, dep]
  | .obj _ => by simp [toPy, PyData.depth, dep]
  | .glo _ => by simp [toPy, PyData.depth, dep]
theorem deps_py : ∀ ds : List D, PyData.depthAll (toPys ds) ≤ deps ds
  | [] => by simp [toPys, PyData.depthAll]
  | d :: ds => by
    have h1 := dep_py d
    have h2 := deps_py ds
    simp only [toPys, PyData.depthAll, deps]; omega
end
def eqP (d e : D) : Bool := PyData.eqv (toPy d) (toPy e)
def eqB (d e : D) : Option Bool := if nod d && nod e && decide (min (dep d) (dep e) ≤ 64) then some (eqP d e) else none
def neB (d e : D) : Option Bool := (eqB d e).map (!·)
section
variable {X : Cx} {T : Tb}
theorem op_eqB (hu : X.A.units + 65 < cLine) : OpR X (compareOp .Eq) (rDC X.K T eqB) := by
  intro pins s σ H x y v u Q I rx ry h
  obtain ⟨G, d, e, k, hG, ht, hd, he, hg, hq⟩ := h
  unfold eqB at hg
  split at hg
  · rename_i hc
    cases hg
    simp only [Bool.and_eq_true, decide_eq_true_eq] at hc
    obtain ⟨q1, q2⟩ := Rep.dp d x hc.1.1 (hd.rep hG)
    obtain ⟨q3, q4⟩ := Rep.dp e y hc.1.2 (he.rep hG)
    obtain ⟨as, r1⟩ := Dp.reads I _ x v q1 rx
    obtain ⟨bs, r2⟩ := Dp.reads I _ y u q3 ry
    have := dep_py d
    have := dep_py e
    exact SeqAt.compareEq_reads r1 r2 q2 q4 (by omega) ⟨.bl _, H, I, rfl, hq⟩
  · cases hg
theorem op_neB (hu : X.A.units + 65 < cLine) : OpR X (compareOp .NotEq) (rDC X.K T neB) := by
  intro pins s σ H x y v u Q I rx ry h
  obtain ⟨G, d, e, k, hG, ht, hd, he, hg, hq⟩ := h
  unfold neB eqB at hg
  split at hg
  · rename_i hc
    cases hg
    simp only [Bool.and_eq_true, decide_eq_true_eq] at hc
    obtain ⟨q1, q2⟩ := Rep.dp d x hc.1.1 (hd.rep hG)
    obtain ⟨q3, q4⟩ := Rep.dp e y hc.1.2 (he.rep hG)
    obtain ⟨as, r1⟩ := Dp.reads I _ x v q1 rx
    obtain ⟨bs, r2⟩ := Dp.reads I _ y u q3 ry
    have := dep_py d
    have := dep_py e
    exact SeqAt.compareNe_reads r1 r2 q2 q4 (by omega) ⟨.bl _, H, I, rfl, hq⟩
  · cases hg
/-! ### <, <=, >, >= -/
def bi (b : Bool) : Int := if b then 1 else 0
def ltB : D → D → Option Bool
  | .int i, .int j => some (decide (i < j))
  | _, _ => none
def leB : D → D → Option Bool
  | .int i, .int j => some (decide (i ≤ j))
  | .bl i, .bl j => some (!i || j)
  | _, _ => none
def gtB (a b : D) : Option Bool := ltB b a
def geB : D → D → Option Bool
  | .int i, .int j => some (decide (j ≤ i))
  | _, _ => none
theorem op_le_bl : OpR X (compareOp .LtE) (fun x y H Q => ∃ i j, x = .bl i ∧ y = .bl j ∧ Q (.bl (!i || j)) H) := by
  intro pins s σ H x y v u Q I rx ry h
  obtain ⟨i, j, rfl, rfl, q⟩ := h
  cases rx; cases ry
  refine le_bool ⟨.bl (!i || j), H, I, ?_, q⟩
  cases i <;> cases j <;> rfl
theorem op_ltB : OpR X (compareOp .Lt) (rDC X.K T ltB) := by
  refine opImp op_lt fun x y H Q h => ?_
  obtain ⟨G, d, e, k, hG, ht, hd, he, hg, hq⟩ := h
  cases d <;> cases e <;> simp only [ltB, Option.some.injEq, reduceCtorEq] at hg
  subst hg
  cases hd; cases he
  exact ⟨_, _, rfl, rfl, hq⟩
theorem op_leB : OpR X (compareOp .LtE) (rDC X.K T leB) := by
  refine opImp (OpR.or op_le op_le_bl) fun x y H Q h => ?_
  obtain ⟨G, d, e, k, hG, ht, hd, he, hg, hq⟩ := h
  cases d <;> cases e <;> simp only [leB, Option.some.injEq, reduceCtorEq] at hg
  · subst hg
    cases hd; cases he
    exact .inr ⟨_, _, rfl, rfl, hq⟩
  · subst hg
    cases hd; cases he
    exact .inl ⟨_, _, rfl, rfl, hq⟩
theorem op_gtB : OpR X (compareOp .Gt) (rDC X.K T gtB) := by
  refine opImp op_gt fun x y H Q h => ?_
  obtain ⟨G, d, e, k, hG, ht, hd, he, hg, hq⟩ := h
  cases d <;> cases e <;> simp only [gtB, ltB, Option.some.injEq, reduceCtorEq] at hg
  subst hg
  cases hd; cases he
  exact ⟨_, _, rfl, rfl, hq⟩
theorem op_geB : OpR X (compareOp .GtE) (rDC X.K T geB) := by
  refine opImp op_ge fun x y H Q h => ?_
  obtain ⟨G, d, e, k, hG, ht, hd, he, hg, hq⟩ := h
  cases d <;> cases e <;> simp only [geB, Option.some.injEq, reduceCtorEq] at hg
  subst hg
  cases hd; cases he
  exact ⟨_, _, rfl, rfl, hq⟩
/-! ### in -/
def keyIn (ks : List Key) (k : Key) : Bool := ks.any fun q => decide (q = k)
def hasP (x : D) (l : List D) : Bool := l.any fun z => eqP z x
def inB (x : D) : D → Option Bool
  | .tup l => if nod x && nods l && decide (min (deps l) (dep x) ≤ 63) then some (hasP x l) else none
  | .lst l => if nod x && nods l && decide (min (deps l) (dep x) ≤ 63) then some (hasP x l) else none
  | .str j => match x with
    | .str i => some (!(Builtin.Str.occurrences j i 0 j.length 1).isEmpty)
    | _ => none
  | .dic ks _ => match x with
    | .int i => some (keyIn ks (.inl i))
    | .str i => some (keyIn ks (.inr i))
    | _ => none
  | _ => none
def ninB (x y : D) : Option Bool := (inB x y).map (!·)
theorem any_py (x : D) : ∀ l : List D, (toPys l).any (fun z => PyData.eqv z (toPy x)) = hasP x l
  | [] => rfl
  | d :: l => by
    show (PyData.eqv (toPy d) (toPy x) || (toPys l).any _) = (eqP d x || hasP x l)
    rw [any_py x l]; rfl
/-- k in d -/
theorem keyIn_eq {kvs : List (Key × V)} {k : Key} : keyIn (kvs.map (·.1)) k = (valV kvs k).isSome := by
  rw [← valV_any]
  unfold keyIn
  rw [List.any_map]; rfl
theorem op_in_dic (hu : X.A.units + 65 < cLine) : OpR X (compareOp .In) (fun x y H Q => ∃ a kvs k, y = .ref a ∧ Rd H a (.dK kvs) ∧ x = kV k ∧ Q (.bl (keyIn (kvs.map (·.1)) k)) H) := by
  intro pins s σ H x y v u Q I rx ry h
  obtain ⟨a, kvs, k, rfl, ha, rfl, q⟩ := h
  cases ry
  exact d_in (by omega) I (.inl ⟨kvs, k, ha, rfl, rfl⟩) rx fun s' I' => ⟨.bl _, H, I', rfl, by rw [← keyIn_eq]; exact q⟩
theorem op_nin_dic (hu : X.A.units + 65 < cLine) : OpR X (compareOp .NotIn) (fun x y H Q => ∃ a kvs k, y = .ref a ∧ Rd H a (.dK kvs) ∧ x = kV k ∧ Q (.bl (!keyIn (kvs.map (·.1)) k)) H) := by
  intro pins s σ H x y v u Q I rx ry h
  obtain ⟨a, kvs, k, rfl, ha, rfl, q⟩ := h
  cases ry
  exact d_notIn (by omega) I (.inl ⟨kvs, k, ha, rfl, rfl⟩) rx fun s' I' => ⟨.bl _, H, I', rfl, by rw [← keyIn_eq]; exact q⟩
theorem readsA {H : Hp} {x : D} {l : List D} {v : V} {xs : List V} {pins : List (Addr × Obj)} {σ : L2.St} {s : Shared} {its : List Value} {u : Value} (I : Inv X pins σ H s) (hc : (nod x && nods l && decide (min (deps l) (dep x) ≤ 63)) = true) (hu : X.A.units + 65 < cLine)
    (hd : Rep X.K H x v) (hl : Reps X.K H l xs) (rv : RelV v u) (rs : Vals xs its) :
    (∀ w ∈ its.toArray, SeqAt.EqAt X.A.in1 s w u (PyData.eqv (SeqAt.readOf s.heap w) (toPy x))) ∧ its.toArray.any (fun w => PyData.eqv (SeqAt.readOf s.heap w) (toPy x)) = hasP x l := by
  simp only [Bool.and_eq_true, decide_eq_true_eq] at hc
  obtain ⟨q1, q2⟩ := Rep.dp x v hc.1.1 hd
  obtain ⟨q3, q4⟩ := Reps.dp l xs hc.1.2 hl
  obtain ⟨as, r1⟩ := Dp.reads I _ v u q1 rv
  obtain ⟨bs, r2⟩ := Dp.readsAll I _ xs its q3 rs
  have h1 := dep_py x
  have h2 := deps_py l
  have hmap : its.map (SeqAt.readOf s.heap) = toPys l := SeqAt.readsAll_map _ its bs q4 r2
  refine ⟨SeqAt.items_eqAt (vs := its.toArray) (show ReadsAll s.heap its.toArray.toList (toPys l) bs from r2) r1 q4 q2 ?_, ?_⟩
  · show X.A.units + 1 + min (PyData.depthAll (toPys l)) (toPy x).depth < cLine
    omega
  · rw [show its.toArray.any (fun w => PyData.eqv (SeqAt.readOf s.heap w) (toPy x)) = its.any (fun w => PyData.eqv (SeqAt.readOf s.heap w) (toPy x)) by simp, ← any_py, ← hmap, List.any_map]; rfl
theorem op_inB (hu : X.A.units + 65 < cLine) : OpR X (compareOp .In) (rDC X.K T inB) := by
  intro pins s σ H x y v u Q I rx ry h
  obtain ⟨G, d, e, k, hG, ht, hd, he, hg, hq⟩ := h
  cases e with
  | tup l =>
    simp only [inB] at hg
    split at hg
    · rename_i hc
      cases hg
      obtain ⟨z, a, xs, rfl, ha, ra⟩ := RepB.rep hG he
      cases ry
      obtain ⟨its, rs, pl, _⟩ := I.tuple ha
      obtain ⟨q1, q2⟩ := readsA I hc hu (hd.rep hG) ra rx rs
      refine SeqAt.in_tupleAt _ pl q1 ⟨.bl _, H, I, rfl, ?_⟩
      rw [q2]; exact hq
    · cases hg
  | lst l =>
    simp only [inB] at hg
    split at hg
    · rename_i hc
      cases hg
      obtain ⟨z, a, xs, rfl, ha, ra⟩ := RepB.rep hG he
      cases ry
      obtain ⟨its, rs, pl, _⟩ := I.list (SqL.of ha)
      obtain ⟨q1, q2⟩ := readsA I hc hu (hd.rep hG) ra rx rs
      refine SeqAt.in_listAt _ pl.isList q1 ⟨.bl _, H, I, rfl, ?_⟩
      rw [q2]; exact hq
    · cases hg
  | str j =>
    cases d <;> simp only [inB, Option.some.injEq, reduceCtorEq] at hg
    subst hg
    obtain ⟨_, _, rfl⟩ := hd
    obtain ⟨_, _, rfl⟩ := he
    exact op_in_str pins s σ H _ _ v u Q I rx ry ⟨_, _, rfl, rfl, hq⟩
  | dic ks vs =>
    obtain ⟨a, kvs, rfl, ha, rfl, _⟩ := he
    cases d <;> simp only [inB, Option.some.injEq, reduceCtorEq] at hg
    · subst hg
      cases hd
      exact op_in_dic hu pins s σ H _ _ v u Q I rx ry ⟨a, kvs, .inl _, rfl, ha, rfl, hq⟩
    · subst hg
      obtain ⟨_, _, rfl⟩ := hd
      exact op_in_dic hu pins s σ H _ _ v u Q I rx ry ⟨a, kvs, .inr _, rfl, ha, rfl, hq⟩
  | _ => simp only [inB, reduceCtorEq] at hg
theorem op_ninB (hu : X.A.units + 65 < cLine) : OpR X (compareOp .NotIn) (rDC X.K T ninB) := by
  intro pins s σ H x y v u Q I rx ry h
  obtain ⟨G, d, e, k, hG, ht, hd, he, hg, hq⟩ := h
  unfold ninB at hg
  cases e with
  | tup l =>
    simp only [inB] at hg
    split at hg
    · rename_i hc
      cases hg
      obtain ⟨z, a, xs, rfl, ha, ra⟩ := RepB.rep hG he
      cases ry
      obtain ⟨its, rs, pl, _⟩ := I.tuple ha
      obtain ⟨q1, q2⟩ := readsA I hc hu (hd.rep hG) ra rx rs
      refine SeqAt.notIn_tupleAt _ pl q1 ⟨.bl _, H, I, rfl, ?_⟩
      rw [q2]; exact hq
    · cases hg
  | lst l =>
    simp only [inB] at hg
    split at hg
    · rename_i hc
      cases hg
      obtain ⟨z, a, xs, rfl, ha, ra⟩ := RepB.rep hG he
      cases ry
      obtain ⟨its, rs, pl, _⟩ := I.list (SqL.of ha)
      obtain ⟨q1, q2⟩ := readsA I hc hu (hd.rep hG) ra rx rs
      refine SeqAt.notIn_listAt _ pl.isList q1 ⟨.bl _, H, I, rfl, ?_⟩
      rw [q2]; exact hq
    · cases hg
  | str j =>
    cases d <;> simp only [inB, Option.map_some, Option.map_none, Option.some.injEq, reduceCtorEq] at hg
    subst hg
    obtain ⟨_, _, rfl⟩ := hd
    obtain ⟨_, _, rfl⟩ := he
    exact op_notIn_str pins s σ H _ _ v u Q I rx ry ⟨_, _, rfl, rfl, hq⟩
  | dic ks vs =>
    obtain ⟨a, kvs, rfl, ha, rfl, _⟩ := he
    cases d <;> simp only [inB, Option.map_some, Option.map_none, Option.some.injEq, reduceCtorEq] at hg
    · subst hg
      cases hd
      exact op_nin_dic hu pins s σ H _ _ v u Q I rx ry ⟨a, kvs, .inl _, rfl, ha, rfl, hq⟩
    · subst hg
      obtain ⟨_, _, rfl⟩ := hd
      exact op_nin_dic hu pins s σ H _ _ v u Q I rx ry ⟨a, kvs, .inr _, rfl, ha, rfl, hq⟩
  | _ => simp only [inB, Option.map_none, reduceCtorEq] at hg
/-! ### is -/
def isB : D → D → Option Bool
  | .non, .non => some true
  | .bl a, .bl b => some (decide (a = b))
  | .non, .bl _ => some false
  | .bl _, .non => some false
  | .int _, .non => some false
  | .str _, .non => some false
  | .tup _, .non => some false
  | .lst _, .non => some false
  | .dic _ _, .non => some false
  | _, _ => none
def isntB (x y : D) : Option Bool := (isB x y).map (!·)
end
inductive Cop where | eq | ne | lt | le | gt | ge | inn | nin
  deriving DecidableEq
def Cop.op : Cop → CmpOp
  | .eq => .Eq | .ne => .NotEq | .lt => .Lt | .le => .LtE | .gt => .Gt | .ge => .GtE | .inn => .In | .nin => .NotIn
def cmpB : Cop → D → D → Option Bool
  | .eq => eqB | .ne => neB | .lt => ltB | .le => leB | .gt => gtB | .ge => geB | .inn => inB | .nin => ninB
theorem op_cmpB {X : Cx} {T : Tb} (hu : X.A.units + 65 < cLine) (o : Cop) : OpR X (compareOp o.op) (rDC X.K T (cmpB o)) := by
  cases o
  · exact op_eqB hu
  · exact op_neB hu
  · exact op_ltB
  · exact op_leB
  · exact op_gtB
  · exact op_geB
  · exact op_inB hu
  · exact op_ninB hu
end Py
end
section
set_option maxHeartbeats 1000000
namespace Py
open PySem PySem.Spec PyProof.Rows L2 LamX

/-! ### items, slices -/
theorem Reps.atI {K : PySem.W.Frag} {H : Hp} {l : List D} {xs : List V} {i : Int} {d : D} (r : Reps K H l xs) (e : L2.atI l i = some d) : ∃ v, L2.atI xs i = some v ∧ Rep K H d v := by
  unfold L2.atI at e ⊢
  rw [r.length]
  cases q : ixN l.length i with
  | none => rw [q] at e; cases e
  | some j => rw [q] at e; exact r.get e
def keyOfD : D → Option Key
  | .int i => some (.inl i)
  | .str x => some (.inr x)
  | _ => none
def lookD : List Key → List D → Key → Option D
  | k :: ks, d :: ds, q => if k = q then some d else lookD ks ds q
  | _, _, _ => none
def ixD : D → D → Option D
  | .tup l, .int i => L2.atI l i
  | .lst l, .int i => L2.atI l i
  | .scr l, .int i => (L2.atI l i).map D.int
  | .str z, .int i => (L2.atI z.cps.toList i).bind fun c => if c < 1114112 then some (.str ⟨#[c]⟩) else none
  | .dic ks vs, k => (keyOfD k).bind fun q => lookD ks vs q
  | _, _ => none
def keyV : Key → V := kV
theorem keyOfD_rep {K : PySem.W.Frag} {G H : Hp} {d : D} {k : Key} {v : V} (e : keyOfD d = some k) (h : RepB K G H d v) : v = kV k := by
  cases d <;> simp only [keyOfD, Option.some.injEq, reduceCtorEq] at e
  · subst e; exact h
  · subst e; exact h.2.2
theorem lookD_rep {K : PySem.W.Frag} {H : Hp} {k : Key} {d : D} : ∀ {kvs : List (Key × V)} {vs : List D}, Reps K H vs (kvs.map (·.2)) → lookD (kvs.map (·.1)) vs k = some d → ∃ v, valV kvs k = some v ∧ Rep K H d v
  | [], vs, r, e => by simp [lookD] at e
  | (q, v) :: kvs, [], r, e => by simp [lookD] at e
  | (q, v) :: kvs, d0 :: ds, r, e => by
    obtain ⟨v0, r0, e0, h1, h2⟩ := r
    injection e0 with e1 e2
    subst e1 e2
    simp only [List.map_cons, lookD] at e
    by_cases h : q = k
    · rw [if_pos h] at e
      cases e
      exact ⟨v, valV_pos h, h1⟩
    · rw [if_neg h] at e
      obtain ⟨u, a, b⟩ := lookD_rep h2 e
      exact ⟨u, (valV_neg h).trans a, b⟩
section
variable {X : Cx} {T : Tb}
theorem ix_dic (hu : X.A.units + 65 < cLine) : IxR X (fun x y H Q => ∃ a kvs k v, x = .ref a ∧ Rd H a (.dK kvs) ∧ y = kV k ∧ valV kvs k = some v ∧ Q v H) := by
  intro value slice pins s σ H x y v u Q I rx ry h hs
  obtain ⟨a, kvs, k, w', rfl, ha, rfl, hv, q⟩ := h
  cases rx
  have g : DGet H a (kV k) (some w') := by rw [← hv]; exact .inl ⟨kvs, k, ha, rfl, rfl⟩
  exact tail_any (dict_typeIs I g) PySem.F.slot_dict_getitem.lookup (d_getItem (by omega) I g ry fun w2 s' I' r => ⟨w', H, I', r, q⟩) hs
theorem atI_map {α β : Type} (f : α → β) (l : List α) (i : Int) : L2.atI (l.map f) i = (L2.atI l i).map f := by
  unfold L2.atI
  rw [List.length_map]
  cases ixN l.length i with
  | none => rfl
  | some j => simp
theorem ix_D (hu : X.A.units + 65 < cLine) : IxR X (rD2 X.K T .sh ixD) := by
  have h := (ix_dic hu).or (ix_seq (X := X))
  intro value slice pins s σ H x y v u Q I rx ry hr hs
  refine h value slice pins s σ H x y v u Q I rx ry ?_ hs
  obtain ⟨Z, d, e, r, hz, ht, hd, he, hg, hq⟩ := hr
  cases d with
  | tup l =>
    cases e <;> simp only [ixD, reduceCtorEq] at hg
    cases he
    obtain ⟨z, a, xs, rfl, ha, ra⟩ := hd
    obtain ⟨v', e1, e2⟩ := ra.atI hg
    exact .inr (.inr (.inl ⟨a, xs, _, v', rfl, rfl, SqT.ext exUnhide ha, e1, hq _ H (Ext.refl ht) e2⟩))
  | lst l =>
    cases e <;> simp only [ixD, reduceCtorEq] at hg
    cases he
    obtain ⟨a, rfl, z, xs, ha, ra⟩ := hd
    obtain ⟨v', e1, e2⟩ := ra.atI hg
    exact .inr (.inl ⟨a, xs, _, v', rfl, rfl, SqL.of ha, e1, hq _ H (Ext.refl ht) e2⟩)
  | scr l =>
    cases e <;> simp only [ixD, reduceCtorEq] at hg
    cases he
    obtain ⟨z, a, rfl, ha⟩ := hd
    rename_i i
    cases q : L2.atI l i with
    | none => rw [q] at hg; cases hg
    | some n =>
      rw [q] at hg
      cases hg
      exact .inr (.inl ⟨a, _, i, .int n, rfl, rfl, SqL.ext exUnhide ha, by rw [atI_map, q]; rfl, hq _ H (Ext.refl ht) rfl⟩)
  | str z =>
    cases e <;> simp only [ixD, reduceCtorEq] at hg
    cases he
    obtain ⟨h1, h2, rfl⟩ := hd
    rename_i i
    cases q : L2.atI z.cps.toList i with
    | none => rw [q] at hg; cases hg
    | some n =>
      rw [q] at hg
      simp only [Option.bind_some] at hg
      split at hg
      · rename_i hc
        cases hg
        exact .inr (.inr (.inr ⟨z, i, n, rfl, rfl, h2, q, hq _ H (Ext.refl ht) ⟨by simp [PyData.strOk, hc], by rw [lim_eq]; exact (by decide : 1 ≤ lim), rfl⟩⟩))
      · cases hg
  | dic ks vs =>
    obtain ⟨a, kvs, rfl, ha, rfl, rv⟩ := hd
    simp only [ixD] at hg
    cases q : keyOfD e with
    | none => rw [q] at hg; cases hg
    | some k =>
      rw [q] at hg
      obtain ⟨w', e1, e2⟩ := lookD_rep rv hg
      exact .inl ⟨a, kvs, k, w', rfl, ha, keyOfD_rep q he, e1, hq _ H (Ext.refl ht) e2⟩
  | _ => simp only [ixD, reduceCtorEq] at hg
/-! ### slices -/
def sIxD (n d : Nat) : Option D → Option Nat
  | none => some d
  | some (.int v) => some (if v < 0 then (v + (n : Int)).toNat else min v.toNat n)
  | _ => none
def cutD {α : Type} (l : List α) (lo hi : Nat) : List α := (l.drop lo).take (hi - lo)
def slD (x : D) (lo hi : Option Int) : Option D := match x with
  | .tup l => some (.tup (cutD l (HT.sIx l.length 0 lo) (HT.sIx l.length l.length hi)))
  | .lst l => some (.lst (cutD l (HT.sIx l.length 0 lo) (HT.sIx l.length l.length hi)))
  | .str z => some (.str (cutS z lo hi))
  | _ => none
def rDS (K : PySem.W.Frag) (T : Tb) (m : Md) (g : D → Option Int → Option Int → Option D) : V → Option Int → Option Int → Hp → VK → Prop := fun x lo hi H Q => ∃ (Z : Addr → Bool) (d r : D), (∀ a, Z a = true → ¬ FreshAt H a) ∧ Tabs T H ∧ RepB K (hide H Z) H d x ∧ g d lo hi = some r ∧
  ∀ v H', Ext T H H' → RepV K Z H H' m r v → Q v H'
theorem cutD_len {α : Type} (l : List α) (lo hi : Nat) : (cutD l lo hi).length ≤ l.length := by
  unfold cutD
  rw [List.length_take, List.length_drop]; omega
theorem cutS_len (z : Str) (lo hi : Option Int) : (cutS z lo hi).length ≤ z.length := by
  unfold cutS Str.length
  simp only [List.size_toArray, List.length_take, List.length_drop, Array.length_toList]
  omega
theorem cutS_ok {z : Str} (lo hi : Option Int) (h : PyData.strOk z = true) : PyData.strOk (cutS z lo hi) = true := by
  unfold PyData.strOk at h ⊢
  rw [Array.all_eq_true_iff_forall_mem] at h ⊢
  intro c hc
  refine h c ?_
  unfold cutS at hc
  have hc' : c ∈ (z.cps.toList.drop (HT.sIx z.length 0 lo)).take (HT.sIx z.length z.length hi - HT.sIx z.length 0 lo) := by simpa using hc
  have := List.mem_of_mem_drop (List.mem_of_mem_take hc')
  simpa using this
theorem sl_D : SlR X (rDS X.K T .sh slD) := by
  have h := SlR.or (sl_list (X := X)) (SlR.or (sl_tupA (X := X)) (sl_str (X := X)))
  intro pins s σ H x v vl vu lo hi sl Q I rx hs pl pu hr
  refine h pins s σ H x v vl vu lo hi sl Q I rx hs pl pu ?_
  obtain ⟨Z, d, r, hz, ht, hd, hg, hq⟩ := hr
  cases d <;> simp only [slD, Option.some.injEq, reduceCtorEq] at hg
  · subst hg
    obtain ⟨h1, h2, rfl⟩ := hd
    exact .inr (.inr ⟨_, rfl, h2, hq _ H (Ext.refl ht) ⟨cutS_ok lo hi h1, Nat.le_trans (cutS_len _ _ _) h2, rfl⟩⟩)
  · subst hg
    rename_i l
    obtain ⟨z, a, xs, rfl, ha, ra⟩ := hd
    have hl := ra.length
    refine .inr (.inl ⟨a, xs, rfl, SqT.ext exUnhide ha, fun hw => ?_, fun hw p np => ?_⟩)
    · rw [hl] at hw
      refine hq _ H (Ext.refl ht) ?_
      have e : cutD l (HT.sIx l.length 0 lo) (HT.sIx l.length l.length hi) = l := by
        unfold cutD
        rw [hw.1, hw.2, List.drop_zero, Nat.sub_zero, List.take_length]
      rw [e]
      exact ⟨z, a, xs, rfl, ha, ra⟩
    · refine hq _ _ (ext_new ht np) (rep_tup ht hz np (Nat.le_trans (cutD_len _ _ _) z) ?_)
      unfold cutV cutD
      rw [hl]
      exact (ra.drop _).take _
  · subst hg
    rename_i l
    obtain ⟨a, rfl, z, xs, ha, ra⟩ := hd
    have hl := ra.length
    refine .inl ⟨a, xs, rfl, SqL.of ha, fun p np => ?_⟩
    refine hq _ _ (ext_new ht np) (rep_lst ht hz np (Nat.le_trans (cutD_len _ _ _) z) ?_)
    unfold cutV cutD
    rw [hl]
    exact (ra.drop _).take _

/-! ### truth -/
def truD : D → Option Bool
  | .non => some false
  | .bl b => some b
  | .int i => some (i != 0)
  | .str z => some ((z.length : Int) != 0)
  | .tup l => some (!l.isEmpty)
  | .lst l => some (!l.isEmpty)
  | .scr l => some (!l.isEmpty)
  | _ => none
theorem emp {α β : Type} {l : List α} {xs : List β} (h : xs.length = l.length) : (!l.isEmpty) = !xs.isEmpty := by
  cases l <;> cases xs <;> simp at h ⊢
theorem truV_of {K : PySem.W.Frag} {G H : Hp} {d : D} {v : V} {k : Bool} (hG : ExtN G H) (h : RepB K G H d v) (e : truD d = some k) : TruV K v H k := by
  cases d <;> simp only [truD, Option.some.injEq, reduceCtorEq] at e <;> subst e
  · cases h; rfl
  · cases h; rfl
  · cases h; rfl
  · obtain ⟨h1, h2, rfl⟩ := h
    exact ⟨h2, rfl⟩
  · obtain ⟨z, a, xs, rfl, ha, ra⟩ := h
    exact .inr (.inl ⟨xs, SqT.ext hG ha, emp ra.length⟩)
  · obtain ⟨a, rfl, z, xs, ha, ra⟩ := h
    exact .inl ⟨xs, SqL.of ha, emp ra.length⟩
  · obtain ⟨z, a, rfl, ha⟩ := h
    exact .inl ⟨_, SqL.ext hG ha, emp (by simp)⟩
/-! ### built-ins -/
def asInts : List D → Option (List Int)
  | [] => some []
  | .int i :: r => (asInts r).map (i :: ·)
  | _ => none
def asBls : List D → Option (List Bool)
  | [] => some []
  | .bl i :: r => (asBls r).map (i :: ·)
  | _ => none
theorem asInts_rep {K : PySem.W.Frag} {H : Hp} : ∀ {l : List D} {ns : List Int} {xs : List V}, asInts l = some ns → Reps K H l xs → xs = ns.map V.int ∧ l = ns.map D.int
  | [], ns, xs, e, r => by cases e; exact ⟨r, rfl⟩
  | d :: l, ns, xs, e, r => by
    cases d <;> simp only [asInts, reduceCtorEq] at e
    rename_i i
    obtain ⟨v, r', rfl, h1, h2⟩ := r
    cases q : asInts l with
    | none => rw [q] at e; cases e
    | some ms =>
      rw [q] at e; cases e
      obtain ⟨e1, e2⟩ := asInts_rep q h2
      cases h1
      exact ⟨by rw [e1]; rfl, by rw [e2]; rfl⟩
theorem asBls_rep {K : PySem.W.Frag} {H : Hp} : ∀ {l : List D} {ns : List Bool} {xs : List V}, asBls l = some ns → Reps K H l xs → xs = ns.map V.bl
  | [], ns, xs, e, r => by cases e; exact r
  | d :: l, ns, xs, e, r => by
    cases d <;> simp only [asBls, reduceCtorEq] at e
    rename_i i
    obtain ⟨v, r', rfl, h1, h2⟩ := r
    cases q : asBls l with
    | none => rw [q] at e; cases e
    | some ms =>
      rw [q] at e; cases e
      cases h1
      rw [asBls_rep q h2]; rfl
theorem repBs1 {K : PySem.W.Frag} {G H : Hp} {d : D} {xs : List V} (h : RepBs K G H [d] xs) : ∃ v, xs = [v] ∧ RepB K G H d v := by
  obtain ⟨v, r, rfl, h1, h2⟩ := h
  cases h2
  exact ⟨v, rfl, h1⟩
theorem repBs2 {K : PySem.W.Frag} {G H : Hp} {d e : D} {xs : List V} (h : RepBs K G H [d, e] xs) : ∃ v u, xs = [v, u] ∧ RepB K G H d v ∧ RepB K G H e u := by
  obtain ⟨v, r, rfl, h1, h2⟩ := h
  obtain ⟨u, rfl, h3⟩ := repBs1 h2
  exact ⟨v, u, rfl, h1, h3⟩
def lenD : List D → Option D
  | [.tup l] => some (.int l.length)
  | [.lst l] => some (.int l.length)
  | [.scr l] => some (.int l.length)
  | [.str z] => some (.int z.length)
  | [.dic ks _] => some (.int ks.length)
  | _ => none
theorem call_lenDic : CallR X (.builtin "len") (fun xs H Q => ∃ a kvs, xs = [.ref a] ∧ Rd H a (.dK kvs) ∧ Q (.int kvs.length) H) := by
  intro pins s σ H xs us Q I r h
  obtain ⟨a, kvs, rfl, ha, q⟩ := h
  obtain ⟨u, rfl, rx⟩ := vals1 r
  cases rx
  exact d_len I ha fun t s' I' => ⟨.int kvs.length, H, I', ⟨t, rfl⟩, q⟩
theorem CallR.or' {f : Value} {r r' : List V → Hp → VK → Prop} (h : CallR X f r) (h' : CallR X f r') : CallR X f (fun xs H Q => r xs H Q ∨ r' xs H Q) := by
  intro pins s σ H xs us Q I rx q
  rcases q with q | q
  · exact h pins s σ H xs us Q I rx q
  · exact h' pins s σ H xs us Q I rx q
theorem cr_len : CallR X (.builtin "len") (rDL X.K T .sh lenD) := by
  refine callImp (CallR.or' call_len_seq (CallR.or' call_len_str call_lenDic)) fun xs H Q h => ?_
  obtain ⟨Z, ds, r, hz, ht, hd, hg, hq⟩ := h
  match ds, hd, hg with
  | [d], hd, hg =>
    obtain ⟨v, rfl, h1⟩ := repBs1 hd
    cases d <;> simp only [lenD, Option.some.injEq, reduceCtorEq] at hg <;> subst hg
    · obtain ⟨q1, q2, rfl⟩ := h1
      exact .inr (.inl ⟨_, rfl, q2, hq _ H (Ext.refl ht) rfl⟩)
    · obtain ⟨z, a, xs, rfl, ha, ra⟩ := h1
      exact .inl ⟨a, xs, rfl, .inr (SqT.ext exUnhide ha), by rw [ra.length]; exact hq _ H (Ext.refl ht) rfl⟩
    · obtain ⟨a, rfl, z, xs, ha, ra⟩ := h1
      exact .inl ⟨a, xs, rfl, .inl (SqL.of ha), by rw [ra.length]; exact hq _ H (Ext.refl ht) rfl⟩
    · obtain ⟨a, kvs, rfl, ha, rfl, rv⟩ := h1
      refine .inr (.inr ⟨a, kvs, rfl, ha, ?_⟩)
      have := hq _ H (Ext.refl ht) rfl
      simpa using this
    · obtain ⟨z, a, rfl, ha⟩ := h1
      exact .inl ⟨a, _, rfl, .inl (SqL.ext exUnhide ha), by rw [List.length_map]; exact hq _ H (Ext.refl ht) rfl⟩
  | [], hd, hg => cases hg
  | _ :: _ :: _, hd, hg => simp [lenD] at hg
def intD : List D → Option D
  | [.int i] => some (.int i)
  | [.bl b] => some (.int (if b then 1 else 0))
  | _ => none
theorem cr_int : CallR X (.type "int") (rDL X.K T .sh intD) := by
  refine callImp call_int1 fun xs H Q h => ?_
  obtain ⟨Z, ds, r, hz, ht, hd, hg, hq⟩ := h
  match ds, hd, hg with
  | [d], hd, hg =>
    obtain ⟨v, rfl, h1⟩ := repBs1 hd
    cases d <;> simp only [intD, Option.some.injEq, reduceCtorEq] at hg <;> subst hg
    · cases h1
      exact .inr ⟨_, rfl, hq _ H (Ext.refl ht) rfl⟩
    · cases h1
      exact .inl ⟨_, rfl, hq _ H (Ext.refl ht) rfl⟩
  | [], hd, hg => cases hg
  | _ :: _ :: _, hd, hg => simp [intD] at hg
def absD : List D → Option D
  | [.int i] => some (.int (if i < 0 then -i else i))
  | _ => none
theorem cr_abs : CallR X (.builtin "abs") (rDL X.K T .sh absD) := by
  refine callImp call_abs fun xs H Q h => ?_
  obtain ⟨Z, ds, r, hz, ht, hd, hg, hq⟩ := h
  match ds, hd, hg with
  | [d], hd, hg =>
    obtain ⟨v, rfl, h1⟩ := repBs1 hd
    cases d <;> simp only [absD, Option.some.injEq, reduceCtorEq] at hg <;> subst hg
    cases h1
    exact ⟨_, rfl, hq _ H (Ext.refl ht) rfl⟩
  | [], hd, hg => cases hg
  | _ :: _ :: _, hd, hg => simp [absD] at hg
def sumD : List D → Option D
  | [.lst l] => (asInts l).map fun ns => .int ns.sum
  | _ => none
theorem cr_sumD (hc : X.calm = true) : CallR X (.builtin "sum") (rDL X.K T .sh sumD) := by
  refine callImp (cr_sum hc) fun xs H Q h => ?_
  obtain ⟨Z, ds, r, hz, ht, hd, hg, hq⟩ := h
  match ds, hd, hg with
  | [d], hd, hg =>
    obtain ⟨v, rfl, h1⟩ := repBs1 hd
    cases d <;> simp only [sumD, Option.some.injEq, reduceCtorEq] at hg
    rename_i l
    cases q : asInts l with
    | none => rw [q] at hg; cases hg
    | some ns =>
      rw [q] at hg; cases hg
      obtain ⟨a, rfl, z, xs, ha, ra⟩ := h1
      obtain ⟨e1, _⟩ := asInts_rep q ra
      subst e1
      exact ⟨a, ns, rfl, SqL.of ha, hq _ H (Ext.refl ht) rfl⟩
  | [], hd, hg => cases hg
  | _ :: _ :: _, hd, hg => simp [sumD] at hg
def allD : List D → Option D
  | [.lst l] => (asBls l).map fun bs => .bl (bs.all id)
  | _ => none
def anyD : List D → Option D
  | [.lst l] => (asBls l).map fun bs => .bl (bs.any id)
  | _ => none
theorem cr_allD (hc : X.calm = true) : CallR X (.builtin "all") (rDL X.K T .sh allD) := by
  refine callImp (cr_all hc) fun xs H Q h => ?_
  obtain ⟨Z, ds, r, hz, ht, hd, hg, hq⟩ := h
  match ds, hd, hg with
  | [d], hd, hg =>
    obtain ⟨v, rfl, h1⟩ := repBs1 hd
    cases d <;> simp only [allD, Option.some.injEq, reduceCtorEq] at hg
    rename_i l
    cases q : asBls l with
    | none => rw [q] at hg; cases hg
    | some ns =>
      rw [q] at hg; cases hg
      obtain ⟨a, rfl, z, xs, ha, ra⟩ := h1
      have e1 := asBls_rep q ra
      subst e1
      exact ⟨a, ns, rfl, SqL.of ha, hq _ H (Ext.refl ht) rfl⟩
  | [], hd, hg => cases hg
  | _ :: _ :: _, hd, hg => simp [allD] at hg
theorem cr_anyD (hc : X.calm = true) : CallR X (.builtin "any") (rDL X.K T .sh anyD) := by
  refine callImp (cr_any hc) fun xs H Q h => ?_
  obtain ⟨Z, ds, r, hz, ht, hd, hg, hq⟩ := h
  match ds, hd, hg with
  | [d], hd, hg =>
    obtain ⟨v, rfl, h1⟩ := repBs1 hd
    cases d <;> simp only [anyD, Option.some.injEq, reduceCtorEq] at hg
    rename_i l
    cases q : asBls l with
    | none => rw [q] at hg; cases hg
    | some ns =>
      rw [q] at hg; cases hg
      obtain ⟨a, rfl, z, xs, ha, ra⟩ := h1
      have e1 := asBls_rep q ra
      subst e1
      exact ⟨a, ns, rfl, SqL.of ha, hq _ H (Ext.refl ht) rfl⟩
  | [], hd, hg => cases hg
  | _ :: _ :: _, hd, hg => simp [anyD] at hg
/-! max, min -/
def maxI : List Int → Option Int
  | [] => none
  | n :: ns => some (ns.foldl max n)
theorem foldl_max_mem : ∀ (ns : List Int) (n : Int), ns.foldl max n ∈ n :: ns ∧ ∀ y ∈ n :: ns, y ≤ ns.foldl max n
  | [], n => by simp
  | m :: ns, n => by
    obtain ⟨h1, h2⟩ := foldl_max_mem ns (max n m)
    rw [List.foldl_cons]
    refine ⟨?_, fun y hy => ?_⟩
    · rcases List.mem_cons.mp h1 with h | h
      · rw [h]
        by_cases e : n ≤ m
        · rw [Int.max_eq_right e]; exact List.mem_cons_of_mem _ List.mem_cons_self
        · rw [Int.max_eq_left (by omega)]; exact List.mem_cons_self
      · exact List.mem_cons_of_mem _ (List.mem_cons_of_mem _ h)
    · have h3 := h2 (max n m) List.mem_cons_self
      rcases List.mem_cons.mp hy with rfl | hy
      · exact Int.le_trans (Int.le_max_left _ _) h3
      · rcases List.mem_cons.mp hy with rfl | hy
        · exact Int.le_trans (Int.le_max_right _ _) h3
        · exact h2 y (List.mem_cons_of_mem _ hy)
theorem maxI_of {ns : List Int} {m k : Int} (e : maxI ns = some k) (h1 : m ∈ ns) (h2 : ∀ y ∈ ns, y ≤ m) : m = k := by
  cases ns with
  | nil => cases e
  | cons n ns =>
    cases e
    obtain ⟨q1, q2⟩ := foldl_max_mem ns n
    exact Int.le_antisymm (q2 m h1) (h2 _ q1)
def maxD' : List D → Option D
  | [.lst l] => (asInts l).bind fun ns => (maxI ns).map D.int
  | [.tup l] => (asInts l).bind fun ns => (maxI ns).map D.int
  | [.int i, .int j] => some (.int (if j > i then j else i))
  | _ => none
theorem readsInts {h : Heap} : ∀ {ns : List Int} {its : List Value}, Vals (ns.map V.int) its → ∃ as, ReadsAll h its (ns.map PyData.int) as
  | [], its, r => by cases r; exact ⟨[], .nil⟩
  | n :: ns, its, r => by
    cases r with
    | cons r1 r2 =>
      obtain ⟨t, rfl⟩ := r1
      obtain ⟨as, q⟩ := readsInts (h := h) r2
      exact ⟨_, .cons (.int n t) q⟩
theorem call_maxT (hc : X.calm = true) (hu : X.A.units + 65 < cLine) : CallR X (.builtin "max") (fun xs H Q => ∃ a n ns, xs = [.ref a] ∧ SqT X.K H a ((n :: ns).map V.int) ∧ Q (.int (ns.foldl max n)) H) := by
  intro pins s σ H xs us Q I r h
  obtain ⟨a, n, ns, rfl, ha, q⟩ := h
  obtain ⟨u, rfl, rx⟩ := vals1 r
  cases rx
  obtain ⟨its, rv, pl, hz⟩ := I.tuple ha
  obtain ⟨as, hr⟩ := readsInts (h := s.heap) (ns := n :: ns) rv
  refine PySem.W.max_tuple_data (vs := its.toArray) (x := .int n) (xs := ns.map .int) (I.ok.hd hc) pl hr ⟨?_, ?_⟩ ?_ fun i v h' tk bs hv hrd hk => ?_
  · intro x hx y hy
    have hx' : x ∈ (n :: ns).map PyData.int := hx
    have hy' : y ∈ (n :: ns).map PyData.int := hy
    obtain ⟨i, _, rfl⟩ := List.mem_map.mp hx'
    obtain ⟨j, _, rfl⟩ := List.mem_map.mp hy'
    rfl
  · intro x hx
    have hx' : x ∈ (n :: ns).map PyData.int := hx
    obtain ⟨i, _, rfl⟩ := List.mem_map.mp hx'
    intro e; cases e
  · have : PyData.depthAll (PyData.int n :: ns.map PyData.int) = 0 := PySem.W.depth_ints (n :: ns)
    rw [this]; omega
  · rw [PySem.W.maxD_ints] at hrd
    cases hrd
    rename_i t
    exact ⟨.int _, H, I.kept hk, ⟨t, rfl⟩, q⟩
theorem cr_maxD (hc : X.calm = true) (hu : X.A.units + 65 < cLine) : CallR X (.builtin "max") (rDL X.K T .sh maxD') := by
  refine callImp (CallR.or' (cr_max hc) (CallR.or' (call_maxT hc hu) (call_max2 hc))) fun xs H Q h => ?_
  obtain ⟨Z, ds, r, hz, ht, hd, hg, hq⟩ := h
  match ds, hd, hg with
  | [d], hd, hg =>
    obtain ⟨v, rfl, h1⟩ := repBs1 hd
    cases d <;> simp only [maxD', reduceCtorEq] at hg
    · rename_i l
      cases q : asInts l with
      | none => rw [q] at hg; cases hg
      | some ns =>
        rw [q] at hg
        obtain ⟨z, a, xs, rfl, ha, ra⟩ := h1
        obtain ⟨e1, _⟩ := asInts_rep q ra
        subst e1
        cases ns with
        | nil => cases hg
        | cons n ns =>
          cases hg
          exact .inr (.inl ⟨a, n, ns, rfl, SqT.ext exUnhide ha, hq _ H (Ext.refl ht) rfl⟩)
    · rename_i l
      cases q : asInts l with
      | none => rw [q] at hg; cases hg
      | some ns =>
        rw [q] at hg
        obtain ⟨a, rfl, z, xs, ha, ra⟩ := h1
        obtain ⟨e1, _⟩ := asInts_rep q ra
        subst e1
        simp only [Option.bind_some] at hg
        cases e : maxI ns with
        | none => rw [e] at hg; cases hg
        | some k =>
          rw [e] at hg; cases hg
          refine .inl ⟨a, ns, rfl, SqL.of ha, ?_, fun m h1 h2 => ?_⟩
          · cases ns with
            | nil => cases e
            | cons n ns => simp
          · rw [maxI_of e h1 h2]
            exact hq _ H (Ext.refl ht) rfl
  | [d, e], hd, hg =>
    obtain ⟨v, u, rfl, h1, h2⟩ := repBs2 hd
    cases d <;> cases e <;> simp only [maxD', Option.some.injEq, reduceCtorEq] at hg
    subst hg
    cases h1; cases h2
    exact .inr (.inr ⟨_, _, rfl, hq _ H (Ext.refl ht) rfl⟩)
  | [], hd, hg => cases hg
  | _ :: _ :: _ :: _, hd, hg => simp [maxD'] at hg
def minD' : List D → Option D
  | [.int i, .int j] => some (.int (if j < i then j else i))
  | _ => none
theorem cr_minD (hc : X.calm = true) : CallR X (.builtin "min") (rDL X.K T .sh minD') := by
  refine callImp (call_min2 hc) fun xs H Q h => ?_
  obtain ⟨Z, ds, r, hz, ht, hd, hg, hq⟩ := h
  match ds, hd, hg with
  | [d, e], hd, hg =>
    obtain ⟨v, u, rfl, h1, h2⟩ := repBs2 hd
    cases d <;> cases e <;> simp only [minD', Option.some.injEq, reduceCtorEq] at hg
    subst hg
    cases h1; cases h2
    exact ⟨_, _, rfl, hq _ H (Ext.refl ht) rfl⟩
  | [], hd, hg => cases hg
  | [_], hd, hg => simp [minD'] at hg
  | _ :: _ :: _ :: _, hd, hg => simp [minD'] at hg
end
end Py
end
section
namespace Py
/-! ### mergeSort, for the kernel -/
section
variable {α : Type} (le : α → α → Bool)
def mergeF : Nat → List α → List α → List α
  | 0, xs, ys => xs ++ ys
  | k + 1, [], ys => ys
  | k + 1, x :: xs, [] => x :: xs
  | k + 1, x :: xs, y :: ys => if le x y then x :: mergeF k xs (y :: ys) else y :: mergeF k (x :: xs) ys
theorem mergeF_eq : ∀ (k : Nat) (xs ys : List α), xs.length + ys.length ≤ k → mergeF le k xs ys = List.merge xs ys le
  | 0, xs, ys, h => by
    have h1 : xs = [] := List.length_eq_zero_iff.mp (by omega)
    have h2 : ys = [] := List.length_eq_zero_iff.mp (by omega)
    subst h1; subst h2; simp [mergeF]
  | k + 1, [], ys, h => by simp [mergeF]
  | k + 1, x :: xs, [], h => by simp [mergeF]
  | k + 1, x :: xs, y :: ys, h => by
    rw [List.cons_merge_cons]
    simp only [mergeF]
    simp only [List.length_cons] at h
    rw [mergeF_eq k xs (y :: ys) (by simp only [List.length_cons]; omega), mergeF_eq k (x :: xs) ys (by simp only [List.length_cons]; omega)]
def sortF : Nat → List α → List α
  | 0, l => l
  | k + 1, [] => []
  | k + 1, [a] => [a]
  | k + 1, a :: b :: l => mergeF le (l.length + 2) (sortF k ((a :: b :: l).take ((l.length + 3) / 2))) (sortF k ((a :: b :: l).drop ((l.length + 3) / 2)))
theorem sortF_eq : ∀ (k : Nat) (l : List α), l.length ≤ k → sortF le k l = l.mergeSort le
  | 0, l, h => by
    have h1 : l = [] := List.length_eq_zero_iff.mp (by omega)
    subst h1; simp [sortF]
  | k + 1, [], h => by simp [sortF]
  | k + 1, [a], h => by simp [sortF]
  | k + 1, a :: b :: l, h => by
    simp only [List.length_cons] at h
    rw [List.mergeSort]
    simp only [sortF, List.MergeSort.Internal.splitInTwo_fst, List.MergeSort.Internal.splitInTwo_snd]
    have e : (l.length + 1 + 1 + 1) / 2 = (l.length + 3) / 2 := rfl
    simp only [List.length_cons]
    rw [sortF_eq k _ (by rw [List.length_take, List.length_cons, List.length_cons]; omega), sortF_eq k _ (by rw [List.length_drop, List.length_cons, List.length_cons]; omega)]
    rw [mergeF_eq]
    rw [List.length_mergeSort, List.length_mergeSort, List.length_take, List.length_drop, List.length_cons, List.length_cons]; omega
end
def srt {α : Type} (le : α → α → Bool) (l : List α) : List α := sortF le l.length l
theorem srt_eq {α : Type} (le : α → α → Bool) (l : List α) : srt le l = l.mergeSort le := sortF_eq le _ l (Nat.le_refl _)
end Py
end
section
set_option maxHeartbeats 1000000
namespace Py
open PySem PySem.Spec PyProof.Rows L2 LamX

/-! ### sorted -/
def leD (a b : D) : Bool := !PySem.W.dataLt (toPy b) (toPy a)
def alikeL (l : List PyData) : Bool := l.all fun x => l.all fun y => PySem.W.alike x y
def isTupNE : PyData → Bool
  | .tuple (_ :: _) => true
  | _ => false
def notTupN : PyData → Bool
  | .tuple _ => false
  | .none => false
  | _ => true
def sortOk (l : List D) : Bool := nods l && decide (deps l ≤ 60) && alikeL (toPys l) && ((toPys l).all isTupNE || (toPys l).all notTupN)
/-! for the kernel: data of one frame -/
mutual
def rig : D → D → Bool
  | .bl _, .bl _ => true
  | .int _, .int _ => true
  | .str _, .str _ => true
  | .tup xs, .tup ys => rigs xs ys
  | _, _ => false
def rigs : List D → List D → Bool
  | [], [] => true
  | x :: xs, y :: ys => rig x y && rigs xs ys
  | _, _ => false
end
def rigL : List D → Bool
  | [] => true
  | x :: l => rig x x && l.all (rig x)
mutual
theorem rig_alike : ∀ x y z : D, rig x y = true → rig x z = true → PySem.W.alike (toPy y) (toPy z) = true
  | .bl _, .bl _, .bl _, _, _ => by simp [toPy, PySem.W.alike]
  | .int _, .int _, .int _, _, _ => by simp [toPy, PySem.W.alike]
  | .str _, .str _, .str _, _, _ => by simp [toPy, PySem.W.alike]
  | .tup xs, .tup ys, .tup zs, h1, h2 => by
    simp only [toPy, PySem.W.alike]
    exact rigs_alike xs ys zs (by simpa [rig] using h1) (by simpa [rig] using h2)
theorem rigs_alike : ∀ xs ys zs : List D, rigs xs ys = true → rigs xs zs = true → PySem.W.alikeAll (toPys ys) (toPys zs) = true
  | [], [], [], _, _ => by simp [toPys, PySem.W.alikeAll]
  | x :: xs, y :: ys, z :: zs, h1, h2 => by
    simp only [rigs, Bool.and_eq_true] at h1 h2
    simp only [toPys, PySem.W.alikeAll, Bool.and_eq_true]
    exact ⟨rig_alike x y z h1.1 h2.1, rigs_alike xs ys zs h1.2 h2.2⟩
end
theorem toPys_map0 : ∀ l : List D, toPys l = l.map toPy
  | [] => rfl
  | d :: l => by rw [List.map_cons, ← toPys_map0 l]; rfl
theorem rigL_alike : ∀ l : List D, rigL l = true → alikeL (toPys l) = true
  | [], _ => rfl
  | x :: l, h => by
    simp only [rigL, Bool.and_eq_true, List.all_eq_true] at h
    have hx : ∀ y ∈ x :: l, rig x y = true := fun y hy => by
      rcases List.mem_cons.mp hy with rfl | hy
      · exact h.1
      · exact h.2 y hy
    unfold alikeL
    rw [toPys_map0]
    simp only [List.all_eq_true, List.mem_map]
    rintro _ ⟨y, hy, rfl⟩ _ ⟨z, hz, rfl⟩
    exact rig_alike x y z (hx y hy) (hx z hz)
def sortOkF (l : List D) : Bool := nods l && decide (deps l ≤ 60) && (rigL l || alikeL (toPys l)) && ((toPys l).all isTupNE || (toPys l).all notTupN)
theorem sortOkF_eq (l : List D) : sortOkF l = sortOk l := by
  unfold sortOkF sortOk
  have : (rigL l || alikeL (toPys l)) = alikeL (toPys l) := by
    cases h : rigL l
    · rfl
    · rw [rigL_alike l h]; rfl
  rw [this]
/-! for the kernel: a fast comparison -/
def cmpI : Int → Int → Ordering
  | .ofNat a, .ofNat b => if Nat.blt a b then .lt else if Nat.beq a b then .eq else .gt
  | .ofNat _, .negSucc _ => .gt
  | .negSucc _, .ofNat _ => .lt
  | .negSucc a, .negSucc b => if Nat.blt b a then .lt else if Nat.beq a b then .eq else .gt
theorem cmpI_lt (a b : Int) : (decide (a < b) = match cmpI a b with | .lt => true | _ => false) ∧ (decide (b < a) = match cmpI a b with | .gt => true | _ => false) := by
  have nb : ∀ x y : Nat, Nat.blt x y = decide (x < y) := fun x y => by
    rw [Bool.eq_iff_iff, Nat.blt_eq, decide_eq_true_eq]
  have ne : ∀ x y : Nat, Nat.beq x y = decide (x = y) := fun x y => by
    rw [Bool.eq_iff_iff, Nat.beq_eq, decide_eq_true_eq]
  cases a <;> cases b <;> simp only [cmpI, nb, ne, Int.ofNat_eq_natCast]
  · rename_i a b
    rcases Nat.lt_trichotomy a b with h | h | h
    · simp only [h, decide_true, if_true]
      exact ⟨decide_eq_true (by simpa using h), decide_eq_false (by simp; omega)⟩
    · subst h; simp
    · have h1 : ¬ a < b := by omega
      have h2 : ¬ a = b := by omega
      simp only [h1, h2, decide_false, if_false]
      exact ⟨decide_eq_false (by simp; omega), decide_eq_true (by simpa using h)⟩
  · exact ⟨decide_eq_false (by omega), decide_eq_true (by omega)⟩
  · exact ⟨decide_eq_true (by omega), decide_eq_false (by omega)⟩
  · rename_i a b
    rcases Nat.lt_trichotomy b a with h | h | h
    · simp only [h, decide_true, if_true]
      exact ⟨decide_eq_true (by omega), decide_eq_false (by omega)⟩
    · subst h; simp
    · have h1 : ¬ b < a := by omega
      have h2 : ¬ a = b := by omega
      simp only [h1, h2, decide_false, if_false]
      exact ⟨decide_eq_false (by omega), decide_eq_true (by omega)⟩
mutual
def cmpD : D → D → Option Ordering
  | .bl a, .bl b => some (if a then (if b then .eq else .gt) else (if b then .lt else .eq))
  | .int a, .int b => some (cmpI a b)
  | .tup xs, .tup ys => cmpDs xs ys
  | _, _ => none
def cmpDs : List D → List D → Option Ordering
  | [], [] => some .eq
  | x :: xs, y :: ys => match cmpD x y with
    | some .lt => some .lt
    | some .eq => cmpDs xs ys
    | some .gt => some .gt
    | none => none
  | [], _ :: _ => some .lt
  | _ :: _, [] => some .gt
end
def ordB (o : Ordering) (b : Bool) : Bool := match o with
  | .lt => true
  | .eq => b
  | .gt => false
theorem lex_num (a b : Int) (s t : List (Int ⊕ List Nat)) : PyProof.Rows.lexLt itemOrd (.inl a :: s) (.inl b :: t) = ordB (cmpI a b) (PyProof.Rows.lexLt itemOrd s t) := by
  obtain ⟨h1, h2⟩ := cmpI_lt a b
  rw [PyProof.Rows.lex_cons (O := itemOrd)]
  show (decide (a < b) || (!decide (b < a) && _)) = _
  rw [h1, h2]
  cases cmpI a b <;> simp [ordB]
mutual
theorem cmpD_lex : ∀ (x y : D) (o : Ordering) (s t : List (Int ⊕ List Nat)), cmpD x y = some o → PyProof.Rows.lexLt itemOrd (PySem.W.keyToks (toPy x) ++ s) (PySem.W.keyToks (toPy y) ++ t) = ordB o (PyProof.Rows.lexLt itemOrd s t)
  | .bl a, .bl b, o, s, t, h => by
    simp only [toPy, PySem.W.keyToks, List.cons_append, List.nil_append]
    rw [lex_num]
    simp only [cmpD, Option.some.injEq] at h
    subst h
    cases a <;> cases b <;> rfl
  | .int a, .int b, o, s, t, h => by
    simp only [toPy, PySem.W.keyToks, List.cons_append, List.nil_append]
    rw [lex_num]
    simp only [cmpD, Option.some.injEq] at h
    rw [h]
  | .tup xs, .tup ys, o, s, t, h => by
    simp only [toPy, PySem.W.keyToks]
    exact cmpDs_lex xs ys o s t (by simpa only [cmpD] using h)
theorem cmpDs_lex : ∀ (x y : List D) (o : Ordering) (s t : List (Int ⊕ List Nat)), cmpDs x y = some o → PyProof.Rows.lexLt itemOrd (PySem.W.keyToksAll (toPys x) ++ s) (PySem.W.keyToksAll (toPys y) ++ t) = ordB o (PyProof.Rows.lexLt itemOrd s t)
  | [], [], o, s, t, h => by
    simp only [cmpDs, Option.some.injEq] at h
    subst h
    simp only [toPys, PySem.W.keyToksAll, List.cons_append, List.nil_append]
    rw [lex_num]; rfl
  | x :: xs, y :: ys, o, s, t, h => by
    simp only [toPys, PySem.W.keyToksAll, List.cons_append, List.append_assoc]
    rw [lex_num]
    show PyProof.Rows.lexLt itemOrd _ _ = _
    simp only [cmpDs] at h
    cases q : cmpD x y with
    | none => rw [q] at h; cases h
    | some p =>
      rw [q] at h
      rw [cmpD_lex x y p _ _ q]
      cases p with
      | lt => cases h; rfl
      | gt => cases h; rfl
      | eq => exact cmpDs_lex xs ys o s t h
  | [], y :: ys, o, s, t, h => by
    simp only [cmpDs, Option.some.injEq] at h
    subst h
    simp only [toPys, PySem.W.keyToksAll, List.cons_append, List.nil_append]
    rw [lex_num]; rfl
  | x :: xs, [], o, s, t, h => by
    simp only [cmpDs, Option.some.injEq] at h
    subst h
    simp only [toPys, PySem.W.keyToksAll, List.cons_append, List.nil_append]
    rw [lex_num]; rfl
end
def ltF (a b : D) : Bool := match cmpD a b with
  | some .lt => true
  | some _ => false
  | none => PySem.W.dataLt (toPy a) (toPy b)
theorem ltF_eq (a b : D) : ltF a b = PySem.W.dataLt (toPy a) (toPy b) := by
  unfold ltF
  cases q : cmpD a b with
  | none => rfl
  | some o =>
    have := cmpD_lex a b o [] [] q
    rw [List.append_nil, List.append_nil] at this
    unfold PySem.W.dataLt
    rw [this]
    cases o <;> rfl
def leF (a b : D) : Bool := !ltF b a
theorem leF_eq : leF = leD := by
  funext a b
  unfold leF leD
  rw [ltF_eq]
def sortL (l : List D) : Option (List D) := if sortOkF l then some (srt leF l) else none
theorem sortL_eq (l : List D) : sortL l = if sortOk l then some (l.mergeSort leD) else none := by
  unfold sortL
  rw [sortOkF_eq, srt_eq, leF_eq]
theorem toPys_map : ∀ l : List D, toPys l = l.map toPy
  | [] => rfl
  | d :: l => by rw [List.map_cons, ← toPys_map l]; rfl
theorem nods_mem : ∀ {l : List D}, nods l = true → ∀ d ∈ l, nod d = true
  | d0 :: l, h, d, hd => by
    have h' : (nod d0 && nods l) = true := h
    rw [Bool.and_eq_true] at h'
    rcases List.mem_cons.mp hd with rfl | hd
    · exact h'.1
    · exact nods_mem h'.2 d hd
theorem deps_mem : ∀ {l : List D} {d : D}, d ∈ l → dep d ≤ deps l
  | d0 :: l, d, hd => by
    simp only [deps]
    rcases List.mem_cons.mp hd with rfl | hd
    · omega
    · have := deps_mem hd; omega
def RU (K : PySem.W.Frag) (G : Hp) (u : Value) (d : D) : Prop := ∃ x : V, RelV x u ∧ Rep K G d x
theorem each_of {K : PySem.W.Frag} {G : Hp} : ∀ {l : List D} {xs : List V} {its : List Value}, Reps K G l xs → Vals xs its → PySem.W.EachIs (RU K G) its l
  | [], xs, its, r, v => by
    rw [show xs = [] from r] at v
    cases v; exact .nil
  | d :: l, xs, its, r, v => by
    obtain ⟨x, r', rfl, h1, h2⟩ := r
    cases v with
    | cons a b => exact .cons ⟨x, a, h1⟩ (each_of h2 b)
theorem each_back {K : PySem.W.Frag} {G : Hp} : ∀ {l : List D} {its : List Value}, PySem.W.EachIs (RU K G) its l → ∃ xs, Vals xs its ∧ Reps K G l xs
  | _, _, .nil => ⟨[], .nil, rfl⟩
  | _, _, .cons ⟨x, a, h1⟩ r => by
    obtain ⟨xs, q1, q2⟩ := each_back r
    exact ⟨x :: xs, .cons a q1, x, xs, rfl, h1, q2⟩
section
variable {X : Cx} {T : Tb}
theorem each_reads {pins : List (Addr × Obj)} {σ : L2.St} {H : Hp} {s : Shared} (I : Inv X pins σ H s) : ∀ {l : List D} {xs : List V} {its : List Value}, nods l = true → Reps X.K H l xs → Vals xs its →
    PySem.W.EachIs (fun v d => ∃ as, Reads s.heap v (toPy d) as) its l
  | [], xs, its, n, r, v => by
    rw [show xs = [] from r] at v
    cases v; exact .nil
  | d :: l, xs, its, n, r, v => by
    obtain ⟨x, r', rfl, h1, h2⟩ := r
    have n' : (nod d && nods l) = true := n
    rw [Bool.and_eq_true] at n'
    cases v with
    | cons a b => exact .cons (Dp.reads I _ x _ (Rep.dp d x n'.1 h1).1 a) (each_reads I n'.2 h2 b)
def sortedD : List D → Option D
  | [.lst l] => (sortL l).map D.lst
  | _ => none
theorem cr_sortedD' (hu : X.A.units + 100 < cLine) : CallR X (.builtin "sorted") (rDL X.K T .fr sortedD) := by
  intro pins s σ H xs us Q I rr h
  obtain ⟨Z, ds, r, hz, ht, hd, hg, hq⟩ := h
  match ds, hd, hg with
  | [d], hd, hg =>
    obtain ⟨v, rfl, h1⟩ := repBs1 hd
    cases d <;> simp only [sortedD, sortL_eq, reduceCtorEq] at hg
    rename_i l
    split at hg
    · rename_i hc
      cases hg
      simp only [sortOk, Bool.and_eq_true, decide_eq_true_eq] at hc
      obtain ⟨⟨⟨c1, c2⟩, c3⟩, c4⟩ := hc
      obtain ⟨u, rfl, rx⟩ := vals1 rr
      obtain ⟨a, rfl, z, xs, ha, ra⟩ := h1
      cases rx
      obtain ⟨its, rv, pl, hzz⟩ := I.list (SqL.of ha)
      have raH : Reps X.K H l xs := Reps.ext exUnhide l xs ra
      refine PySem.W.sorted_data (β := D) (enc := toPy) (R := RU X.K (hide H Z)) (bs := l) (vs := its) pl.isList (each_of ra rv) (each_reads I c1 raH rv) ?_ ?_ z ?_ fun out hlen hout => ?_
      · intro x hx y hy
        rw [← toPys_map] at hx hy
        exact List.all_eq_true.mp (List.all_eq_true.mp c3 x hx) y hy
      · rw [Bool.or_eq_true] at c4
        rw [← toPys_map]
        rcases c4 with c4 | c4
        · refine .inl fun d hd => ?_
          have := List.all_eq_true.mp c4 d hd
          cases d <;> simp only [isTupNE, reduceCtorEq] at this
          rename_i t
          cases t with
          | nil => simp at this
          | cons x r => exact ⟨x, r, rfl⟩
        · refine .inr fun d hd => ?_
          have := List.all_eq_true.mp c4 d hd
          cases d <;> simp [notTupN] at this ⊢
      · intro d hd
        have h1 := dep_py d
        have h2 := deps_mem hd
        omega
      · obtain ⟨ys, v1, v2⟩ := each_back hout
        obtain ⟨ep, he'⟩ := PyProof.Rows.sortedAll_at s.heap its out.toArray
        have hl2 : (l.mergeSort leD).length ≤ sizeLine := by rw [List.length_mergeSort]; exact z
        have np : H (s.heap.objs.size + 1) = none := I.hok.fresh (Nat.le_succ _)
        have e0 : (l.mergeSort (PySem.W.dataLe false toPy)) = l.mergeSort leD := rfl
        rw [e0] at v2
        refine ⟨.ref _, upd H (s.heap.objs.size + 1) (.lst ys), I.laid (t' := s.toks) (fun _ _ => PyProof.Rows.sortedAll_old) (Nat.le_succ _) ⟨by rw [v2.length]; exact hl2, out, ep, v1, he'⟩, rfl, ?_⟩
        exact hq _ _ (ext_new ht np) ⟨_, rfl, .inl np, own_lst hl2 (.inl np) v2⟩
    · cases hg
  | [], hd, hg => cases hg
  | _ :: _ :: _, hd, hg => simp [sortedD] at hg
/-! ### list(x), tuple(x) -/
def keyD : Key → D
  | .inl i => .int i
  | .inr x => .str x
def listD : List D → Option D
  | [.lst l] => some (.lst l)
  | [.tup l] => some (.lst l)
  | _ => none
theorem cr_listD : CallR X (.type "list") (rDL X.K T .fr listD) := by
  refine callImp call_list_of fun xs H Q h => ?_
  obtain ⟨Z, ds, r, hz, ht, hd, hg, hq⟩ := h
  match ds, hd, hg with
  | [d], hd, hg =>
    obtain ⟨v, rfl, h1⟩ := repBs1 hd
    cases d <;> simp only [listD, Option.some.injEq, reduceCtorEq] at hg <;> subst hg
    · obtain ⟨z, a, xs, rfl, ha, ra⟩ := h1
      exact ⟨a, xs, rfl, .inr (SqT.ext exUnhide ha), fun l hl => hq _ _ (ext_new ht hl) ⟨_, rfl, .inl hl, own_lst z (.inl hl) ra⟩⟩
    · obtain ⟨a, rfl, z, xs, ha, ra⟩ := h1
      exact ⟨a, xs, rfl, .inl (SqL.of ha), fun l hl => hq _ _ (ext_new ht hl) ⟨_, rfl, .inl hl, own_lst z (.inl hl) ra⟩⟩
  | [], hd, hg => cases hg
  | _ :: _ :: _, hd, hg => simp [listD] at hg
def tupleD : List D → Option D
  | [.lst l] => some (.tup l)
  | [.tup l] => some (.tup l)
  | _ => none
theorem cr_tupleD : CallR X (.type "tuple") (rDL X.K T .sh tupleD) := by
  refine callImp call_tuple_of fun xs H Q h => ?_
  obtain ⟨Z, ds, r, hz, ht, hd, hg, hq⟩ := h
  match ds, hd, hg with
  | [d], hd, hg =>
    obtain ⟨v, rfl, h1⟩ := repBs1 hd
    cases d <;> simp only [tupleD, Option.some.injEq, reduceCtorEq] at hg <;> subst hg
    · obtain ⟨z, a, xs, rfl, ha, ra⟩ := h1
      exact ⟨a, xs, rfl, .inr ⟨SqT.ext exUnhide ha, hq _ H (Ext.refl ht) ⟨z, a, xs, rfl, ha, ra⟩⟩⟩
    · obtain ⟨a, rfl, z, xs, ha, ra⟩ := h1
      exact ⟨a, xs, rfl, .inl ⟨SqL.of ha, fun l hl => hq _ _ (ext_new ht hl) (rep_tup ht hz hl z ra)⟩⟩
  | [], hd, hg => cases hg
  | _ :: _ :: _, hd, hg => simp [tupleD] at hg
/-! ### isinstance -/
inductive Ty where | int | bool | str | tuple | list | dict
  deriving DecidableEq
def Ty.nm : Ty → String
  | .int => "int" | .bool => "bool" | .str => "str" | .tuple => "tuple" | .list => "list" | .dict => "dict"
def isTy : Ty → D → Bool
  | .int, .int _ => true
  | .int, .bl _ => true
  | .bool, .bl _ => true
  | .str, .str _ => true
  | .tuple, .tup _ => true
  | .list, .lst _ => true
  | .list, .scr _ => true
  | .dict, .dic _ _ => true
  | _, _ => false
def tyN : D → String
  | .non => "NoneType" | .bl _ => "bool" | .int _ => "int" | .str _ => "str" | .tup _ => "tuple" | .lst _ => "list" | .scr _ => "list" | .dic _ _ => "dict" | _ => "object"
def opq : D → Bool
  | .obj _ => true
  | .glo _ => true
  | _ => false
/-- isinstance -/
def isiR (t : Ty) (x : D) : RR D := if opq x then .bad else .ok (.bl (isTy t x))
theorem kit_all : ∀ a ∈ ["NoneType", "bool", "int", "str", "tuple", "list", "dict"], ∀ t : Ty, kitB a t.nm = some (match t with
    | .int => a == "int" || a == "bool" | .bool => a == "bool" | .str => a == "str" | .tuple => a == "tuple" | .list => a == "list" | .dict => a == "dict") := by
  intro a ha t
  simp only [List.mem_cons, List.not_mem_nil, or_false] at ha
  rcases ha with rfl | rfl | rfl | rfl | rfl | rfl | rfl <;> cases t <;> decide +kernel
theorem kit_D (d : D) (t : Ty) (ho : opq d = false) : kitB (tyN d) t.nm = some (isTy t d) := by
  rw [kit_all _ (by cases d <;> first | (simp [tyN]; done) | cases ho)]
  cases d <;> first | (cases t <;> simp [tyN, isTy]; done) | cases ho
theorem tyX_of {K : PySem.W.Frag} {H : Hp} {d : D} {v : V} (ho : opq d = false) (h : Rep K H d v) : TyX K H v (.type (tyN d)) := by
  cases d with
  | non => cases h; exact .base .non
  | bl b => cases h; exact .base (.bl b)
  | int i => cases h; exact .base (.int i)
  | str x => obtain ⟨_, _, rfl⟩ := h; exact .base (.str x)
  | tup l =>
    obtain ⟨z, a, xs, rfl, ha, _⟩ := h
    rcases ha with (ha | ⟨o, ha⟩) | ⟨o, its, n, e, c, _⟩
    · exact .base (.tup ha)
    · exact .fTuple ha
    · exact .kTuple e c
  | lst l =>
    obtain ⟨z, a, xs, rfl, ha, _⟩ := h
    exact .base (.lst ha)
  | scr l =>
    obtain ⟨z, a, rfl, ha⟩ := h
    rcases ha with (ha | ⟨o, ha⟩) | ⟨o, its, n, e, c, _⟩
    · exact .base (.lst ha)
    · exact .base (.frz ha)
    · exact .kList e c
  | dic ks vs =>
    obtain ⟨a, kvs, rfl, ha | ⟨o, ha⟩, _, _⟩ := h
    · exact .base (.dK ha)
    · exact .fDict ha
  | obj a => cases ho
  | glo x => cases ho
end
end Py
end
section
set_option maxHeartbeats 1000000
namespace Py
open PySem PySem.Spec PyProof.Rows L2 LamX

/-! ### what stands where, by Bool -/
def notStar : Expr → Bool
  | .Starred _ _ => false
  | _ => true
theorem star_of {e : Expr} (h : notStar e = true) (es : List Expr) (env : PySem.Env) : starEach (e :: es) env = (false, eval e env) :: starEach es env := by
  cases e <;> first | rfl | cases h
theorem stars_of : ∀ {es : List Expr} (h : es.all notStar = true) (env : PySem.Env), starEach es env = es.map fun e => (false, eval e env)
  | [], _, _ => rfl
  | e :: es, h, env => by
    rw [List.all_cons, Bool.and_eq_true] at h
    rw [star_of h.1, stars_of h.2]; rfl
theorem back_any {pos : Pos} : ∀ {l : List (Bool × Sem Value)}, (∀ p ∈ l, p.1 = false) → (backTo pos l).any (·.1) = false
  | [], _ => rfl
  | p :: l, h => by
    have h1 := h p List.mem_cons_self
    have h2 := back_any (pos := pos) fun q hq => h q (List.mem_cons_of_mem _ hq)
    show (p.1 || (backTo pos l).any (·.1)) = false
    rw [h1, h2]; rfl
theorem back_star {pos : Pos} {es : List Expr} (h : es.all notStar = true) (env : PySem.Env) : (backTo pos (starEach es env)).any (·.1) = false := by
  rw [stars_of h]
  refine back_any fun p hp => ?_
  obtain ⟨e, _, rfl⟩ := List.mem_map.mp hp
  rfl
def notSet : Expr → Bool
  | .Set _ _ _ => false
  | _ => true
theorem fold_of {e : Expr} (h : notSet e = true) (env : PySem.Env) (x : Value) : foldedSetIterable e env x = pure x := by
  cases e <;> first | rfl | cases h
theorem behind_of {e : Expr} {op : CmpOp} (h : notSet e = true) : behindInMarks op e = false := by
  cases e <;> first | rfl | cases h
def notSlice : Expr → Bool
  | .Slice _ _ _ _ => false
  | _ => true
theorem plainIx_of {e : Expr} (h : notSlice e = true) : PlainIx e := by
  intro o i
  cases e <;> first | rfl | cases h
def plainTest : Expr → Bool
  | .UnaryOp _ _ _ => false
  | .BoolOp _ _ _ => false
  | .IfExp _ _ _ _ => false
  | .Compare _ _ _ _ => false
  | _ => true
theorem test_of {e : Expr} (h : plainTest e = true) (env : PySem.Env) (whole : Sem Value) : isTrue e env whole = (do let v ← whole; standAt e.pos; holding [v] (truthy v)) := by
  cases e <;> first | rfl | cases h
def notComp : Expr → Bool
  | .ListComp _ _ _ _ => false
  | .SetComp _ _ _ _ => false
  | .DictComp _ _ _ _ _ => false
  | _ => true
theorem swaps_of {e : Expr} (h : notComp e = true) (t : Option Expr) (l : Nat) (env : PySem.Env) : swapsWith e t l env = pure false := by
  cases e <;> first | rfl | cases h
def notCallee : Expr → Bool
  | .Call (.Name _ _) [] [] _ => false
  | _ => true
theorem base_of {e : Expr} (h : notCallee e = true) (attr : Str) (env : PySem.Env) (w : Sem Value) : attributeBase e attr env w = w := by
  unfold attributeBase
  split
  · cases h
  · rfl

/-! ### expressions -/
section
variable {X : Cx} {T : Tb} {W : WX} {pos : Pos} {j : Nat}
theorem d_const {e : Expr} {v : V} {d : D} (h : PE X e (tC v)) (r : ∀ H, Rep X.K H d v) : PE X e (tD X.K T W .sh fun _ => .ok d) :=
  peImp h fun σ H Q ⟨ρ, Z, st, p⟩ => p v H (Ext.refl st.tabs) (r _)
theorem d_int {i : Int} : PE X (.Constant (.int i) j pos) (tD X.K T W .sh fun _ => .ok (.int i)) := d_const pe_int fun _ => rfl
theorem d_bl {i : Bool} : PE X (.Constant (.bool i) j pos) (tD X.K T W .sh fun _ => .ok (.bl i)) := d_const pe_bl fun _ => rfl
theorem d_non : PE X (.Constant .none j pos) (tD X.K T W .sh fun _ => .ok .non) := d_const pe_non fun _ => rfl
def strFine (x : Str) : Bool := PyData.strOk x && decide (x.length ≤ lim)
theorem d_str {x : Str} (h : strFine x = true) : PE X (.Constant (.str x) j pos) (tD X.K T W .sh fun _ => .ok (.str x)) := by
  simp only [strFine, Bool.and_eq_true, decide_eq_true_eq] at h
  exact d_const pe_str fun _ => ⟨h.1, by rw [lim_eq]; exact h.2, rfl⟩
def varD (i : Nat) (ρ : Env) : RR D := match ρ[i]? with
  | some (some (false, d)) => .ok d
  | _ => .bad
def ownD (i : Nat) (ρ : Env) : RR D := match ρ[i]? with
  | some (some (_, d)) => .ok d
  | _ => .bad
theorem d_var {i : Nat} {x : Str} (hN : X.N[i]? = some x) (hv : Vis X.env.scope x) (hd : (x == ("__debug__" : Str)) = false) (hcd : (x == ("__classdict__" : Str)) = false) : PE X (.Name x pos) (tD X.K T W .sh (varD i)) := by
  refine peImp (pe_var hN hv hd hcd) fun σ H Q ⟨ρ, Z, st, p⟩ => ?_
  unfold varD at p
  split at p
  · rename_i d e
    obtain ⟨v, e1, e2⟩ := st.slot i _ e
    exact ⟨v, e1, p v H (Ext.refl st.tabs) e2⟩
  · exact p.elim
theorem d_own {i : Nat} {x : Str} (hN : X.N[i]? = some x) (hv : Vis X.env.scope x) (hd : (x == ("__debug__" : Str)) = false) (hcd : (x == ("__classdict__" : Str)) = false) : PE X (.Name x pos) (tD X.K T W .bo (ownD i)) := by
  refine peImp (pe_var hN hv hd hcd) fun σ H Q ⟨ρ, Z, st, p⟩ => ?_
  unfold ownD at p
  split at p
  · rename_i o d e
    obtain ⟨v, e1, e2⟩ := st.slot i _ e
    refine ⟨v, e1, p v H (Ext.refl st.tabs) ?_⟩
    cases o with
    | true =>
      obtain ⟨a, rfl, _, e2⟩ := e2
      exact OwnAt.b e2
    | false => exact Rep.b exUnhide e2
  · exact p.elim
theorem d_con {x : Str} {v : V} {u : Value} {d : D} (hg : Gl X x) (hm : X.mg x = some u) (r : RelV v u) (hr : ∀ H, Rep X.K H d v) (hd : (x == ("__debug__" : Str)) = false) : PE X (.Name x pos) (tD X.K T W .sh fun _ => .ok d) :=
  d_const (pe_glob hg hm r hd) hr
/-- a result of another kind -/
theorem Post.sh {K : PySem.W.Frag} {Z : Addr → Bool} {σ : L2.St} {H : Hp} {m : Md} {Q : VK} {r : RR D} (hm : m ≠ .bo) (hz : ∀ a, Z a = true → ¬ FreshAt H a) (h : Post K T Z W σ H .sh Q r) : Post K T Z W σ H m Q r := by
  cases r with
  | ok d => exact fun v H' e q => h v H' e (q.sh hm hz)
  | ex c => exact h
  | bad => exact h
theorem d_sh {e : Expr} {m : Md} {f : Env → RR D} (hm : m ≠ .bo) (h : PE X e (tD X.K T W m f)) : PE X e (tD X.K T W .sh f) :=
  peImp h fun σ H Q ⟨ρ, Z, st, p⟩ => ⟨ρ, Z, st, p.sh hm st.zdom⟩
theorem d_bin {a b : Expr} {op : Operator} {m ma mb : Md} {g : D → D → Option D} {fa fb : Env → RR D} (ho : OpR X (binaryOp op) (rD2 X.K T m g)) (ha : PE X a (tD X.K T W ma fa)) (hb : PE X b (tD X.K T W mb fb)) :
    PE X (.BinOp a op b pos) (tD X.K T W m fun ρ => do let x ← fa ρ; let y ← fb ρ; RR.of (g x y)) := by
  refine peImp (pe_op ho ha hb) fun σ H Q ⟨ρ, Z, st, p⟩ => ⟨ρ, Z, st, Post.then p fun d v H1 _ e1 r1 p1 => ⟨ρ, Z, st.ext e1, Post.then p1 fun d2 v2 H2 _ e2 r2 p2 => ?_⟩⟩
  cases q : g d d2 with
  | none => rw [q] at p2; exact p2.elim
  | some r =>
    rw [q] at p2
    exact ⟨Z, d, d2, r, (st.ext (e1.trans e2)).zdom, e2.tabs, (r1.ext e2.ext).b, r2.b, q, p2⟩
theorem d_ix {a b : Expr} {m ma mb : Md} {g : D → D → Option D} {fa fb : Env → RR D} (ho : IxR X (rD2 X.K T m g)) (ha : PE X a (tD X.K T W ma fa)) (hb : PE X b (tD X.K T W mb fb)) (hs : notSlice b = true) :
    PE X (.Subscript a b pos) (tD X.K T W m fun ρ => do let x ← fa ρ; let y ← fb ρ; RR.of (g x y)) := by
  refine peImp (pe_ix ho ha hb (plainIx_of hs)) fun σ H Q ⟨ρ, Z, st, p⟩ => ⟨ρ, Z, st, Post.then p fun d v H1 _ e1 r1 p1 => ⟨ρ, Z, st.ext e1, Post.then p1 fun d2 v2 H2 _ e2 r2 p2 => ?_⟩⟩
  cases q : g d d2 with
  | none => rw [q] at p2; exact p2.elim
  | some r =>
    rw [q] at p2
    exact ⟨Z, d, d2, r, (st.ext (e1.trans e2)).zdom, e2.tabs, (r1.ext e2.ext).b, r2.b, q, p2⟩
theorem d_cmp {a b : Expr} {op : CmpOp} {ma mb : Md} {g : D → D → Option Bool} {fa fb : Env → RR D} (ho : OpR X (compareOp op) (rDC X.K T g)) (ha : PE X a (tD X.K T W ma fa)) (hb : PE X b (tD X.K T W mb fb)) (hm : notSet b = true) :
    PE X (.Compare a [op] [b] pos) (tD X.K T W .sh fun ρ => do let x ← fa ρ; let y ← fb ρ; RR.of ((g x y).map D.bl)) := by
  refine peImp (pe_cmpR ho ha hb (behind_of hm)) fun σ H Q ⟨ρ, Z, st, p⟩ => ⟨ρ, Z, st, Post.then p fun d v H1 _ e1 r1 p1 => ⟨ρ, Z, st.ext e1, Post.then p1 fun d2 v2 H2 _ e2 r2 p2 => ?_⟩⟩
  cases q : g d d2 with
  | none => rw [q] at p2; exact p2.elim
  | some r =>
    rw [q] at p2
    exact ⟨_, d, d2, r, exUnhide, e2.tabs, (r1.ext e2.ext).b, r2.b, q, p2 _ _ (Ext.refl e2.tabs) rfl⟩
/-- truth -/
theorem RR.assoc {α β γ : Type} (x : RR α) (f : α → RR β) (g : β → RR γ) : ((x >>= f) >>= g) = x >>= fun a => f a >>= g := by
  cases x <;> rfl
def truR (d : D) : RR Bool := RR.of (truD d)
theorem t_cmp {a b : Expr} {op : CmpOp} {ma mb : Md} {g : D → D → Option Bool} {fa fb : Env → RR D} (ho : OpR X (compareOp op) (rDC X.K T g)) (ha : PE X a (tD X.K T W ma fa)) (hb : PE X b (tD X.K T W mb fb)) (hm : notSet b = true) :
    PT X (.Compare a [op] [b] pos) (tDT X.K T W fun ρ => (do let x ← fa ρ; let y ← fb ρ; RR.of ((g x y).map D.bl)) >>= truR) := by
  refine ptImp (pt_cmpR ho ha hb (behind_of hm)) fun σ H Q ⟨ρ, Z, st, p⟩ => ⟨ρ, Z, st, ?_⟩
  have p : PostX X.K T W σ H Q ((fa ρ) >>= fun x => ((fb ρ) >>= fun y => (RR.of ((g x y).map D.bl)) >>= truR)) := by
    simp only [RR.assoc] at p
    exact p
  refine Post.thenX p fun d v H1 _ e1 r1 p1 => ⟨ρ, Z, st.ext e1, Post.thenX p1 fun d2 v2 H2 _ e2 r2 p2 => ?_⟩
  cases q : g d d2 with
  | none => rw [q] at p2; exact p2.elim
  | some r =>
    rw [q] at p2
    exact ⟨_, d, d2, r, exUnhide, e2.tabs, (r1.ext e2.ext).b, r2.b, q, r, rfl, p2 _ (Ext.refl e2.tabs)⟩
theorem t_val {e : Expr} {m : Md} {f : Env → RR D} (h : PE X e (tD X.K T W m f)) (hp : plainTest e = true) : PT X e (tDT X.K T W fun ρ => f ρ >>= truR) := by
  refine ptImp (pt_truth h (test_of hp X.env)) fun σ H Q ⟨ρ, Z, st, p⟩ => ⟨ρ, Z, st, Post.thenX p fun d v H1 _ e1 r1 p1 => ?_⟩
  cases q : truD d with
  | none => unfold truR at p1; rw [q] at p1; exact p1.elim
  | some k =>
    unfold truR at p1; rw [q] at p1
    exact ⟨k, truV_of exUnhide r1.b q, p1 H1 (Ext.refl e1.tabs)⟩
theorem d_not {a : Expr} {m : Md} {f : Env → RR D} (h : PE X a (tD X.K T W m f)) : PE X (.UnaryOp .Not a pos) (tD X.K T W .sh fun ρ => do let x ← f ρ; let k ← truR x; .ok (.bl (!k))) := by
  refine peImp (pe_notT h) fun σ H Q ⟨ρ, Z, st, p⟩ => ⟨ρ, Z, st, Post.then p fun d v H1 _ e1 r1 p1 => ?_⟩
  cases q : truD d with
  | none => unfold truR at p1; rw [q] at p1; exact p1.elim
  | some k =>
    unfold truR at p1; rw [q] at p1
    exact ⟨k, truV_of exUnhide r1.b q, p1 _ H1 (Ext.refl e1.tabs) rfl⟩
theorem t_not {a : Expr} {f : Env → RR D} (h : PT X a (tDT X.K T W fun ρ => f ρ >>= truR)) : PT X (.UnaryOp .Not a pos) (tDT X.K T W fun ρ => (do let x ← f ρ; let k ← truR x; .ok (.bl (!k))) >>= truR) := by
  refine ptImp (pt_not h) fun σ H Q ⟨ρ, Z, st, p⟩ => ⟨ρ, Z, st, ?_⟩
  have p : PostX X.K T W σ H Q ((f ρ >>= truR) >>= fun k => .ok (!k)) := by
    simp only [RR.assoc] at p ⊢
    exact p
  exact PostX.thenX p fun k H1 _ e1 p1 => p1 H1 (Ext.refl e1.tabs)
theorem d_and1 {a : Expr} {op : BoolOp} {m : Md} {f : Env → RR D} (h : PE X a (tD X.K T W m f)) : PE X (.BoolOp op [a] pos) (tD X.K T W m f) := pe_one h
theorem d_and {a b : Expr} {rest : List Expr} {m m' : Md} {f g : Env → RR D} (hm : m ≠ .bo) (hm' : m' ≠ .bo) (h : PE X a (tD X.K T W m f)) (h' : PE X (.BoolOp .And (b :: rest) pos) (tD X.K T W m' g)) :
    PE X (.BoolOp .And (a :: b :: rest) pos) (tD X.K T W .sh fun ρ => do let x ← f ρ; let k ← truR x; if k then g ρ else .ok x) := by
  refine peImp (pe_andT h h') fun σ H Q ⟨ρ, Z, st, p⟩ => ⟨ρ, Z, st, Post.then p fun d v H1 _ e1 r1 p1 => ?_⟩
  cases q : truD d with
  | none => unfold truR at p1; rw [q] at p1; exact p1.elim
  | some k =>
    unfold truR at p1; rw [q] at p1
    refine ⟨k, truV_of exUnhide r1.b q, ?_⟩
    cases k with
    | true => exact ⟨ρ, Z, st.ext e1, Post.sh hm' (st.ext e1).zdom p1⟩
    | false => exact p1 v H1 (Ext.refl e1.tabs) (r1.sh hm st.zdom)
theorem d_or {a b : Expr} {rest : List Expr} {m m' : Md} {f g : Env → RR D} (hm : m ≠ .bo) (hm' : m' ≠ .bo) (h : PE X a (tD X.K T W m f)) (h' : PE X (.BoolOp .Or (b :: rest) pos) (tD X.K T W m' g)) :
    PE X (.BoolOp .Or (a :: b :: rest) pos) (tD X.K T W .sh fun ρ => do let x ← f ρ; let k ← truR x; if k then .ok x else g ρ) := by
  refine peImp (pe_orT h h') fun σ H Q ⟨ρ, Z, st, p⟩ => ⟨ρ, Z, st, Post.then p fun d v H1 _ e1 r1 p1 => ?_⟩
  cases q : truD d with
  | none => unfold truR at p1; rw [q] at p1; exact p1.elim
  | some k =>
    unfold truR at p1; rw [q] at p1
    refine ⟨k, truV_of exUnhide r1.b q, ?_⟩
    cases k with
    | false => exact ⟨ρ, Z, st.ext e1, Post.sh hm' (st.ext e1).zdom p1⟩
    | true => exact p1 v H1 (Ext.refl e1.tabs) (r1.sh hm st.zdom)
/-- and, or as tests -/
theorem t_and1 {a : Expr} {f : Env → RR Bool} (h : PT X a (tDT X.K T W f)) : PW X (.BoolOp .And [a] pos) (tDT X.K T W f) := pw_and1 h
theorem t_or1 {a : Expr} {f : Env → RR Bool} (h : PT X a (tDT X.K T W f)) : PW X (.BoolOp .Or [a] pos) (tDT X.K T W f) := pw_or1 h
theorem t_and {a b : Expr} {rest : List Expr} {f g : Env → RR D} (h : PT X a (tDT X.K T W fun ρ => f ρ >>= truR)) (h' : PW X (.BoolOp .And (b :: rest) pos) (tDT X.K T W fun ρ => g ρ >>= truR)) :
    PW X (.BoolOp .And (a :: b :: rest) pos) (tDT X.K T W fun ρ => (do let x ← f ρ; let k ← truR x; if k then g ρ else .ok x) >>= truR) := by
  refine pwImp (pw_and h h') fun σ H Q ⟨ρ, Z, st, p⟩ => ⟨ρ, Z, st, ?_⟩
  have p : PostX X.K T W σ H Q ((f ρ >>= truR) >>= fun k => if k then g ρ >>= truR else .ok false) := by
    simp only [RR.assoc] at p ⊢
    cases hf : f ρ with
    | ok d =>
      rw [hf] at p
      simp only [RR.bind_ok] at p ⊢
      cases q : truD d with
      | none => unfold truR at p ⊢; rw [q] at p ⊢; exact p
      | some k =>
        unfold truR at p ⊢
        rw [q] at p ⊢
        cases k with
        | true => exact p
        | false =>
          have p : PostX X.K T W σ H Q (RR.of (truD d)) := p
          rw [q] at p
          exact p
    | ex c => rw [hf] at p; exact p
    | bad => rw [hf] at p; exact p
  refine PostX.thenX p fun k H1 _ e1 p1 => ?_
  cases k with
  | true => exact ⟨ρ, Z, st.ext e1, p1⟩
  | false => exact p1 H1 (Ext.refl e1.tabs)
theorem t_or {a b : Expr} {rest : List Expr} {f g : Env → RR D} (h : PT X a (tDT X.K T W fun ρ => f ρ >>= truR)) (h' : PW X (.BoolOp .Or (b :: rest) pos) (tDT X.K T W fun ρ => g ρ >>= truR)) :
    PW X (.BoolOp .Or (a :: b :: rest) pos) (tDT X.K T W fun ρ => (do let x ← f ρ; let k ← truR x; if k then .ok x else g ρ) >>= truR) := by
  refine pwImp (pw_or h h') fun σ H Q ⟨ρ, Z, st, p⟩ => ⟨ρ, Z, st, ?_⟩
  have p : PostX X.K T W σ H Q ((f ρ >>= truR) >>= fun k => if k then .ok true else g ρ >>= truR) := by
    simp only [RR.assoc] at p ⊢
    cases hf : f ρ with
    | ok d =>
      rw [hf] at p
      simp only [RR.bind_ok] at p ⊢
      cases q : truD d with
      | none => unfold truR at p ⊢; rw [q] at p ⊢; exact p
      | some k =>
        unfold truR at p ⊢
        rw [q] at p ⊢
        cases k with
        | false => exact p
        | true =>
          have p : PostX X.K T W σ H Q (RR.of (truD d)) := p
          rw [q] at p
          exact p
    | ex c => rw [hf] at p; exact p
    | bad => rw [hf] at p; exact p
  refine PostX.thenX p fun k H1 _ e1 p1 => ?_
  cases k with
  | false => exact ⟨ρ, Z, st.ext e1, p1⟩
  | true => exact p1 H1 (Ext.refl e1.tabs)
/-- a if c else b -/
theorem d_ite {c a b : Expr} {m : Md} {fc fa fb : Env → RR D} (hc : PT X c (tDT X.K T W fun ρ => fc ρ >>= truR)) (ha : PE X a (tD X.K T W m fa)) (hb : PE X b (tD X.K T W m fb)) :
    PE X (.IfExp c a b pos) (tD X.K T W m fun ρ => do let x ← fc ρ; let k ← truR x; if k then fa ρ else fb ρ) := by
  refine peImp (pe_ifExp hc ha hb) fun σ H Q ⟨ρ, Z, st, p⟩ => ⟨ρ, Z, st, ?_⟩
  have p : Post X.K T Z W σ H m Q ((fc ρ >>= truR) >>= fun k => if k then fa ρ else fb ρ) := by
    rw [RR.assoc]; exact p
  refine PostX.then p fun k H1 _ e1 p1 => ?_
  cases k with
  | true => exact ⟨ρ, Z, st.ext e1, p1⟩
  | false => exact ⟨ρ, Z, st.ext e1, p1⟩
theorem t_ite {c a b : Expr} {fc fa fb : Env → RR D} (hc : PT X c (tDT X.K T W fun ρ => fc ρ >>= truR)) (ha : PT X a (tDT X.K T W fun ρ => fa ρ >>= truR)) (hb : PT X b (tDT X.K T W fun ρ => fb ρ >>= truR)) :
    PT X (.IfExp c a b pos) (tDT X.K T W fun ρ => (do let x ← fc ρ; let k ← truR x; if k then fa ρ else fb ρ) >>= truR) := by
  refine ⟨fun pins s σ H Q I ⟨ρ, Z, st, p⟩ => ?_⟩
  have p : PostX X.K T W σ H Q ((fc ρ >>= truR) >>= fun k => if k then fa ρ >>= truR else fb ρ >>= truR) := by
    simp only [RR.assoc] at p ⊢
    cases h1 : fc ρ with
    | ok d =>
      rw [h1] at p
      simp only [RR.bind_ok] at p ⊢
      cases q : truD d with
      | none => unfold truR at p ⊢; rw [q] at p ⊢; exact p
      | some k => unfold truR at p ⊢; rw [q] at p ⊢; cases k <;> exact p
    | ex c => rw [h1] at p; exact p
    | bad => rw [h1] at p; exact p
  show wpAny (model X.prog X.w) X.A (do if ← isTrue c X.env (eval c X.env) then isTrue a X.env (eval a X.env) else isTrue b X.env (eval b X.env)) (TP X pins σ Q) X.xe s
  refine wpAny_bind (thn (hc.run pins s σ H _ I ⟨ρ, Z, st, PostX.thenX p fun k H1 _ e1 p1 => (show (fun (k : Bool) H1 => Ext T H H1 ∧ PostX X.K T W σ H1 Q (if k then fa ρ >>= truR else fb ρ >>= truR)) k H1 from ⟨e1, p1⟩)⟩) fun k s1 ⟨H1, I1, e1, p1⟩ => ?_)
  cases k with
  | true => exact ha.run pins s1 σ H1 Q I1 ⟨ρ, Z, st.ext e1, p1⟩
  | false => exact hb.run pins s1 σ H1 Q I1 ⟨ρ, Z, st.ext e1, p1⟩
end
end Py
end
section
set_option maxHeartbeats 1000000
namespace Py
open PySem PySem.Spec PyProof.Rows L2 LamX

/-! ### argument lists -/
/-- sh: the items may be kept -/
def RpL (K : PySem.W.Frag) (sh : Bool) (G H : Hp) (ds : List D) (vs : List V) : Prop := if sh = true then Reps K G ds vs else RepBs K G H ds vs
def PostA (K : PySem.W.Frag) (T : Tb) (Z : Addr → Bool) (W : WX) (σ : L2.St) (H : Hp) (sh : Bool) (Q : List V → Hp → Prop) : RR (List D) → Prop
  | .ok ds => ∀ vs H', Ext T H H' → RpL K sh (hide H' Z) H' ds vs → Q vs H'
  | .ex c => ∀ H', Ext T H H' → W (.ref (He.ga K c)) none σ H'
  | .bad => False
def tDA (K : PySem.W.Frag) (T : Tb) (W : WX) (sh : Bool) (f : Env → RR (List D)) : TA := fun σ H Q => ∃ ρ Z, StE K T Z σ H ρ ∧ PostA K T Z W σ H sh Q (f ρ)
theorem RpL.nil {K : PySem.W.Frag} {sh : Bool} {G H : Hp} : RpL K sh G H [] [] := by cases sh <;> rfl
theorem RpL.ext {K : PySem.W.Frag} {sh : Bool} {G G' H H' : Hp} {ds : List D} {vs : List V} (g : ExtN G G') (e : ExtN H H') (h : RpL K sh G H ds vs) : RpL K sh G' H' ds vs := by
  cases sh with
  | true => exact Reps.ext g ds vs h
  | false => exact RepBs.ext g e h
theorem RpL.cons {K : PySem.W.Frag} {sh : Bool} {Z : Addr → Bool} {H0 H : Hp} {m : Md} {d : D} {ds : List D} {v : V} {vs : List V} (hm : sh = true → m ≠ .bo) (hz : ∀ a, Z a = true → ¬ FreshAt H0 a) (h : RepV K Z H0 H m d v) (hs : RpL K sh (hide H Z) H ds vs) : RpL K sh (hide H Z) H (d :: ds) (v :: vs) := by
  cases sh with
  | true => exact ⟨v, vs, rfl, h.sh (hm rfl) hz, hs⟩
  | false => exact ⟨v, vs, rfl, h.b, hs⟩
theorem Post.thenA {K : PySem.W.Frag} {T : Tb} {Z : Addr → Bool} {W : WX} {σ : L2.St} {H : Hp} {m : Md} {sh : Bool} {Q : VK} {Q' : List V → Hp → Prop} {x : RR D} {k : D → RR (List D)} (h : PostA K T Z W σ H sh Q' (x >>= k))
    (i : ∀ d v H1, x = .ok d → Ext T H H1 → RepV K Z H H1 m d v → PostA K T Z W σ H1 sh Q' (k d) → Q v H1) : Post K T Z W σ H m Q x := by
  cases x with
  | ok d =>
    refine fun v H1 e r => i d v H1 rfl e r ?_
    have h : PostA K T Z W σ H sh Q' (k d) := h
    cases q : k d with
    | ok ds => rw [q] at h; exact fun vs H' e' r' => h vs H' (e.trans e') r'
    | ex c => rw [q] at h; exact fun H' e' => h H' (e.trans e')
    | bad => rw [q] at h; exact h
  | ex c => exact h
  | bad => exact h
theorem PostA.then {K : PySem.W.Frag} {T : Tb} {Z : Addr → Bool} {W : WX} {σ : L2.St} {H : Hp} {m' : Md} {sh : Bool} {Q : List V → Hp → Prop} {Q' : VK} {x : RR (List D)} {k : List D → RR D} (h : Post K T Z W σ H m' Q' (x >>= k))
    (i : ∀ ds vs H1, x = .ok ds → Ext T H H1 → RpL K sh (hide H1 Z) H1 ds vs → Post K T Z W σ H1 m' Q' (k ds) → Q vs H1) : PostA K T Z W σ H sh Q x := by
  cases x with
  | ok ds => exact fun vs H1 e r => i ds vs H1 rfl e r (Post.from (r := k ds) h e)
  | ex c => exact h
  | bad => exact h
theorem PostA.thenA {K : PySem.W.Frag} {T : Tb} {Z : Addr → Bool} {W : WX} {σ : L2.St} {H : Hp} {sh sh' : Bool} {Q Q' : List V → Hp → Prop} {x : RR (List D)} {k : List D → RR (List D)} (h : PostA K T Z W σ H sh' Q' (x >>= k))
    (i : ∀ ds vs H1, x = .ok ds → Ext T H H1 → RpL K sh (hide H1 Z) H1 ds vs → PostA K T Z W σ H1 sh' Q' (k ds) → Q vs H1) : PostA K T Z W σ H sh Q x := by
  cases x with
  | ok ds =>
    refine fun vs H1 e r => i ds vs H1 rfl e r ?_
    have h : PostA K T Z W σ H sh' Q' (k ds) := h
    cases q : k ds with
    | ok ds => rw [q] at h; exact fun vs H' e' r' => h vs H' (e.trans e') r'
    | ex c => rw [q] at h; exact fun H' e' => h H' (e.trans e')
    | bad => rw [q] at h; exact h
  | ex c => exact h
  | bad => exact h
theorem paImp {X : Cx} {e : List Expr} {t t' : TA} (h : PA X e t) (i : ∀ σ H Q, t' σ H Q → t σ H Q) : PA X e t' := ⟨fun pos pins s σ H Q I hw => h.run pos pins s σ H Q I (i σ H Q hw)⟩
section
variable {X : Cx} {T : Tb} {W : WX} {pos : Pos} {j : Nat}
theorem a_nil {sh : Bool} : PA X [] (tDA X.K T W sh fun _ => .ok []) := paImp pa_nil fun σ H Q ⟨ρ, Z, st, p⟩ => p [] H (Ext.refl st.tabs) RpL.nil
theorem a_cons {sh : Bool} {e : Expr} {es : List Expr} {m : Md} {f : Env → RR D} {g : Env → RR (List D)} (hm : sh = true → m ≠ .bo) (hs : notStar e = true) (h : PE X e (tD X.K T W m f)) (h' : PA X es (tDA X.K T W sh g)) :
    PA X (e :: es) (tDA X.K T W sh fun ρ => do let x ← f ρ; let xs ← g ρ; .ok (x :: xs)) := by
  refine paImp (pa_cons h h' (star_of hs es X.env)) fun σ H Q ⟨ρ, Z, st, p⟩ => ⟨ρ, Z, st, Post.thenA p fun d v H1 _ e1 r1 p1 => ⟨ρ, Z, st.ext e1, PostA.thenA p1 fun ds vs H2 _ e2 r2 p2 => ?_⟩⟩
  exact p2 (v :: vs) H2 (Ext.refl e2.tabs) (RpL.cons hm st.zdom (r1.ext e2.ext) r2)
def limL (l : List D) : RR (List D) := if l.length ≤ lim then .ok l else .bad
/-- (a, b), [a, b] -/
theorem d_tup {es : List Expr} {x1 : Nat} {g : Env → RR (List D)} (h : PA X es (tDA X.K T W true g)) : PE X (.Tuple es x1 pos) (tD X.K T W .sh fun ρ => do let xs ← g ρ; let xs ← limL xs; .ok (.tup xs)) := by
  refine peImp (pe_tup h) fun σ H Q ⟨ρ, Z, st, p⟩ => ⟨ρ, Z, st, PostA.then p fun ds vs H1 _ e1 r1 p1 => ?_⟩
  unfold limL at p1
  split at p1
  · rename_i hl
    refine ⟨by rw [Reps.length r1, lim_eq]; exact hl, fun a na => ?_⟩
    exact p1 _ _ (ext_new e1.tabs na) (rep_tup e1.tabs (st.ext e1).zdom na (by rw [lim_eq]; exact hl) r1)
  · exact p1.elim
theorem d_lst {es : List Expr} {g : Env → RR (List D)} (h : PA X es (tDA X.K T W true g)) : PE X (.List es pos) (tD X.K T W .fr fun ρ => do let xs ← g ρ; let xs ← limL xs; .ok (.lst xs)) := by
  refine peImp (pe_lst h) fun σ H Q ⟨ρ, Z, st, p⟩ => ⟨ρ, Z, st, PostA.then p fun ds vs H1 _ e1 r1 p1 => ?_⟩
  unfold limL at p1
  split at p1
  · rename_i hl
    refine ⟨by rw [Reps.length r1, lim_eq]; exact hl, fun a na => ?_⟩
    exact p1 _ _ (ext_new e1.tabs na) ⟨a, rfl, .inl na, own_lst (by rw [lim_eq]; exact hl) (.inl na) r1⟩
  · exact p1.elim
/-- f(..), a built-in -/
theorem d_bltB {x : Str} {id : String} {e : Expr} {es : List Expr} {p : Pos} {m : Md} {g : List D → Option D} {f : Env → RR (List D)} (hc : CallR X (.builtin id) (rDL X.K T m g)) (hg : Gl X x) (hm : X.mg x = none) (hv : bootBuiltins x = some (.builtin id))
    (ha : PA X (e :: es) (tDA X.K T W false f)) (hs : (e :: es).all notStar = true) (hn : x ≠ "__name__") (hdb : (x == ("__debug__" : Str)) = false) :
    PE X (.Call (.Name x p) (e :: es) [] pos) (tD X.K T W m fun ρ => do let xs ← f ρ; RR.of (g xs)) := by
  have hs' := hs
  rw [List.all_cons, Bool.and_eq_true] at hs'
  refine peImp (pe_callB hc hg hm hv ha hn hdb (star_of hs'.1 es X.env) (back_star hs'.2 X.env)) fun σ H Q ⟨ρ, Z, st, p⟩ => ⟨ρ, Z, st, PostA.then p fun ds vs H1 _ e1 r1 p1 => ?_⟩
  cases q : g ds with
  | none => rw [q] at p1; exact p1.elim
  | some r =>
    rw [q] at p1
    exact ⟨Z, ds, r, (st.ext e1).zdom, e1.tabs, r1, q, p1⟩
theorem d_bltT {x : Str} {id : String} {e : Expr} {es : List Expr} {p : Pos} {m : Md} {g : List D → Option D} {f : Env → RR (List D)} (hc : CallR X (.type id) (rDL X.K T m g)) (hg : Gl X x) (hm : X.mg x = none) (hv : bootBuiltins x = some (.type id))
    (ha : PA X (e :: es) (tDA X.K T W false f)) (hs : (e :: es).all notStar = true) (hn : x ≠ "__name__") (hdb : (x == ("__debug__" : Str)) = false) :
    PE X (.Call (.Name x p) (e :: es) [] pos) (tD X.K T W m fun ρ => do let xs ← f ρ; RR.of (g xs)) := by
  have hs' := hs
  rw [List.all_cons, Bool.and_eq_true] at hs'
  refine peImp (pe_callTy hc hg hm hv ha hn hdb (star_of hs'.1 es X.env) (back_star hs'.2 X.env)) fun σ H Q ⟨ρ, Z, st, p⟩ => ⟨ρ, Z, st, PostA.then p fun ds vs H1 _ e1 r1 p1 => ?_⟩
  cases q : g ds with
  | none => rw [q] at p1; exact p1.elim
  | some r =>
    rw [q] at p1
    exact ⟨Z, ds, r, (st.ext e1).zdom, e1.tabs, r1, q, p1⟩
/-- isinstance(x, T) -/
theorem boot_ty (t : Ty) : bootBuiltins (Str.ofString t.nm) = some (.type t.nm) := by cases t <;> decide +kernel
theorem boot_isi : bootBuiltins "isinstance" = some (.builtin "isinstance") := by decide +kernel
theorem d_isi {t : Ty} {a : Expr} {p p2 : Pos} {m : Md} {f : Env → RR D} (hg : Gl X "isinstance") (hm : X.mg "isinstance" = none) (hgt : Gl X (Str.ofString t.nm)) (hmt : X.mg (Str.ofString t.nm) = none) (hs : notStar a = true)
    (h : PE X a (tD X.K T W m f)) : PE X (.Call (.Name "isinstance" p) [a, .Name (Str.ofString t.nm) p2] [] pos) (tD X.K T W .sh fun ρ => do let x ← f ρ; isiR t x) := by
  have ht : PE X (.Name (Str.ofString t.nm) p2) (tC (.ty t.nm)) := pe_bltn hgt hmt (boot_ty t) rfl (by cases t <;> decide +kernel) (by cases t <;> decide +kernel)
  refine peImp (pe_callB call_isi hg hm boot_isi (pa_cons h (pa_cons ht pa_nil) (star_of hs _ X.env)) (by decide) (by decide) (star_of hs _ X.env) (by rfl)) fun σ H Q ⟨ρ, Z, st, p⟩ => ⟨ρ, Z, st, Post.then p fun d v H1 _ e1 r1 p1 => ?_⟩
  unfold isiR at p1
  cases ho : opq d with
  | true => rw [ho] at p1; exact p1.elim
  | false =>
    rw [ho] at p1
    exact ⟨v, .ty t.nm, .type (tyN d), .type t.nm, isTy t d, rfl, .ty _, tyX_of ho (r1.b.rep exUnhide), kit_ty (kit_D d t ho), p1 _ H1 (Ext.refl e1.tabs) rfl⟩
/-- a op b op c -/
theorem d_chn {a b c : Expr} {op op' : CmpOp} {ma mb mc : Md} {g g' : D → D → Option Bool} {fa fb fc : Env → RR D} (ho : OpR X (compareOp op) (rDC X.K T g)) (ho' : OpR X (compareOp op') (rDC X.K T g')) (ha : PE X a (tD X.K T W ma fa)) (hb : PE X b (tD X.K T W mb fb))
    (hc : PE X c (tD X.K T W mc fc)) (hm : notSet c = true) :
    PE X (.Compare a [op, op'] [b, c] pos) (tD X.K T W .sh fun ρ => do let x ← fa ρ; let y ← fb ρ; let k ← RR.of (g x y); if k then (do let z ← fc ρ; RR.of ((g' y z).map D.bl)) else .ok (.bl false)) := by
  refine peImp (pe_chain ho ho' ha hb hc (by show behindInMarks op' c = false; exact behind_of hm)) fun σ H Q ⟨ρ, Z, st, p⟩ => ⟨ρ, Z, st, Post.then p fun d v H1 _ e1 r1 p1 => ⟨ρ, Z, st.ext e1, Post.then p1 fun d2 v2 H2 _ e2 r2 p2 => ?_⟩⟩
  cases q : g d d2 with
  | none => rw [q] at p2; exact p2.elim
  | some k =>
    rw [q] at p2
    refine ⟨_, d, d2, k, exUnhide, e2.tabs, (r1.ext e2.ext).b, r2.b, q, k, rfl, ?_⟩
    cases k with
    | false => exact p2 _ H2 (Ext.refl e2.tabs) rfl
    | true =>
      refine ⟨ρ, Z, st.ext (e1.trans e2), Post.then p2 fun d3 v3 H3 _ e3 r3 p3 => ?_⟩
      cases q2 : g' d2 d3 with
      | none => rw [q2] at p3; exact p3.elim
      | some k2 =>
        rw [q2] at p3
        exact ⟨_, d2, d3, k2, exUnhide, e3.tabs, (r2.ext e3.ext).b, r3.b, q2, p3 _ H3 (Ext.refl e3.tabs) rfl⟩
theorem t_chn {a b c : Expr} {op op' : CmpOp} {ma mb mc : Md} {g g' : D → D → Option Bool} {fa fb fc : Env → RR D} (ho : OpR X (compareOp op) (rDC X.K T g)) (ho' : OpR X (compareOp op') (rDC X.K T g')) (ha : PE X a (tD X.K T W ma fa)) (hb : PE X b (tD X.K T W mb fb))
    (hc : PE X c (tD X.K T W mc fc)) (hm : notSet c = true) :
    PT X (.Compare a [op, op'] [b, c] pos) (tDT X.K T W fun ρ => (do let x ← fa ρ; let y ← fb ρ; let k ← RR.of (g x y); if k then (do let z ← fc ρ; RR.of ((g' y z).map D.bl)) else .ok (.bl false)) >>= truR) := by
  refine ptImp (pt_chain ho ho' ha hb hc (by show behindInMarks op' c = false; exact behind_of hm)) fun σ H Q ⟨ρ, Z, st, p⟩ => ⟨ρ, Z, st, ?_⟩
  have p : PostX X.K T W σ H Q (fa ρ >>= fun x => fb ρ >>= fun y => RR.of (g x y) >>= fun k => (if k then (do let z ← fc ρ; RR.of ((g' y z).map D.bl)) else .ok (.bl false)) >>= truR) := by
    simp only [RR.assoc] at p
    exact p
  refine Post.thenX p fun d v H1 _ e1 r1 p1 => ⟨ρ, Z, st.ext e1, Post.thenX p1 fun d2 v2 H2 _ e2 r2 p2 => ?_⟩
  cases q : g d d2 with
  | none => rw [q] at p2; exact p2.elim
  | some k =>
    rw [q] at p2
    refine ⟨_, d, d2, k, exUnhide, e2.tabs, (r1.ext e2.ext).b, r2.b, q, k, rfl, ?_⟩
    cases k with
    | false => exact ⟨false, rfl, p2 H2 (Ext.refl e2.tabs)⟩
    | true =>
      have p2 : PostX X.K T W σ H2 Q (fc ρ >>= fun z => RR.of ((g' d2 z).map D.bl) >>= truR) := by
        have p2 : PostX X.K T W σ H2 Q ((fc ρ >>= fun z => RR.of ((g' d2 z).map D.bl)) >>= truR) := p2
        rw [RR.assoc] at p2; exact p2
      refine ⟨ρ, Z, st.ext (e1.trans e2), Post.thenX p2 fun d3 v3 H3 _ e3 r3 p3 => ?_⟩
      cases q2 : g' d2 d3 with
      | none => rw [q2] at p3; exact p3.elim
      | some k2 =>
        rw [q2] at p3
        exact ⟨_, d2, d3, k2, exUnhide, e3.tabs, (r2.ext e3.ext).b, r3.b, q2, k2, rfl, p3 H3 (Ext.refl e3.tabs)⟩
/-- a[lo:hi] -/
def PostO (K : PySem.W.Frag) (T : Tb) (W : WX) (σ : L2.St) (H : Hp) (Q : Option Int → Hp → Prop) : RR (Option Int) → Prop := PostX K T W σ H Q
theorem o_none {Q : Option Int → Hp → Prop} {σ : L2.St} {H : Hp} (h : Q none H) : tNoPart σ H Q := h
def intO (d : D) : RR (Option Int) := match d with
  | .int i => .ok (some i)
  | _ => .bad
/-- what a part of a slice is -/
structure PartOk (X : Cx) (T : Tb) (W : WX) (e : Option Expr) (f : Env → RR (Option Int)) : Prop where
  ex : ∃ t, PO X e t ∧ ∀ σ H (Q : Option Int → Hp → Prop), (∃ ρ Z, StE X.K T Z σ H ρ ∧ PostX X.K T W σ H Q (f ρ)) → t σ H Q
theorem part_none : PartOk X T W none (fun _ => .ok none) := ⟨_, po_none, fun σ H Q ⟨ρ, Z, st, p⟩ => p H (Ext.refl st.tabs)⟩
theorem part_some {e : Expr} {m : Md} {f : Env → RR D} (h : PE X e (tD X.K T W m f)) : PartOk X T W (some e) (fun ρ => f ρ >>= intO) := ⟨_, po_some h, fun σ H Q ⟨ρ, Z, st, p⟩ => ⟨ρ, Z, st, Post.thenX p fun d v H1 _ e1 r1 p1 => by
  cases d with
  | int i =>
    have e2 := r1.b
    cases e2
    exact ⟨i, rfl, p1 H1 (Ext.refl e1.tabs)⟩
  | _ => exact p1.elim⟩⟩
theorem d_sl {a : Expr} {lo hi : Option Expr} {p2 : Pos} {m : Md} {fa : Env → RR D} {fl fh : Env → RR (Option Int)} (ha : PE X a (tD X.K T W m fa)) (hl : PartOk X T W lo fl) (hh : PartOk X T W hi fh) :
    PE X (.Subscript a (.Slice lo hi none p2) pos) (tD X.K T W .sh fun ρ => do let x ← fa ρ; let l ← fl ρ; let h ← fh ρ; RR.of (slD x l h)) := by
  obtain ⟨tl, pl, il⟩ := hl.ex
  obtain ⟨th, ph, ih⟩ := hh.ex
  refine peImp (pe_slice (sl_D (T := T)) ha pl ph) fun σ H Q ⟨ρ, Z, st, p⟩ => ⟨ρ, Z, st, Post.then p fun d v H1 _ e1 r1 p1 => il _ _ _ ⟨ρ, Z, st.ext e1, PostX.then p1 fun l H2 _ e2 p2 => ih _ _ _ ⟨ρ, Z, st.ext (e1.trans e2), PostX.then p2 fun h H3 _ e3 p3 => ?_⟩⟩⟩
  cases q : slD d l h with
  | none => rw [q] at p3; exact p3.elim
  | some r =>
    rw [q] at p3
    exact ⟨Z, d, r, (st.ext ((e1.trans e2).trans e3)).zdom, e3.tabs, (r1.ext (e2.trans e3).ext).b, q, p3⟩
end
end Py
end
section
set_option maxHeartbeats 1000000
namespace Py
open PySem PySem.Spec PyProof.Rows L2 LamX

/-! ### what is walked -/
def noHp : Hp := fun _ => none
structure WalkD (K : PySem.W.Frag) (T : Tb) (G1 F1 : Hp) (J : It) (l : List D) : Prop where
  ex : ∃ (G : Hp → Prop) (Y : Nat → Hp → V → Hp → Prop), Walk J l.length G Y ∧ (∀ H Z, ExtN G1 (hide H Z) → ExtN F1 H → G H) ∧
    ∀ i H x H' Z, i < l.length → ExtN G1 (hide H Z) → ExtN F1 H → Tabs T H → (∀ a, Z a = true → ¬ FreshAt H a) → Y i H x H' → ∃ d, l[i]? = some d ∧ Ext T H H' ∧ Rep K (hide H' Z) d x
def PostS (K : PySem.W.Frag) (T : Tb) (Z : Addr → Bool) (W : WX) (σ : L2.St) (H : Hp) (bo : Bool) (R : It → Hp → Prop) : RR (List D) → Prop
  | .ok l => ∀ J H1, Ext T H H1 → l.length ≤ sizeLine → WalkD K T (hide H1 Z) (if bo = true then H1 else noHp) J l → R J H1
  | .ex c => ∀ H', Ext T H H' → W (.ref (He.ga K c)) none σ H'
  | .bad => False
structure SrcOk (X : Cx) (T : Tb) (W : WX) (tg iter : Expr) (bo : Bool) (f : Env → RR (List D)) : Prop where
  ex : ∃ wi, PI X tg iter wi ∧ ∀ σ H R, (∃ ρ Z, StE X.K T Z σ H ρ ∧ PostS X.K T Z W σ H bo R (f ρ)) → wi σ H R
def seqD : D → RR (List D)
  | .lst l => .ok l
  | .tup l => .ok l
  | _ => .bad
def iSeq (K : PySem.W.Frag) (tl : TE) : TI := fun σ H R => tl σ H fun x H1 => ∃ a, x = .ref a ∧ (((∃ xs, SqL K H1 a xs) ∧ R (Itl K a) H1) ∨ ((∃ xs, SqT K H1 a xs) ∧ R (Itt K a) H1))
section
variable {X : Cx} {tg : Expr} {T : Tb} {W : WX}
theorem pi_seq {l : Expr} {tl : TE} (hl : PE X l tl) : PI X tg l (iSeq X.K tl) := by
  refine ⟨fun pins s σ H R I h => ?_⟩
  refine thn (hl.run pins s σ H _ I h) fun v s1 ⟨x, H1, I1, r1, q1⟩ => ?_
  obtain ⟨a, e, q⟩ := q1
  subst e
  rcases q with ⟨⟨xs, hq⟩, q⟩ | ⟨⟨xs, hq⟩, q⟩
  · have h := (pi_list (X := X) (tg := tg) (l := l) hl)
    cases r1
    obtain ⟨its, rv, p, hz⟩ := I1.list hq
    refine wpAny_pyIter_list p.isList ?_
    refine ⟨s1.heap.objs.size, [s1.heap.objs.size], _, _, H1, rfl, I1.kept (t' := s1.toks) fun b o e => Heap.get?_push_of_some _ e, turn_list a _, ⟨_, Heap.get?_push_size _ rfl, rfl, rfl⟩, fun b hb => ?_, q⟩
    have e : b = s1.heap.objs.size := by simpa using hb
    subst e
    exact I1.fpOk (Nat.le_refl _) (I1.hok.fresh (Nat.le_refl _))
  · cases r1
    obtain ⟨its, rv, p, hz⟩ := I1.tuple hq
    refine wpAny_pyIter_tuple (show s1.heap.IsTuple a its.toArray from p) ?_
    refine ⟨s1.heap.objs.size, [s1.heap.objs.size], _, _, H1, rfl, I1.kept (t' := s1.toks) fun b o e => Heap.get?_push_of_some _ e, turn_tuple a _, ⟨_, Heap.get?_push_size _ rfl, rfl, rfl⟩, fun b hb => ?_, q⟩
    have e : b = s1.heap.objs.size := by simpa using hb
    subst e
    exact I1.fpOk (Nat.le_refl _) (I1.hok.fresh (Nat.le_refl _))
theorem YAt_rep {K : PySem.W.Frag} {T : Tb} {G1 : Hp} {l : List D} {xs : List V} (r : Reps K G1 l xs) : ∀ i H x H' Z, i < l.length → ExtN G1 (hide H Z) → Tabs T H → YAt xs i H x H' → ∃ d, l[i]? = some d ∧ Ext T H H' ∧ Rep K (hide H' Z) d x := by
  intro i H x H' Z hi e t y
  obtain ⟨rfl, y⟩ := y
  obtain ⟨d, h1, h2⟩ := r.getV y
  exact ⟨d, h1, Ext.refl t, Rep.ext e d x h2⟩
theorem src_seq {e : Expr} {m : Md} {f : Env → RR D} (h : PE X e (tD X.K T W m f)) : SrcOk X T W tg e (decide (m = .bo)) (fun ρ => f ρ >>= seqD) := by
  refine ⟨_, pi_seq h, fun σ H R ⟨ρ, Z, st, p⟩ => ⟨ρ, Z, st, ?_⟩⟩
  cases q : f ρ with
  | ex c => rw [q] at p; exact p
  | bad => rw [q] at p; exact p
  | ok d =>
    rw [q] at p
    intro v H1 e1 r1
    have hz := st.zdom
    cases d with
    | tup l =>
      obtain ⟨z, a, xs, rfl, ha, ra⟩ := r1.b
      refine ⟨a, rfl, .inr ⟨⟨xs, SqT.ext exUnhide ha⟩, p _ H1 e1 z ⟨_, _, by rw [← ra.length]; exact walk_tup, fun H Z' g _ => SqT.ext exUnhide (SqT.ext g ha), fun i H x H' Z' hi g _ t _ y => YAt_rep ra i H x H' Z' hi g t y⟩⟩⟩
    | lst l =>
      cases m with
      | bo =>
        obtain ⟨a, rfl, z, xs, ha, ra⟩ := r1
        refine ⟨a, rfl, .inl ⟨⟨xs, SqL.of ha⟩, p _ H1 e1 z ⟨_, _, by rw [← ra.length]; exact walk_list, fun H Z' g f => SqL.of (f a _ ha (fun ps q => by cases q)), fun i H x H' Z' hi g _ t _ y => YAt_rep ra i H x H' Z' hi g t y⟩⟩⟩
      | sh =>
        obtain ⟨z, a, xs, rfl, ha, ra⟩ := r1
        refine ⟨a, rfl, .inl ⟨⟨xs, SqL.ext exUnhide (SqL.of ha)⟩, p _ H1 e1 z ⟨_, _, by rw [← ra.length]; exact walk_list, fun H Z' g f => SqL.ext exUnhide (SqL.ext g (SqL.of ha)), fun i H x H' Z' hi g _ t _ y => YAt_rep ra i H x H' Z' hi g t y⟩⟩⟩
      | fr =>
        obtain ⟨z, a, xs, rfl, ha, ra⟩ := r1.sh (by decide) hz
        refine ⟨a, rfl, .inl ⟨⟨xs, SqL.ext exUnhide (SqL.of ha)⟩, p _ H1 e1 z ⟨_, _, by rw [← ra.length]; exact walk_list, fun H Z' g f => SqL.ext exUnhide (SqL.ext g (SqL.of ha)), fun i H x H' Z' hi g _ t _ y => YAt_rep ra i H x H' Z' hi g t y⟩⟩⟩
    | _ => exact (show False from p).elim
/-- range(n), range(a, b) -/
def rangeD (a b : Int) : List D := (List.range (b - a).toNat).map fun (i : Nat) => D.int (a + i)
def rngOk (a b : Int) : Bool := decide (-(2 ^ 60) ≤ a) && decide (a < 2 ^ 60) && decide (-(2 ^ 60) ≤ b) && decide (b < 2 ^ 60) && decide ((b - a).toNat ≤ lim)
def rng1D : D → RR (List D)
  | .int b => if rngOk 0 b then .ok (rangeD 0 b) else .bad
  | _ => .bad
def rng2D : D → D → RR (List D)
  | .int a, .int b => if rngOk a b then .ok (rangeD a b) else .bad
  | _, _ => .bad
theorem walkD_range {K : PySem.W.Frag} {T : Tb} {G1 F1 : Hp} {a b : Int} : WalkD K T G1 F1 (Itr a (b - a).toNat) (rangeD a b) := by
  refine ⟨_, _, by unfold rangeD; rw [List.length_map, List.length_range]; exact walk_range, fun _ _ _ _ => trivial, fun i H x H' Z hi _ _ t _ y => ?_⟩
  obtain ⟨rfl, rfl⟩ := y
  unfold rangeD at hi
  rw [List.length_map, List.length_range] at hi
  exact ⟨.int (a + i), by unfold rangeD; simp [hi], Ext.refl t, rfl⟩
theorem src_rng1 {e : Expr} {p pos : Pos} {m : Md} {f : Env → RR D} (hg : Gl X "range") (hm : X.mg "range" = none) (hs : notStar e = true) (h : PE X e (tD X.K T W m f)) : SrcOk X T W tg (.Call (.Name "range" p) [e] [] pos) false (fun ρ => f ρ >>= rng1D) := by
  refine ⟨_, pi_range1 hg hm (pa_cons h pa_nil (star_of hs [] X.env)) (star_of hs [] X.env), fun σ H R ⟨ρ, Z, st, p⟩ => ⟨ρ, Z, st, ?_⟩⟩
  cases q : f ρ with
  | ex c => rw [q] at p; exact p
  | bad => rw [q] at p; exact p
  | ok d =>
    rw [q] at p
    intro v H1 e1 r1
    cases d with
    | int b =>
      have e2 : v = .int b := r1.b
      subst e2
      have p : PostS X.K T Z W σ H false R (if rngOk 0 b then .ok (rangeD 0 b) else .bad) := p
      split at p
      · rename_i hc
        simp only [rngOk, Bool.and_eq_true, decide_eq_true_eq] at hc
        refine ⟨b, rfl, by omega, by omega, ?_⟩
        have w := walkD_range (K := X.K) (T := T) (G1 := hide H1 Z) (F1 := noHp) (a := 0) (b := b)
        rw [Int.sub_zero] at w
        exact p _ H1 e1 (by unfold rangeD; rw [List.length_map, List.length_range, lim_eq]; exact hc.2) w
      · exact p.elim
    | _ => exact (show False from p).elim
theorem src_rng2 {e e' : Expr} {p pos : Pos} {m m' : Md} {f f' : Env → RR D} (hg : Gl X "range") (hm : X.mg "range" = none) (hs : notStar e = true) (hs' : notStar e' = true) (h : PE X e (tD X.K T W m f)) (h' : PE X e' (tD X.K T W m' f')) :
    SrcOk X T W tg (.Call (.Name "range" p) [e, e'] [] pos) false (fun ρ => do let a ← f ρ; let b ← f' ρ; rng2D a b) := by
  refine ⟨_, pi_range2 hg hm (pa_cons h (pa_cons h' pa_nil (star_of hs' [] X.env)) (star_of hs _ X.env)) (by rw [star_of hs, star_of hs']; rfl) (by rw [star_of hs']; rfl), fun σ H R ⟨ρ, Z, st, p⟩ => ⟨ρ, Z, st, ?_⟩⟩
  cases q : f ρ with
  | ex c => rw [q] at p; exact p
  | bad => rw [q] at p; exact p
  | ok d =>
    rw [q] at p
    intro v H1 e1 r1
    refine ⟨ρ, Z, st.ext e1, ?_⟩
    cases q' : f' ρ with
    | ex c => simp only [RR.bind_ok, q'] at p; exact fun H' e' => p H' (e1.trans e')
    | bad => simp only [RR.bind_ok, q'] at p; exact p
    | ok d' =>
      simp only [RR.bind_ok, q'] at p
      intro v' H2 e2 r2
      cases d with
      | int a =>
        cases d' with
        | int b =>
          have x1 : v = .int a := r1.b
          have x2 : v' = .int b := r2.b
          subst x1 x2
          have p : PostS X.K T Z W σ H false R (if rngOk a b then .ok (rangeD a b) else .bad) := p
          split at p
          · rename_i hc
            simp only [rngOk, Bool.and_eq_true, decide_eq_true_eq] at hc
            refine ⟨a, b, rfl, by omega, ?_⟩
            exact p _ H2 (e1.trans e2) (by unfold rangeD; rw [List.length_map, List.length_range, lim_eq]; exact hc.2) walkD_range
          · exact p.elim
        | _ => exact (show False from p).elim
      | _ => exact (show False from p).elim
end
end Py
end
section
set_option maxHeartbeats 1000000
namespace Py
open PySem PySem.Spec PyProof.Rows L2 LamX

/-! ### targets -/
inductive Tg where | v (i : Nat) | t (l : List Nat)
def setV : List Nat → List V → L2.St → L2.St
  | i :: is, v :: vs, σ => setV is vs (σ.set i (some v))
  | _, _, σ => σ
def setD : List Nat → List D → Env → Env
  | i :: is, d :: ds, ρ => setD is ds (ρ.set i (some (false, d)))
  | _, _, ρ => ρ
def bindT : Tg → D → Env → RR Env
  | .v i, d, ρ => .ok (ρ.set i (some (false, d)))
  | .t is, .tup l, ρ => if l.length = is.length then .ok (setD is l ρ) else .bad
  | _, _, _ => .bad
theorem StE.set {K : PySem.W.Frag} {T : Tb} {Z : Addr → Bool} {σ : L2.St} {H : Hp} {ρ : Env} (h : StE K T Z σ H ρ) {d : D} {v : V} (r : Rep K (hide H Z) d v) (i : Nat) : StE K T Z (σ.set i (some v)) H (ρ.set i (some (false, d))) := by
  refine ⟨fun j s q => ?_, fun j k a d' e q1 q2 q3 q4 => ?_, h.zdom, h.tabs, by rw [List.length_set, List.length_set]; exact h.len⟩
  · by_cases hj : i = j
    · subst hj
      rw [List.getElem?_set_self'] at q ⊢
      cases e : ρ[i]? with
      | none => rw [e] at q; cases q
      | some o =>
        rw [e] at q
        have q' : some (some (false, d)) = some (some s) := q
        have hi : i < σ.length := by
          rw [← h.len]
          exact (List.getElem?_eq_some_iff.mp e).1
        cases q'
        exact ⟨v, by rw [List.getElem?_eq_getElem hi]; rfl, r⟩
    · rw [List.getElem?_set_ne hj] at q ⊢
      exact h.slot j s q
  · have nj : ∀ (j : Nat) (d' : D), (ρ.set i (some (false, d)))[j]? = some (some (true, d')) → i ≠ j ∧ ρ[j]? = some (some (true, d')) := fun j d' q => by
      by_cases hj : i = j
      · subst hj
        rw [List.getElem?_set_self'] at q
        cases e : ρ[i]? with
        | none => rw [e] at q; cases q
        | some o => rw [e] at q; cases (show some (some (false, d)) = some (some (true, d')) from q)
      · rw [List.getElem?_set_ne hj] at q
        exact ⟨hj, q⟩
    obtain ⟨n1, w1⟩ := nj j d' q1
    obtain ⟨n2, w2⟩ := nj k e q2
    rw [List.getElem?_set_ne n1] at q3
    rw [List.getElem?_set_ne n2] at q4
    exact h.dist j k a d' e w1 w2 q3 q4
theorem StE.setAll {K : PySem.W.Frag} {T : Tb} {Z : Addr → Bool} {H : Hp} : ∀ (is : List Nat) {l : List D} {xs : List V} {σ : L2.St} {ρ : Env}, StE K T Z σ H ρ → Reps K (hide H Z) l xs → StE K T Z (setV is xs σ) H (setD is l ρ)
  | [], l, xs, σ, ρ, h, r => h
  | i :: is, [], xs, σ, ρ, h, r => by rw [show xs = [] from r]; exact h
  | i :: is, d :: l, xs, σ, ρ, h, r => by
    obtain ⟨v, vs, rfl, h1, h2⟩ := r
    exact StE.setAll is (h.set h1 i) h2
theorem StE.unset {K : PySem.W.Frag} {T : Tb} {Z : Addr → Bool} {σ : L2.St} {H : Hp} {ρ : Env} (h : StE K T Z σ H ρ) (i : Nat) : StE K T Z (σ.set i none) H (ρ.set i none) := by
  have nj : ∀ (j : Nat) (s : Bool × D), (ρ.set i none)[j]? = some (some s) → i ≠ j ∧ ρ[j]? = some (some s) := fun j s q => by
    by_cases hj : i = j
    · subst hj
      rw [List.getElem?_set_self'] at q
      cases e : ρ[i]? with
      | none => rw [e] at q; cases q
      | some o => rw [e] at q; cases (show some (none : Option (Bool × D)) = some (some s) from q)
    · rw [List.getElem?_set_ne hj] at q
      exact ⟨hj, q⟩
  refine ⟨fun j s q => ?_, fun j k a d' e q1 q2 q3 q4 => ?_, h.zdom, h.tabs, by rw [List.length_set, List.length_set]; exact h.len⟩
  · obtain ⟨n1, w1⟩ := nj j s q
    rw [List.getElem?_set_ne n1]
    exact h.slot j s w1
  · obtain ⟨n1, w1⟩ := nj j _ q1
    obtain ⟨n2, w2⟩ := nj k _ q2
    rw [List.getElem?_set_ne n1] at q3
    rw [List.getElem?_set_ne n2] at q4
    exact h.dist j k a d' e w1 w2 q3 q4
def wipeD (ρ : Env) : List Nat → Env
  | [] => ρ
  | v :: vs => (wipeD ρ vs).set v none
theorem StE.wipe {K : PySem.W.Frag} {T : Tb} {Z : Addr → Bool} {σ : L2.St} {H : Hp} {ρ : Env} (h : StE K T Z σ H ρ) : ∀ vs : List Nat, StE K T Z (L2.wipe σ vs) H (wipeD ρ vs)
  | [] => h
  | v :: vs => (StE.wipe h vs).unset v
/-- more is hidden -/
theorem StE.more {K : PySem.W.Frag} {T : Tb} {Z : Addr → Bool} {σ : L2.St} {H : Hp} {ρ : Env} (h : StE K T Z σ H ρ) {p : Addr} {o : HO} (n : FreshAt H p) (ht : ∀ ps, o ≠ .tbl ps) (e : Ext T H (upd H p o)) : StE K T (Zs Z p) σ (upd H p o) ρ := by
  have g : ExtN (hide H Z) (hide (upd H p o) (Zs Z p)) := fun b u q nt => by rw [hide_zs]; exact exZs n b u q nt
  refine ⟨fun i s q => ?_, h.dist, fun a za f => ?_, e.tabs, h.len⟩
  · obtain ⟨v, q1, q2⟩ := h.slot i s q
    refine ⟨v, q1, ?_⟩
    obtain ⟨ow, d⟩ := s
    cases ow with
    | true =>
      obtain ⟨a, rfl, za, oa⟩ := q2
      exact ⟨a, rfl, zs_sub a za, oa.ext g e.ext⟩
    | false => exact Rep.ext g d v q2
  · by_cases ha : a = p
    · subst ha
      rcases f with f | ⟨ps, f⟩
      · rw [upd_same] at f; cases f
      · rw [upd_same] at f; cases f; exact ht ps rfl
    · have z : Z a = true := by
        unfold Zs at za
        simpa [ha] using za
      exact h.zdom a z (f.back e.ext)
theorem wipe_set {σ : L2.St} {i : Nat} {o : Option V} : ∀ {vs : List Nat}, i ∈ vs → L2.wipe (σ.set i o) vs = L2.wipe σ vs
  | v :: vs, h => by
    unfold L2.wipe
    by_cases hi : i ∈ vs
    · rw [wipe_set hi]
    · have e : i = v := by
        rcases List.mem_cons.mp h with e | e
        · exact e
        · exact (hi e).elim
      subst e
      have : ∀ (σ : L2.St) (vs : List Nat), i ∉ vs → L2.wipe (σ.set i o) vs = (L2.wipe σ vs).set i o := by
        intro σ vs hv
        induction vs with
        | nil => rfl
        | cons w ws ih =>
          simp only [List.mem_cons, not_or] at hv
          unfold L2.wipe
          rw [ih hv.2, List.set_comm _ _ (fun q => hv.1 q)]
      rw [this σ vs hi, List.set_set]
theorem wipe_setV {vs : List Nat} : ∀ {is : List Nat} {xs : List V} {σ : L2.St}, (∀ i ∈ is, i ∈ vs) → L2.wipe (setV is xs σ) vs = L2.wipe σ vs
  | [], xs, σ, h => rfl
  | i :: is, [], σ, h => rfl
  | i :: is, x :: xs, σ, h => by
    unfold setV
    rw [wipe_setV fun j hj => h j (List.mem_cons_of_mem _ hj), wipe_set (h i List.mem_cons_self)]
theorem wipe_wipe {σ : L2.St} : ∀ {vs : List Nat}, L2.wipe (L2.wipe σ vs) vs = L2.wipe σ vs := by
  intro vs
  have key : ∀ (us : List Nat), (∀ u ∈ us, u ∈ vs) → L2.wipe (L2.wipe σ us) vs = L2.wipe σ vs := by
    intro us
    induction us with
    | nil => intro _; rfl
    | cons u us ih =>
      intro h
      conv => lhs; arg 1; unfold L2.wipe
      rw [wipe_set (h u List.mem_cons_self)]
      exact ih fun w hw => h w (List.mem_cons_of_mem _ hw)
  exact key vs fun _ h => h
def Tg.slots : Tg → List Nat
  | .v i => [i]
  | .t l => l
def tgs : List Nat → TGs
  | [] => gNil
  | i :: is => gCons (gName i) (tgs is)
theorem tgs_of {H : Hp} {Q : L2.St → Hp → Prop} : ∀ {is : List Nat} {xs : List V} {σ : L2.St}, xs.length = is.length → Q (setV is xs σ) H → tgs is xs σ H Q
  | [], xs, σ, h, q => ⟨List.length_eq_zero_iff.mp h, by
    have e : xs = [] := List.length_eq_zero_iff.mp h
    subst e; exact q⟩
  | i :: is, [], σ, h, q => by simp at h
  | i :: is, x :: xs, σ, h, q => ⟨x, xs, rfl, tgs_of (by simpa using h) q⟩
/-- a target's rule -/
def gOf (K : PySem.W.Frag) : Tg → TG
  | .v i => gName i
  | .t is => gTup K is.length (tgs is)
theorem gOf_of {K : PySem.W.Frag} {t : Tg} {T : Tb} {Z : Addr → Bool} {v : V} {σ : L2.St} {H : Hp} {Q : L2.St → Hp → Prop} {ρ ρ' : Env} {d : D} (st : StE K T Z σ H ρ) (r : Rep K (hide H Z) d v) (e : bindT t d ρ = .ok ρ')
    (h : ∀ σ', StE K T Z σ' H ρ' → (∀ vs : List Nat, (∀ i ∈ t.slots, i ∈ vs) → L2.wipe σ' vs = L2.wipe σ vs) → Q σ' H) : gOf K t v σ H Q := by
  cases t with
  | v i =>
    cases e
    exact h _ (st.set r i) fun vs hv => wipe_set (hv i List.mem_cons_self)
  | t is =>
    cases d <;> simp only [bindT, reduceCtorEq] at e
    split at e
    · rename_i l hl
      cases e
      obtain ⟨z, a, xs, rfl, ha, ra⟩ := r
      refine ⟨a, xs, rfl, SqT.ext exUnhide ha, by rw [ra.length, hl], tgs_of (by rw [ra.length, hl]) ?_⟩
      exact h _ (StE.setAll is st ra) fun vs hv => wipe_setV hv
    · cases e
theorem tg_v {X : Cx} {i : Nat} {x : Str} {pos : Pos} (hN : X.N.Nodup) (hi : X.N[i]? = some x) (hx : Loc X.env.scope x) (hf : X.fn x = true ∨ X.env.scope.names.lookup x = some .local) : PG X (.Name x pos) (gOf X.K (.v i)) := pg_name hN hi hx hf
structure TgsOk (X : Cx) (es : List Expr) (is : List Nat) : Prop where
  pg : PGs X es (tgs is)
  len : (assignEach es X.env).length = is.length
  st : (assignEach es X.env).findIdx? (·.1) = none
theorem tgs_nil {X : Cx} : TgsOk X [] [] := ⟨pgs_nil, rfl, rfl⟩
theorem tgs_cons {X : Cx} {i : Nat} {x : Str} {pos : Pos} {es : List Expr} {is : List Nat} (hN : X.N.Nodup) (hi : X.N[i]? = some x) (hx : Loc X.env.scope x) (hf : X.fn x = true ∨ X.env.scope.names.lookup x = some .local) (h : TgsOk X es is) : TgsOk X (.Name x pos :: es) (i :: is) := by
  refine ⟨pgs_cons (pg_name hN hi hx hf) h.pg (by rfl), ?_, ?_⟩
  · show ((false, assign (.Name x pos) X.env) :: assignEach es X.env).length = _
    rw [List.length_cons, List.length_cons, h.len]
  · show ((false, assign (.Name x pos) X.env) :: assignEach es X.env).findIdx? (·.1) = none
    rw [List.findIdx?_cons, h.st]; rfl
theorem tg_t {X : Cx} {es : List Expr} {is : List Nat} {k : Nat} {pos : Pos} (hc : X.calm = true) (h : TgsOk X es is) : PG X (.Tuple es k pos) (gOf X.K (.t is)) := pg_tup (n := is.length) hc h.pg h.len h.st
end Py
end
section
set_option maxHeartbeats 1000000
namespace Py
open PySem PySem.Spec PyProof.Rows L2 LamX

/-! ### comprehensions -/
/-- each item's turn: nothing, or an item; what is raised in it isn't served -/
def mapC (f : D → RR (Option D)) : List D → RR (List D)
  | [] => .ok []
  | d :: l => match f d with
    | .ok o => (mapC f l).bind fun r => .ok (o.toList ++ r)
    | _ => .bad
theorem mapC_len {f : D → RR (Option D)} : ∀ {l out : List D}, mapC f l = .ok out → out.length ≤ l.length
  | [], out, h => by cases h; exact Nat.le_refl _
  | d :: l, out, h => by
    unfold mapC at h
    cases q : f d with
    | ok o =>
      rw [q] at h
      simp only at h
      cases q2 : mapC f l with
      | ok r =>
        rw [q2] at h
        cases h
        have := mapC_len q2
        rw [List.length_append, List.length_cons]
        cases o <;> simp <;> omega
      | ex c => rw [q2] at h; cases h
      | bad => rw [q2] at h; cases h
    | ex c => rw [q] at h; cases h
    | bad => rw [q] at h; cases h
abbrev noW : WX := fun _ _ _ _ => False
/-- an item's turn: the target, the test, the element -/
def turnC (t : Tg) (vs : List Nat) (ρ : Env) (fc : Env → RR Bool) (fe : Env → RR D) (d : D) : RR (Option D) := do
  let ρ1 ← bindT t d (wipeD ρ vs)
  let k ← fc ρ1
  if k then (do let x ← fe ρ1; .ok (some x)) else .ok none
theorem stE_own {K : PySem.W.Frag} {T : Tb} {Z : Addr → Bool} {σ : L2.St} {H : Hp} {ρ : Env} (h : StE K T Z σ H ρ) {D : Addr} {ys : List V} (n : FreshAt H D) (e : Ext T H (upd H D (.lst ys))) : StE K T (Zs Z D) σ (upd H D (.lst ys)) ρ :=
  h.more n (fun ps q => by cases q) e
section
variable {X : Cx} {T : Tb} {W : WX} {pos : Pos}
/-- the list that grows is hidden: what stands is not touched -/
theorem ext_grow {H0 H : Hp} {D : Addr} {ys zs : List V} (e : Ext T H0 H) (n : H0 D = none) (hD : H D = some (.lst ys)) : Ext T H0 (upd H D (.lst zs)) := by
  have k : ∀ b u, H b = some u → b ≠ D → upd H D (.lst zs) b = some u := fun b u h nb => by rw [upd_ne nb]; exact h
  refine ⟨fun b u h nt => ?_, fun p hp => ?_⟩
  · have nb : b ≠ D := ne_of_none h n
    exact k b u (e.ext b u h nt) nb
  · obtain ⟨ps, h1, h2, h3⟩ := e.tabs p hp
    have nP : p.1 ≠ D := fun q => by rw [q, hD] at h1; cases h1
    refine ⟨ps, k _ _ h1 nP, h2, fun pos cv hc => ?_⟩
    obtain ⟨c, e1, e2⟩ := h3 pos cv hc
    refine ⟨c, e1, k _ _ e2 fun q => ?_⟩
    rw [q, hD] at e2
    unfold CodeO at e2
    cases e2
theorem stE_grow {K : PySem.W.Frag} {Z : Addr → Bool} {σ : L2.St} {H : Hp} {ρ : Env} {D : Addr} {ys zs : List V} (h : StE K T Z σ H ρ) (hZ : Z D = true) (hD : H D = some (.lst ys)) (hn : ∀ (i : Nat) (v : Addr) (d : Py.D), ρ[i]? = some (some (true, d)) → σ[i]? = some (some (V.ref v)) → v ≠ D) : StE K T Z σ (upd H D (.lst zs)) ρ := by
  have hh : hide (upd H D (.lst zs)) Z = hide H Z := by
    funext b
    unfold hide
    by_cases hb : b = D
    · subst hb; rw [hZ]; rfl
    · rw [upd_ne hb]
  refine ⟨fun i s q => ?_, h.dist, fun a za f => ?_, fun p hp => ?_, h.len⟩
  · obtain ⟨v, q1, q2⟩ := h.slot i s q
    refine ⟨v, q1, ?_⟩
    obtain ⟨o, d⟩ := s
    cases o with
    | false =>
      have q2 : Rep K (hide H Z) d v := q2
      show Rep K (hide (upd H D (.lst zs)) Z) d v
      rw [hh]; exact q2
    | true =>
      obtain ⟨a, rfl, za, oa⟩ := q2
      refine ⟨a, rfl, za, ?_⟩
      have na := hn i a d q q1
      rw [hh]
      cases d with
      | lst l =>
        obtain ⟨z, xs, h1, h2⟩ := oa
        exact ⟨z, xs, by rw [upd_ne na]; exact h1, h2⟩
      | dic ks vs =>
        obtain ⟨kvs, h1, h3, h2⟩ := oa
        exact ⟨kvs, by rw [upd_ne na]; exact h1, h3, h2⟩
      | _ => exact False.elim oa
  · by_cases ha : a = D
    · subst ha
      rcases f with f | ⟨ps, f⟩
      · rw [upd_same] at f; cases f
      · rw [upd_same] at f; cases f
    · refine h.zdom a za ?_
      rcases f with f | ⟨ps, f⟩
      · rw [upd_ne ha] at f; exact .inl f
      · rw [upd_ne ha] at f; exact .inr ⟨ps, f⟩
  · have k : ∀ b u, H b = some u → b ≠ D → upd H D (.lst zs) b = some u := fun b u h nb => by rw [upd_ne nb]; exact h
    obtain ⟨ps, h1, h2, h3⟩ := h.tabs p hp
    have nP : p.1 ≠ D := fun q => by rw [q, hD] at h1; cases h1
    refine ⟨ps, k _ _ h1 nP, h2, fun pos cv hc => ?_⟩
    obtain ⟨c, e1, e2⟩ := h3 pos cv hc
    refine ⟨c, e1, k _ _ e2 fun q => ?_⟩
    rw [q, hD] at e2
    unfold CodeO at e2
    cases e2
theorem takes0N {X : Cx} : L2N.Takes X (fun _ _ _ _ => False) := fun _ _ x => by
  obtain ⟨_, _, _, _, _, _, _, _, _, _, _, _, _, _, _, _, z⟩ := x
  exact z.elim
theorem takes_blk {s : Shared} {H : Hp} {scope : Scope} {cenv : PySem.Env} {fp : List Addr} : L2N.Takes (X.blk s H scope cenv fp) noW := takes0N
/-- the core: over any source -/
theorem comp_core {t : Tg} {vs : List Nat} {bo : Bool} {fs : Env → RR (List D)} {m : Md} {fc : Env → RR Bool} {fe : Env → RR D} {tt : TT} {te : TE}
    (hslot : ∀ i ∈ t.slots, i ∈ vs) (hme : m ≠ .bo)
    (htt : ∀ σ H Q, tDT X.K T noW fc σ H Q → tt σ H Q) (hte : ∀ σ H Q, tD X.K T noW m fe σ H Q → te σ H Q)
    {wi : TI} (hs : ∀ σ H R, (∃ ρ Z, StE X.K T Z σ H ρ ∧ PostS X.K T Z W σ H bo R (fs ρ)) → wi σ H R) {σ : L2.St} {H : Hp} {Q : VK} {ρ : Env} {Z : Addr → Bool} (st : StE X.K T Z σ H ρ)
    (p : Post X.K T Z W σ H .fr Q (fs ρ >>= fun l => mapC (turnC t vs ρ fc fe) l >>= fun out => .ok (.lst out))) : tLc wi (gOf X.K t) tt te vs σ H Q := by
  refine hs σ H _ ⟨ρ, Z, st, ?_⟩
  cases q : fs ρ with
  | ex c => rw [q] at p; exact p
  | bad => rw [q] at p; exact p
  | ok l =>
    rw [q] at p
    intro J H1 e1 hl w D hD
    obtain ⟨G, Y, wk, wG, wY⟩ := w.ex
    -- what the comprehension gives
    have p1 : Post X.K T Z W σ H1 .fr Q (mapC (turnC t vs ρ fc fe) l >>= fun out => .ok (.lst out)) := Post.from p e1
    have st1 := st.ext e1
    cases q2 : mapC (turnC t vs ρ fc fe) l with
    | ex c =>
      exfalso
      have : ∀ (f : Py.D → RR (Option Py.D)) (l : List Py.D) (c : Str), mapC f l ≠ .ex c := by
        intro f l
        induction l with
        | nil => intro c h; cases h
        | cons d l ih =>
          intro c h
          unfold mapC at h
          cases q : f d with
          | ok o =>
            rw [q] at h
            simp only at h
            cases q2 : mapC f l with
            | ok r => rw [q2] at h; cases h
            | ex c' => exact ih c' q2
            | bad => rw [q2] at h; cases h
          | ex c => rw [q] at h; cases h
          | bad => rw [q] at h; cases h
      exact this _ _ _ q2
    | bad => rw [q2] at p1; exact p1.elim
    | ok out =>
      rw [q2] at p1
      have p1 : ∀ v H', Ext T H1 H' → RepV X.K Z H1 H' .fr (.lst out) v → Q v H' := p1
      have outl := mapC_len q2
      -- the invariant
      refine lc_it wk (fun i Hi => ∃ acc ds rest, Hi D = some (.lst acc) ∧ Reps X.K (hide Hi (Zs Z D)) ds acc ∧ mapC (turnC t vs ρ fc fe) (l.drop i) = .ok rest ∧ out = ds ++ rest ∧ ds.length ≤ i ∧ Ext T H1 Hi ∧ StE X.K T (Zs Z D) σ Hi ρ)
        ?_ (fun i Hi _ ⟨acc, ds, rest, h1, h2, h3, h4, h5, h6, h7⟩ => wG Hi (Zs Z D) ?_ ?_) ?_ ?_
      · exact ⟨[], [], out, upd_same, rfl, by rw [List.drop_zero]; exact q2, rfl, Nat.le_refl _, ext_new e1.tabs hD, stE_own st1 (.inl hD) (ext_new e1.tabs hD)⟩
      · -- the shared heap at the source
        have a1 : ExtN (hide H1 Z) (hide H1 (Zs Z D)) := exZs (.inl hD)
        exact a1.trans (exHide h6.ext)
      · cases bo with
        | true => exact h6.ext
        | false => exact fun b o h => by cases h
      · rintro i x Hi H' hi ⟨acc, ds, rest, h1, h2, h3, h4, h5, h6, h7⟩ y
        have a1 : ExtN (hide H1 Z) (hide Hi (Zs Z D)) := (exZs (.inl hD)).trans (exHide h6.ext)
        have a2 : ExtN (if bo = true then H1 else noHp) Hi := by
          cases bo with
          | true => exact h6.ext
          | false => exact fun b o h => by cases h
        obtain ⟨d, hd, e2, rd⟩ := wY i Hi x H' (Zs Z D) hi a1 a2 h6.tabs h7.zdom y
        have hdr : l.drop i = d :: l.drop (i + 1) := by
          have := List.drop_eq_getElem_cons hi
          rw [this]
          have e : l[i] = d := by
            rw [List.getElem?_eq_getElem hi] at hd
            exact Option.some.inj hd
          rw [e]
        rw [hdr] at h3
        unfold mapC at h3
        cases ft : turnC t vs ρ fc fe d with
        | ex c => rw [ft] at h3; cases h3
        | bad => rw [ft] at h3; cases h3
        | ok o =>
          rw [ft] at h3
          simp only at h3
          cases fr : mapC (turnC t vs ρ fc fe) (l.drop (i + 1)) with
          | ex c => rw [fr] at h3; cases h3
          | bad => rw [fr] at h3; cases h3
          | ok rest' =>
            rw [fr] at h3
            cases h3
            unfold turnC at ft
            have hst := (h7.ext e2).wipe vs
            cases fb : bindT t d (wipeD ρ vs) with
            | ex c => rw [fb] at ft; cases ft
            | bad => rw [fb] at ft; cases ft
            | ok ρ1 =>
              rw [fb] at ft
              refine gOf_of hst rd fb fun σ2 st2 hw => ⟨by rw [hw vs hslot, wipe_wipe], ?_⟩
              have dH' : H' D = some (.lst acc) := e2.ext D _ h1 (fun ps q => by cases q)
              refine htt _ _ _ ⟨ρ1, Zs Z D, st2, ?_⟩
              simp only [RR.bind_ok] at ft
              cases fk : fc ρ1 with
              | ex c => rw [fk] at ft; cases ft
              | bad => rw [fk] at ft; cases ft
              | ok k =>
                rw [fk] at ft
                intro H3 e3
                have dH3 : H3 D = some (.lst acc) := e3.ext D _ dH' (fun ps q => by cases q)
                cases k with
                | false =>
                  rw [if_neg Bool.false_ne_true]
                  have ft : RR.ok (none : Option Py.D) = .ok o := ft
                  cases ft
                  refine ⟨acc, ds, rest', dH3, Reps.ext (exHide (e2.ext.trans e3.ext)) _ _ h2, rfl, by simpa using h4, by omega, (h6.trans e2).trans e3, (h7.ext e2).ext e3⟩
                | true =>
                  rw [if_pos rfl]
                  refine hte _ _ _ ⟨ρ1, Zs Z D, st2.ext e3, ?_⟩
                  simp only [RR.bind_ok, if_true] at ft
                  cases fx : fe ρ1 with
                  | ex c => rw [fx] at ft; cases ft
                  | bad => rw [fx] at ft; cases ft
                  | ok xd =>
                    rw [fx] at ft
                    cases ft
                    intro y4 H4 e4 r4
                    have dH4 : H4 D = some (.lst acc) := e4.ext D _ dH3 (fun ps q => by cases q)
                    have rsh := r4.sh hme (st2.ext e3).zdom
                    have al : acc.length = ds.length := h2.length
                    refine ⟨acc, dH4, by omega, acc ++ [y4], ds ++ [xd], rest', upd_same, ?_, rfl, by simpa using h4, by rw [List.length_append, List.length_singleton]; omega, ?_, ?_⟩
                    · have hh : hide (upd H4 D (.lst (acc ++ [y4]))) (Zs Z D) = hide H4 (Zs Z D) := hide_zs
                      rw [hh]
                      exact (Reps.ext (exHide ((e2.ext.trans e3.ext).trans e4.ext)) _ _ h2).append ⟨y4, [], rfl, rsh, rfl⟩
                    · exact ext_grow (((h6.trans e2).trans e3).trans e4) hD dH4
                    · refine stE_grow (((h7.ext e2).ext e3).ext e4) zs_self dH4 fun j v dd j1 j2 => ?_
                      -- an owned name's list stood ahead of the comprehension
                      obtain ⟨v', k1, k2⟩ := st1.slot j _ j1
                      obtain ⟨a, rfl, za, oa⟩ := k2
                      rw [k1] at j2
                      cases j2
                      intro e
                      subst e
                      exact st1.zdom _ za (.inl hD)
      · rintro Hn ⟨acc, ds, rest, h1, h2, h3, h4, h5, h6, h7⟩
        rw [List.drop_length] at h3
        cases h3
        rw [List.append_nil] at h4
        subst h4
        refine p1 (.ref D) Hn h6 ⟨D, rfl, .inl hD, Nat.le_trans outl hl, acc, h1, h2⟩
end
end Py
end
section
set_option maxHeartbeats 1000000
namespace Py
open PySem PySem.Spec PyProof.Rows L2 LamX

section
variable {X : Cx} {T : Tb} {W : WX} {pos : Pos}
def compF (t : Tg) (vs : List Nat) (fs : Env → RR (List D)) (fc : Env → RR Bool) (fe : Env → RR D) (ρ : Env) : RR D := do
  let l ← fs ρ
  let out ← mapC (turnC t vs ρ fc fe) l
  .ok (.lst out)
def okTrue : Env → RR Bool := fun _ => .ok true
theorem yes_of {σ : L2.St} {H : Hp} {Q : Bool → Hp → Prop} (h : tDT X.K T noW okTrue σ H Q) : tYes σ H Q := by
  obtain ⟨ρ, Z, st, p⟩ := h
  exact p H (Ext.refl st.tabs)
/-- [elt for tg in iter] and [elt for tg in iter if c] as readings -/
theorem lc_read {t : Tg} {vs : List Nat} {bo : Bool} {fs : Env → RR (List D)} {m : Md} {fc : Env → RR Bool} {fe : Env → RR D} {tt : TT} {wi : TI}
    (hslot : ∀ i ∈ t.slots, i ∈ vs) (hme : m ≠ .bo) (htt : ∀ σ H Q, tDT X.K T noW fc σ H Q → tt σ H Q)
    (hs : ∀ σ H R, (∃ ρ Z, StE X.K T Z σ H ρ ∧ PostS X.K T Z W σ H bo R (fs ρ)) → wi σ H R) {σ : L2.St} {H : Hp} {Q : VK} (h : tD X.K T W .fr (compF t vs fs fc fe) σ H Q) : tLc wi (gOf X.K t) tt (tD X.K T noW m fe) vs σ H Q := by
  obtain ⟨ρ, Z, st, p⟩ := h
  exact comp_core hslot hme htt (fun _ _ _ h => h) hs st p
theorem d_comp {elt tg iter : Expr} {scope : Scope} {own : List (Str × Nat)} {t : Tg} {bo : Bool} {fs : Env → RR (List D)} {m : Md} {fe : Env → RR D} (hc : X.calm = true) (hN : X.N.Nodup) (hi : SrcOk X T W tg iter bo fs) (ok : BlkOk X.N X.env.scope scope own)
    (hg : ∀ (s : Shared) (H : Hp) (C : Addr) (cl : List (Str × Addr)) (fp : List Addr), PG (X.blk s H scope (compEnvC scope cl C X.env) fp) tg (gOf X.K t))
    (he : ∀ (s : Shared) (H : Hp) (C : Addr) (cl : List (Str × Addr)) (fp : List Addr), PE (X.blk s H scope (compEnvC scope cl C X.env) fp) elt (tD X.K T noW m fe)) (hf : notSet iter = true)
    (hslot : ∀ i ∈ t.slots, i ∈ own.map (·.2)) (hme : m ≠ .bo) :
    PE X (.ListComp elt [⟨tg, iter, [], 0⟩] scope pos) (tD X.K T W .fr (compF t (own.map (·.2)) fs okTrue fe)) := by
  obtain ⟨wi, pi, ii⟩ := hi.ex
  exact peImp (pe_lc hc hN pi ok hg (fun _ _ _ _ _ => pts_nil) he (fold_of hf X.env)) fun σ H Q h => lc_read hslot hme (fun _ _ _ h => yes_of h) ii h
theorem d_compIf {elt tg iter c : Expr} {scope : Scope} {own : List (Str × Nat)} {t : Tg} {bo : Bool} {fs : Env → RR (List D)} {m : Md} {fc : Env → RR Bool} {fe : Env → RR D} (hc : X.calm = true) (hN : X.N.Nodup) (hi : SrcOk X T W tg iter bo fs) (ok : BlkOk X.N X.env.scope scope own)
    (hg : ∀ (s : Shared) (H : Hp) (C : Addr) (cl : List (Str × Addr)) (fp : List Addr), PG (X.blk s H scope (compEnvC scope cl C X.env) fp) tg (gOf X.K t))
    (ht : ∀ (s : Shared) (H : Hp) (C : Addr) (cl : List (Str × Addr)) (fp : List Addr), PT (X.blk s H scope (compEnvC scope cl C X.env) fp) c (tDT X.K T noW fc))
    (he : ∀ (s : Shared) (H : Hp) (C : Addr) (cl : List (Str × Addr)) (fp : List Addr), PE (X.blk s H scope (compEnvC scope cl C X.env) fp) elt (tD X.K T noW m fe)) (hf : notSet iter = true)
    (hslot : ∀ i ∈ t.slots, i ∈ own.map (·.2)) (hme : m ≠ .bo) :
    PE X (.ListComp elt [⟨tg, iter, [c], 0⟩] scope pos) (tD X.K T W .fr (compF t (own.map (·.2)) fs fc fe)) := by
  obtain ⟨wi, pi, ii⟩ := hi.ex
  exact peImp (pe_lc hc hN pi ok hg (fun s H C cl fp => pts_one (ht s H C cl fp)) he (fold_of hf X.env)) fun σ H Q h => lc_read hslot hme (fun _ _ _ h => h) ii h

/-! ### calls of the text's own defs -/
def PostF (K : PySem.W.Frag) (T : Tb) (Z : Addr → Bool) (H : Hp) (m : Md) (Q : VK) (E : XK) : RR D → Prop
  | .ok d => ∀ v H', Ext T H H' → RepV K Z H H' m d v → Q v H'
  | .ex c => ∀ H', Ext T H H' → E (.ref (He.ga K c)) none H'
  | .bad => False
/-- a def's promise: it gives what the function g of data gives -/
def spD (K : PySem.W.Frag) (T : Tb) (m : Md) (n : Nat) (g : List D → RR D) : Sp := fun vs H Q E => ∃ (ds : List D) (Z : Addr → Bool), ds.length = n ∧ Tabs T H ∧ (∀ a, Z a = true → ¬ FreshAt H a) ∧ Reps K (hide H Z) ds vs ∧ PostF K T Z H m Q E (g ds)
structure FnAt (X : Cx) (T : Tb) (k : Nat) (x : Str) (m : Md) (n : Nat) (g : List D → RR D) : Prop where
  ex : ∃ (f : Addr) (fd : FuncData) (ps : List Str), FnOk X.prog X.w X.K X.mg X.base (L2N.CX X.prog X.w) k f fd ps (spD X.K T m n g) ∧ X.mg x = some (.ref f) ∧ PySem.W.keepIn X.K (.ref f) = true ∧ L2.Binds X.K fd ps []
theorem d_call {k n : Nat} {x : Str} {p : Pos} {e : Expr} {es : List Expr} {m : Md} {g : List D → RR D} {f : Env → RR (List D)} (F : FnAt X T k x m n g) (hr : Room k X.A) (tk : L2N.Takes X W) (hg : Gl X x) (ha : PA X (e :: es) (tDA X.K T W true f)) (hs : (e :: es).all notStar = true)
    (hdb : (x == ("__debug__" : Str)) = false) : PE X (.Call (.Name x p) (e :: es) [] pos) (tD X.K T W m fun ρ => do let xs ← f ρ; if xs.length = n then g xs else .bad) := by
  obtain ⟨a, fd, ps, ok, hm, hk, hb⟩ := F.ex
  have hs' := hs
  rw [List.all_cons, Bool.and_eq_true] at hs'
  refine peImp (pe_callS ok hr hg hm hk hb (L2N.passAt tk) ha hdb (star_of hs'.1 es X.env) (back_star hs'.2 X.env)) fun σ H Q ⟨ρ, Z, st, p⟩ => ⟨ρ, Z, st, PostA.then p fun ds vs H1 _ e1 r1 p1 => ?_⟩
  split at p1
  · rename_i hl
    refine ⟨ds, Z, hl, e1.tabs, (st.ext e1).zdom, r1, ?_⟩
    cases q : g ds with
    | ok d => rw [q] at p1; exact p1
    | ex c => rw [q] at p1; exact p1
    | bad => rw [q] at p1; exact p1
  · exact p1.elim
theorem d_call0 {k : Nat} {x : Str} {p : Pos} {m : Md} {g : List D → RR D} (F : FnAt X T k x m 0 g) (hr : Room k X.A) (tk : L2N.Takes X W) (hg : Gl X x) (hdb : (x == ("__debug__" : Str)) = false) : PE X (.Call (.Name x p) [] [] pos) (tD X.K T W m fun _ => g []) := by
  obtain ⟨a, fd, ps, ok, hm, hk, hb⟩ := F.ex
  refine ⟨fun pins s σ H Q I ⟨ρ, Z, st, p⟩ => ?_⟩
  refine wpAny_Call_Name_kw (ld_glob I hg hm ?_ hdb)
  refine PySem.W.callWith_K0 I.kIn hk (run_fnS (us := []) (vs := []) ok hr hb (L2N.passAt tk σ) I .nil ⟨[], Z, rfl, st.tabs, st.zdom, rfl, ?_⟩)
  cases q : g [] with
  | ok d => rw [q] at p; exact p
  | ex c => rw [q] at p; exact p
  | bad => rw [q] at p; exact p
end
end Py
end
section
set_option maxHeartbeats 1000000
namespace Py
open PySem PySem.Spec PyProof.Rows L2 LamX

/-! ### statements -/
inductive Out where
  | nx (ρ : Env) | ct (ρ : Env) | br (ρ : Env) | rt (d : D)
structure StS (K : PySem.W.Frag) (T : Tb) (H0 : Hp) (Z0 : Addr → Bool) (G0 : Hp) (Z : Addr → Bool) (σ : L2.St) (H : Hp) (ρ : Env) : Prop where
  e : StE K T Z σ H ρ
  ext : Ext T H0 H
  g : ExtN G0 (hide H Z)
  z0 : ∀ a, Z0 a = true → Z a = true
  zn : ∀ a, Z a = true → Z0 a = true ∨ FreshAt H0 a
  own : ∀ (i : Nat) (a : Addr) (d : D), ρ[i]? = some (some (true, d)) → σ[i]? = some (some (.ref a)) → FreshAt H0 a
def PostD (K : PySem.W.Frag) (T : Tb) (H0 : Hp) (Z0 : Addr → Bool) (G0 : Hp) (W : WX) (m : Md) (D : Ends) : RR Out → Prop
  | .ok (.nx ρ) => ∀ Z σ H, StS K T H0 Z0 G0 Z σ H ρ → D.nx σ H
  | .ok (.ct ρ) => ∀ Z σ H, StS K T H0 Z0 G0 Z σ H ρ → D.ct σ H
  | .ok (.br ρ) => ∀ Z σ H, StS K T H0 Z0 G0 Z σ H ρ → D.bk σ H
  | .ok (.rt d) => ∀ v H', Ext T H0 H' → RepV K Z0 H0 H' m d v → D.rt v H'
  | .ex c => ∀ σ H', Ext T H0 H' → W (.ref (He.ga K c)) none σ H'
  | .bad => False
def tS (K : PySem.W.Frag) (T : Tb) (W : WX) (m : Md) (f : Env → RR Out) : TS := fun D σ H => ∃ H0 Z0 G0 Z ρ, (∀ a, Z0 a = true → ¬ FreshAt H0 a) ∧ StS K T H0 Z0 G0 Z σ H ρ ∧ PostD K T H0 Z0 G0 W m D (f ρ)
theorem StS.to {K : PySem.W.Frag} {T : Tb} {H0 : Hp} {Z0 : Addr → Bool} {G0 : Hp} {Z : Addr → Bool} {σ : L2.St} {H H1 : Hp} {ρ : Env} (s : StS K T H0 Z0 G0 Z σ H ρ) (e : Ext T H H1) : StS K T H0 Z0 G0 Z σ H1 ρ :=
  ⟨s.e.ext e, s.ext.trans e, s.g.trans (exHide e.ext), s.z0, s.zn, s.own⟩
theorem StS.weak {K : PySem.W.Frag} {T : Tb} {H0 : Hp} {Z0 : Addr → Bool} {G0 G1 : Hp} {Z : Addr → Bool} {σ : L2.St} {H : Hp} {ρ : Env} (s : StS K T H0 Z0 G1 Z σ H ρ) (e : ExtN G0 G1) : StS K T H0 Z0 G0 Z σ H ρ :=
  ⟨s.e, s.ext, e.trans s.g, s.z0, s.zn, s.own⟩
theorem StS.self {K : PySem.W.Frag} {T : Tb} {H0 : Hp} {Z0 : Addr → Bool} {G0 : Hp} {Z : Addr → Bool} {σ : L2.St} {H : Hp} {ρ : Env} (s : StS K T H0 Z0 G0 Z σ H ρ) : StS K T H0 Z0 (hide H Z) Z σ H ρ :=
  ⟨s.e, s.ext, ExtN.refl _, s.z0, s.zn, s.own⟩
theorem set_own {ρ : Env} {i j : Nat} {d : D} {o : Option (Bool × D)} (h : (ρ.set i o)[j]? = some (some (true, d))) : (i = j ∧ o = some (true, d)) ∨ (i ≠ j ∧ ρ[j]? = some (some (true, d))) := by
  by_cases hj : i = j
  · subst hj
    rw [List.getElem?_set_self'] at h
    cases e : ρ[i]? with
    | none => rw [e] at h; cases h
    | some u =>
      rw [e] at h
      have h' : some o = some (some (true, d)) := h
      exact .inl ⟨rfl, Option.some.inj h'⟩
  · rw [List.getElem?_set_ne hj] at h
    exact .inr ⟨hj, h⟩
/-- a name gets what may be shared -/
theorem StS.set {K : PySem.W.Frag} {T : Tb} {H0 : Hp} {Z0 : Addr → Bool} {G0 : Hp} {Z : Addr → Bool} {σ : L2.St} {H : Hp} {ρ : Env} (s : StS K T H0 Z0 G0 Z σ H ρ) {d : D} {v : V} (r : Rep K (hide H Z) d v) (i : Nat) : StS K T H0 Z0 G0 Z (σ.set i (some v)) H (ρ.set i (some (false, d))) :=
  ⟨s.e.set r i, s.ext, s.g, s.z0, s.zn, fun j a d' q1 q2 => by
    rcases set_own q1 with ⟨_, e⟩ | ⟨n, q1⟩
    · cases e
    · rw [List.getElem?_set_ne n] at q2
      exact s.own j a d' q1 q2⟩
theorem StS.setAll {K : PySem.W.Frag} {T : Tb} {H0 : Hp} {Z0 : Addr → Bool} {G0 : Hp} {Z : Addr → Bool} {H : Hp} : ∀ (is : List Nat) {l : List D} {xs : List V} {σ : L2.St} {ρ : Env}, StS K T H0 Z0 G0 Z σ H ρ → Reps K (hide H Z) l xs → StS K T H0 Z0 G0 Z (setV is xs σ) H (setD is l ρ)
  | [], l, xs, σ, ρ, h, r => h
  | i :: is, [], xs, σ, ρ, h, r => by rw [show xs = [] from r]; exact h
  | i :: is, d :: l, xs, σ, ρ, h, r => by
    obtain ⟨v, vs, rfl, h1, h2⟩ := r
    exact StS.setAll is (h.set h1 i) h2
/-- a name gets a fresh list or dict -/
theorem StS.setOwn {K : PySem.W.Frag} {T : Tb} {H0 : Hp} {Z0 : Addr → Bool} {G0 : Hp} {Z : Addr → Bool} {σ : L2.St} {H H1 : Hp} {ρ : Env} (s : StS K T H0 Z0 G0 Z σ H ρ) (e : Ext T H H1) {d : D} {a : Addr} (f : FreshAt H a) (o : OwnAt K (hide H1 (Zs Z a)) H1 a d) (i : Nat) :
    StS K T H0 Z0 G0 (Zs Z a) (σ.set i (some (.ref a))) H1 (ρ.set i (some (true, d))) := by
  have g : ExtN (hide H Z) (hide H1 (Zs Z a)) := (exZs f).trans (exHide e.ext)
  have na : ∀ (j : Nat) (d' : D), ρ[j]? = some (some (true, d')) → σ[j]? ≠ some (some (.ref a)) := fun j d' q q2 => by
    obtain ⟨v, k1, k2⟩ := s.e.slot j _ q
    obtain ⟨b, rfl, zb, _⟩ := k2
    rw [q2] at k1
    cases k1
    exact s.e.zdom _ zb f
  have nz : ¬ FreshAt H1 a := fun h => by
    cases d with
    | lst l =>
      obtain ⟨_, xs, h1, _⟩ := o
      rcases h with h | ⟨ps, h⟩ <;> (rw [h] at h1; cases h1)
    | dic ks vs =>
      obtain ⟨kvs, h1, _⟩ := o
      rcases h with h | ⟨ps, h⟩ <;> (rw [h] at h1; cases h1)
    | _ => exact False.elim o
  refine ⟨⟨fun j t q => ?_, fun j k b d' e' q1 q2 q3 q4 => ?_, fun b zb fb => ?_, e.tabs, by rw [List.length_set, List.length_set]; exact s.e.len⟩, s.ext.trans e, s.g.trans g, fun b h => zs_sub b (s.z0 b h), fun b h => ?_, fun j b d' q1 q2 => ?_⟩
  · by_cases hj : i = j
    · subst hj
      rw [List.getElem?_set_self'] at q ⊢
      cases e1 : ρ[i]? with
      | none => rw [e1] at q; cases q
      | some u =>
        rw [e1] at q
        have q' : some (some (true, d)) = some (some t) := q
        cases q'
        have hi : i < σ.length := by
          rw [← s.e.len]
          exact (List.getElem?_eq_some_iff.mp e1).1
        exact ⟨.ref a, by rw [List.getElem?_eq_getElem hi]; rfl, a, rfl, zs_self, o⟩
    · rw [List.getElem?_set_ne hj] at q ⊢
      obtain ⟨v, k1, k2⟩ := s.e.slot j t q
      refine ⟨v, k1, ?_⟩
      obtain ⟨ow, d'⟩ := t
      cases ow with
      | true =>
        obtain ⟨b, rfl, zb, ob⟩ := k2
        exact ⟨b, rfl, zs_sub b zb, ob.ext g e.ext⟩
      | false => exact Rep.ext g d' v k2
  · rcases set_own q1 with ⟨h1, _⟩ | ⟨h1, w1⟩ <;> rcases set_own q2 with ⟨h2, _⟩ | ⟨h2, w2⟩
    · exact h1.symm.trans h2
    · subst h1
      rw [List.getElem?_set_self'] at q3
      rw [List.getElem?_set_ne h2] at q4
      cases e1 : σ[i]? with
      | none => rw [e1] at q3; cases q3
      | some u =>
        rw [e1] at q3
        have q' : some (some (V.ref a)) = some (some (V.ref b)) := q3
        cases q'
        exact (na k e' w2 q4).elim
    · subst h2
      rw [List.getElem?_set_self'] at q4
      rw [List.getElem?_set_ne h1] at q3
      cases e1 : σ[i]? with
      | none => rw [e1] at q4; cases q4
      | some u =>
        rw [e1] at q4
        have q' : some (some (V.ref a)) = some (some (V.ref b)) := q4
        cases q'
        exact (na j d' w1 q3).elim
    · rw [List.getElem?_set_ne h1] at q3
      rw [List.getElem?_set_ne h2] at q4
      exact s.e.dist j k b d' e' w1 w2 q3 q4
  · by_cases hb : b = a
    · subst hb; exact nz fb
    · have z : Z b = true := by unfold Zs at zb; simpa [hb] using zb
      exact s.e.zdom b z (fb.back e.ext)
  · by_cases hb : b = a
    · subst hb; exact .inr (f.back s.ext.ext)
    · have z : Z b = true := by unfold Zs at h; simpa [hb] using h
      exact s.zn b z
  · rcases set_own q1 with ⟨h1, _⟩ | ⟨h1, w1⟩
    · subst h1
      rw [List.getElem?_set_self'] at q2
      cases e1 : σ[i]? with
      | none => rw [e1] at q2; cases q2
      | some u =>
        rw [e1] at q2
        have q' : some (some (V.ref a)) = some (some (V.ref b)) := q2
        cases q'
        exact f.back s.ext.ext
    · rw [List.getElem?_set_ne h1] at q2
      exact s.own j b d' w1 q2
/-- an owned list or dict is changed -/
theorem ext_mut {T : Tb} {H0 H : Hp} {a : Addr} {o o' : HO} (e : Ext T H0 H) (f : FreshAt H0 a) (h : H a = some o) (n1 : ∀ ps, o ≠ .tbl ps) (n2 : ∀ φ, o ≠ .ext φ) : Ext T H0 (upd H a o') := by
  have k : ∀ b u, H b = some u → b ≠ a → upd H a o' b = some u := fun b u h nb => by rw [upd_ne nb]; exact h
  refine ⟨fun b u hb nt => ?_, fun p hp => ?_⟩
  · refine k b u (e.ext b u hb nt) fun q => ?_
    subst q
    rcases f with f | ⟨ps, f⟩
    · rw [f] at hb; cases hb
    · rw [f] at hb; cases hb; exact nt ps rfl
  · obtain ⟨ps, h1, h2, h3⟩ := e.tabs p hp
    have nP : p.1 ≠ a := fun q => by rw [q, h] at h1; cases h1; exact n1 ps rfl
    refine ⟨ps, k _ _ h1 nP, h2, fun pos cv hc => ?_⟩
    obtain ⟨c, e1, e2⟩ := h3 pos cv hc
    refine ⟨c, e1, k _ _ e2 fun q => ?_⟩
    rw [q, h] at e2
    unfold CodeO at e2
    cases e2
    exact n2 _ rfl
theorem StS.mut {K : PySem.W.Frag} {T : Tb} {H0 : Hp} {Z0 : Addr → Bool} {G0 : Hp} {Z : Addr → Bool} {σ : L2.St} {H : Hp} {ρ : Env} (s : StS K T H0 Z0 G0 Z σ H ρ) {i : Nat} {a : Addr} {d d' : D} {o o' : HO} (hi : ρ[i]? = some (some (true, d))) (hσ : σ[i]? = some (some (.ref a))) (ha : H a = some o)
    (n1 : ∀ ps, o ≠ .tbl ps) (n2 : ∀ φ, o ≠ .ext φ) (n3 : ∀ ps, o' ≠ .tbl ps) (ow : OwnAt K (hide H Z) (upd H a o') a d') : StS K T H0 Z0 G0 Z σ (upd H a o') (ρ.set i (some (true, d'))) := by
  obtain ⟨v0, k1, k2⟩ := s.e.slot i _ hi
  obtain ⟨a0, rfl, za, oa⟩ := k2
  rw [hσ] at k1
  cases k1
  have hh : hide (upd H a o') Z = hide H Z := by
    funext b
    unfold hide
    by_cases hb : b = a
    · subst hb; rw [za]; rfl
    · rw [upd_ne hb]
  have fr := s.own i a d hi hσ
  have ex := ext_mut (o' := o') s.ext fr ha n1 n2
  refine ⟨⟨fun j t q => ?_, fun j k b d1 e' q1 q2 q3 q4 => ?_, fun b zb fb => ?_, ex.tabs, by rw [List.length_set]; exact s.e.len⟩, ex, by rw [hh]; exact s.g, s.z0, s.zn, fun j b d1 q1 q2 => ?_⟩
  · by_cases hj : i = j
    · subst hj
      rw [List.getElem?_set_self', hi] at q
      have q' : some (some (true, d')) = some (some t) := q
      cases q'
      exact ⟨.ref a, hσ, a, rfl, za, by rw [hh]; exact ow⟩
    · rw [List.getElem?_set_ne hj] at q
      obtain ⟨v, k1, k2⟩ := s.e.slot j t q
      refine ⟨v, k1, ?_⟩
      obtain ⟨ob, d1⟩ := t
      cases ob with
      | true =>
        obtain ⟨b, rfl, zb, ob⟩ := k2
        have nb : b ≠ a := fun e => by
          subst e
          exact hj (s.e.dist i j b d d1 hi q hσ k1)
        refine ⟨b, rfl, zb, ?_⟩
        rw [hh]
        cases d1 with
        | lst l =>
          obtain ⟨z, xs, h1, h2⟩ := ob
          exact ⟨z, xs, by rw [upd_ne nb]; exact h1, h2⟩
        | dic ks vs =>
          obtain ⟨kvs, h1, h3, h2⟩ := ob
          exact ⟨kvs, by rw [upd_ne nb]; exact h1, h3, h2⟩
        | _ => exact False.elim ob
      | false =>
        have k2 : Rep K (hide H Z) d1 v := k2
        show Rep K (hide (upd H a o') Z) d1 v
        rw [hh]; exact k2
  · have w : ∀ (j : Nat) (d1 : D), (ρ.set i (some (true, d')))[j]? = some (some (true, d1)) → ∃ d2, ρ[j]? = some (some (true, d2)) := fun j d1 q => by
      rcases set_own q with ⟨h1, _⟩ | ⟨_, h1⟩
      · subst h1; exact ⟨d, hi⟩
      · exact ⟨d1, h1⟩
    obtain ⟨d2, w1⟩ := w j d1 q1
    obtain ⟨d3, w2⟩ := w k e' q2
    exact s.e.dist j k b d2 d3 w1 w2 q3 q4
  · by_cases hb : b = a
    · subst hb
      rcases fb with fb | ⟨ps, fb⟩
      · rw [upd_same] at fb; cases fb
      · rw [upd_same] at fb; cases fb; exact n3 ps rfl
    · refine s.e.zdom b zb ?_
      rcases fb with fb | ⟨ps, fb⟩
      · rw [upd_ne hb] at fb; exact .inl fb
      · rw [upd_ne hb] at fb; exact .inr ⟨ps, fb⟩
  · rcases set_own q1 with ⟨h1, _⟩ | ⟨_, h1⟩
    · subst h1
      exact s.own i b d hi q2
    · exact s.own j b d1 h1 q2
/-- an owned one is shared from now on -/
def frzD (i : Nat) (ρ : Env) : RR Env := match ρ[i]? with
  | some (some (true, d)) => .ok (ρ.set i (some (false, d)))
  | some (some (false, _)) => .ok ρ
  | _ => .bad
theorem StS.frz {K : PySem.W.Frag} {T : Tb} {H0 : Hp} {Z0 : Addr → Bool} {G0 : Hp} {Z : Addr → Bool} {σ : L2.St} {H : Hp} {ρ : Env} (s : StS K T H0 Z0 G0 Z σ H ρ) (hz : ∀ a, Z0 a = true → ¬ FreshAt H0 a) {i : Nat} {a : Addr} {d : D} (hi : ρ[i]? = some (some (true, d))) (hσ : σ[i]? = some (some (.ref a))) :
    StS K T H0 Z0 G0 (fun b => Z b && !decide (b = a)) σ H (ρ.set i (some (false, d))) := by
  obtain ⟨v0, k1, k2⟩ := s.e.slot i _ hi
  obtain ⟨a0, rfl, za, oa⟩ := k2
  rw [hσ] at k1
  cases k1
  have g : ExtN (hide H Z) (hide H (fun b => Z b && !decide (b = a))) := exLess fun b h => (Bool.and_eq_true_iff.mp h).1
  have fr := s.own i a d hi hσ
  have zaa : (Z a && !decide (a = a)) = false := by simp
  refine ⟨⟨fun j t q => ?_, fun j k b d1 e' q1 q2 q3 q4 => ?_, fun b zb fb => s.e.zdom b (Bool.and_eq_true_iff.mp zb).1 fb, s.e.tabs, by rw [List.length_set]; exact s.e.len⟩, s.ext, s.g.trans g, fun b h => ?_, fun b h => s.zn b (Bool.and_eq_true_iff.mp h).1, fun j b d1 q1 q2 => ?_⟩
  · by_cases hj : i = j
    · subst hj
      rw [List.getElem?_set_self', hi] at q
      have q' : some (some (false, d)) = some (some t) := q
      cases q'
      refine ⟨.ref a, hσ, ?_⟩
      show Rep K (hide H _) d (.ref a)
      cases d with
      | lst l =>
        obtain ⟨z, xs, h1, h2⟩ := oa
        exact ⟨z, a, xs, rfl, by rw [hide_of zaa]; exact h1, Reps.ext g _ _ h2⟩
      | dic ks vs =>
        obtain ⟨kvs, h1, h3, h2⟩ := oa
        exact ⟨a, kvs, rfl, .inl (by rw [hide_of zaa]; exact h1), h3, Reps.ext g _ _ h2⟩
      | _ => exact False.elim oa
    · rw [List.getElem?_set_ne hj] at q
      obtain ⟨v, k1, k2⟩ := s.e.slot j t q
      refine ⟨v, k1, ?_⟩
      obtain ⟨ob, d1⟩ := t
      cases ob with
      | true =>
        obtain ⟨b, rfl, zb, ob⟩ := k2
        have nb : b ≠ a := fun e => by
          subst e
          exact hj (s.e.dist i j b d d1 hi q hσ k1)
        exact ⟨b, rfl, by simp [zb, nb], ob.ext g (ExtN.refl _)⟩
      | false => exact Rep.ext g d1 v k2
  · rcases set_own q1 with ⟨_, h⟩ | ⟨n1, w1⟩
    · cases h
    · rcases set_own q2 with ⟨_, h⟩ | ⟨n2, w2⟩
      · cases h
      · exact s.e.dist j k b d1 e' w1 w2 q3 q4
  · have nb : b ≠ a := fun e => by
      subst e
      exact hz b h fr
    simp [s.z0 b h, nb]
  · rcases set_own q1 with ⟨_, h⟩ | ⟨_, h1⟩
    · cases h
    · exact s.own j b d1 h1 q2
end Py
end
section
set_option maxHeartbeats 1000000
namespace Py
open PySem PySem.Spec PyProof.Rows L2 LamX

theorem pssImp {X : Cx} {e : List Stmt} {t t' : TS} (h : PSs X e t) (i : ∀ D σ H, t' D σ H → t D σ H) : PSs X e t' := ⟨fun pins s σ H D I hw => h.run pins s σ H D I (i D σ H hw)⟩
/-- an expression within a statement -/
theorem S_expr {K : PySem.W.Frag} {T : Tb} {W : WX} {m mr : Md} {H0 : Hp} {Z0 : Addr → Bool} {G0 : Hp} {Z : Addr → Bool} {σ : L2.St} {H : Hp} {ρ : Env} {f : Env → RR D} {k : D → RR Out} {D : Ends} {Q : VK} (s : StS K T H0 Z0 G0 Z σ H ρ) (p : PostD K T H0 Z0 G0 W mr D (f ρ >>= k))
    (i : ∀ d v H1, f ρ = .ok d → Ext T H H1 → RepV K Z H H1 m d v → PostD K T H0 Z0 G0 W mr D (k d) → Q v H1) : tD K T W m f σ H Q := by
  refine ⟨ρ, Z, s.e, ?_⟩
  cases q : f ρ with
  | ok d => rw [q] at p; exact fun v H1 e r => i d v H1 q e r p
  | ex c => rw [q] at p; exact fun H1 e => p σ H1 (s.ext.trans e)
  | bad => rw [q] at p; exact p
theorem S_exprX {K : PySem.W.Frag} {T : Tb} {W : WX} {mr : Md} {H0 : Hp} {Z0 : Addr → Bool} {G0 : Hp} {Z : Addr → Bool} {σ : L2.St} {H : Hp} {ρ : Env} {f : Env → RR Bool} {k : Bool → RR Out} {D : Ends} {Q : Bool → Hp → Prop} (s : StS K T H0 Z0 G0 Z σ H ρ) (p : PostD K T H0 Z0 G0 W mr D (f ρ >>= k))
    (i : ∀ b H1, f ρ = .ok b → Ext T H H1 → PostD K T H0 Z0 G0 W mr D (k b) → Q b H1) : tDT K T W f σ H Q := by
  refine ⟨ρ, Z, s.e, ?_⟩
  cases q : f ρ with
  | ok d => rw [q] at p; exact fun H1 e => i d H1 q e p
  | ex c => rw [q] at p; exact fun H1 e => p σ H1 (s.ext.trans e)
  | bad => rw [q] at p; exact p
section
variable {X : Cx} {T : Tb} {W : WX} {mr : Md} {pos : Pos}
def seqO (r : RR Out) (k : Env → RR Out) : RR Out := match r with
  | .ok (.nx ρ) => k ρ
  | r => r
theorem s_nil : PSs X [] (tS X.K T W mr fun ρ => .ok (.nx ρ)) := pssImp pss_nil fun D σ H ⟨H0, Z0, G0, Z, ρ, hz, s, p⟩ => p Z σ H s
theorem s_cons {st : Stmt} {rest : List Stmt} {f g : Env → RR Out} (h : PS X st (tS X.K T W mr f)) (h' : PSs X rest (tS X.K T W mr g)) : PSs X (st :: rest) (tS X.K T W mr fun ρ => seqO (f ρ) g) := by
  refine pssImp (pss_cons h h') fun D σ H ⟨H0, Z0, G0, Z, ρ, hz, s, p⟩ => ⟨H0, Z0, G0, Z, ρ, hz, s, ?_⟩
  dsimp only at p
  cases q : f ρ with
  | ok o =>
    rw [q] at p
    cases o with
    | nx ρ' => exact fun Z' σ' H' s' => ⟨H0, Z0, G0, Z', ρ', hz, s', p⟩
    | ct ρ' => exact p
    | br ρ' => exact p
    | rt d => exact p
  | ex c => rw [q] at p; exact p
  | bad => rw [q] at p; exact p
theorem s_pass : PS X (.Pass pos) (tS X.K T W mr fun ρ => .ok (.nx ρ)) := psImp ps_pass fun D σ H ⟨H0, Z0, G0, Z, ρ, hz, s, p⟩ => p Z σ H s
theorem s_cont : PS X (.Continue pos) (tS X.K T W mr fun ρ => .ok (.ct ρ)) := psImp ps_continue fun D σ H ⟨H0, Z0, G0, Z, ρ, hz, s, p⟩ => p Z σ H s
theorem s_brk : PS X (.Break pos) (tS X.K T W mr fun ρ => .ok (.br ρ)) := psImp ps_break fun D σ H ⟨H0, Z0, G0, Z, ρ, hz, s, p⟩ => p Z σ H s
/-- x = e -/
def mkV (m : Md) (d : D) : Bool × D := (decide (m = .fr), d)
theorem set_post {m : Md} {i : Nat} {H0 : Hp} {Z0 : Addr → Bool} {G0 : Hp} {Z : Addr → Bool} {σ : L2.St} {H H1 : Hp} {ρ : Env} {d : D} {v : V} (hm : m ≠ .bo) (s : StS X.K T H0 Z0 G0 Z σ H ρ) (e : Ext T H H1) (r : RepV X.K Z H H1 m d v) :
    ∃ Z', StS X.K T H0 Z0 G0 Z' (σ.set i (some v)) H1 (ρ.set i (some (mkV m d))) := by
  cases m with
  | sh => exact ⟨Z, (s.to e).set r i⟩
  | fr =>
    obtain ⟨a, rfl, f, o⟩ := r
    exact ⟨_, s.setOwn e f o i⟩
  | bo => exact (hm rfl).elim
theorem s_set {i : Nat} {x : Str} {e : Expr} {m : Md} {f : Env → RR D} {px : Pos} (hm : m ≠ .bo) (hN : X.N.Nodup) (hi : X.N[i]? = some x) (hx : Loc X.env.scope x) (hf : X.fn x = true ∨ X.env.scope.names.lookup x = some .local) (hs : swapsWith e (some (.Name x px)) pos.line X.env = pure false) (he : PE X e (tD X.K T W m f)) :
    PS X (.Assign [.Name x px] e pos) (tS X.K T W mr fun ρ => f ρ >>= fun d => .ok (.nx (ρ.set i (some (mkV m d))))) := by
  refine psImp (ps_set hN hi hx he hs hf) fun D σ H ⟨H0, Z0, G0, Z, ρ, hz, s, p⟩ => S_expr s p fun d v H1 _ e1 r1 p1 => ?_
  obtain ⟨Z', s'⟩ := set_post (i := i) hm s e1 r1
  exact p1 Z' _ _ s'
/-- x = [.. for ..] on one line, x a local -/
theorem s_setLc {i : Nat} {y : Str} {py : Pos} {elt tg iter : Expr} {scope : Scope} {own : List (Str × Nat)} {spos : Pos} {t : Tg} {bo : Bool} {fs : Env → RR (List D)} {m : Md} {fe : Env → RR D} (hc : X.calm = true) (hN : X.N.Nodup) (hy : X.N[i]? = some y) (hyl : X.env.scope.names.lookup y = some .local)
    (hsw : swapsWith (.ListComp elt [⟨tg, iter, [], 0⟩] scope pos) (some (.Name y py)) spos.line X.env = pure true) (hi : SrcOk X T W tg iter bo fs) (ok : BlkOk X.N X.env.scope scope own)
    (hg : ∀ (s : Shared) (H : Hp) (C : Addr) (cl : List (Str × Addr)) (fp : List Addr), PG (X.blk s H scope (compEnvC scope cl C X.env) fp) tg (gOf X.K t))
    (he : ∀ (s : Shared) (H : Hp) (C : Addr) (cl : List (Str × Addr)) (fp : List Addr), PE (X.blk s H scope (compEnvC scope cl C X.env) fp) elt (tD X.K T noW m fe)) (hf : notSet iter = true)
    (hslot : ∀ i ∈ t.slots, i ∈ own.map (·.2)) (hme : m ≠ .bo) :
    PS X (.Assign [.Name y py] (.ListComp elt [⟨tg, iter, [], 0⟩] scope pos) spos) (tS X.K T W mr fun ρ => compF t (own.map (·.2)) fs okTrue fe ρ >>= fun d => .ok (.nx (ρ.set i (some (mkV .fr d))))) := by
  obtain ⟨wi, pi, ii⟩ := hi.ex
  refine psImp (ps_setLc hc hN hy hyl hsw pi ok hg (fun _ _ _ _ _ => pts_nil) he (fold_of hf X.env)) fun D σ H ⟨H0, Z0, G0, Z, ρ, hz, s, p⟩ => lc_read hslot hme (fun _ _ _ h => yes_of h) ii (S_expr s p fun d v H1 _ e1 r1 p1 => ?_)
  obtain ⟨Z', s'⟩ := set_post (i := i) (by decide : Md.fr ≠ .bo) s e1 r1
  exact p1 Z' _ _ s'
theorem s_setLcIf {i : Nat} {y : Str} {py : Pos} {elt tg iter c : Expr} {scope : Scope} {own : List (Str × Nat)} {spos : Pos} {t : Tg} {bo : Bool} {fs : Env → RR (List D)} {m : Md} {fc : Env → RR Bool} {fe : Env → RR D} (hc : X.calm = true) (hN : X.N.Nodup) (hy : X.N[i]? = some y) (hyl : X.env.scope.names.lookup y = some .local)
    (hsw : swapsWith (.ListComp elt [⟨tg, iter, [c], 0⟩] scope pos) (some (.Name y py)) spos.line X.env = pure true) (hi : SrcOk X T W tg iter bo fs) (ok : BlkOk X.N X.env.scope scope own)
    (hg : ∀ (s : Shared) (H : Hp) (C : Addr) (cl : List (Str × Addr)) (fp : List Addr), PG (X.blk s H scope (compEnvC scope cl C X.env) fp) tg (gOf X.K t))
    (ht : ∀ (s : Shared) (H : Hp) (C : Addr) (cl : List (Str × Addr)) (fp : List Addr), PT (X.blk s H scope (compEnvC scope cl C X.env) fp) c (tDT X.K T noW fc))
    (he : ∀ (s : Shared) (H : Hp) (C : Addr) (cl : List (Str × Addr)) (fp : List Addr), PE (X.blk s H scope (compEnvC scope cl C X.env) fp) elt (tD X.K T noW m fe)) (hf : notSet iter = true)
    (hslot : ∀ i ∈ t.slots, i ∈ own.map (·.2)) (hme : m ≠ .bo) :
    PS X (.Assign [.Name y py] (.ListComp elt [⟨tg, iter, [c], 0⟩] scope pos) spos) (tS X.K T W mr fun ρ => compF t (own.map (·.2)) fs fc fe ρ >>= fun d => .ok (.nx (ρ.set i (some (mkV .fr d))))) := by
  obtain ⟨wi, pi, ii⟩ := hi.ex
  refine psImp (ps_setLc hc hN hy hyl hsw pi ok hg (fun s H C cl fp => pts_one (ht s H C cl fp)) he (fold_of hf X.env)) fun D σ H ⟨H0, Z0, G0, Z, ρ, hz, s, p⟩ => lc_read hslot hme (fun _ _ _ h => h) ii (S_expr s p fun d v H1 _ e1 r1 p1 => ?_)
  obtain ⟨Z', s'⟩ := set_post (i := i) (by decide : Md.fr ≠ .bo) s e1 r1
  exact p1 Z' _ _ s'
/-- a, b = e -/
def unpD (is : List Nat) (d : D) (ρ : Env) : RR Out := (bindT (.t is) d ρ) >>= fun ρ' => .ok (.nx ρ')
def notTuple : Expr → Bool
  | .Tuple _ _ _ => false
  | _ => true
theorem sole_of {tg e : Expr} (h : notComp e = true) (l : Nat) (env : PySem.Env) : swapsWithSole [tg] e l env = pure false := swaps_of h _ _ _
theorem stores_of {tgs : List Expr} {e : Expr} (h : notTuple e = true) (env : PySem.Env) : swappedStores tgs e env = pure none := by
  unfold swappedStores
  split
  · rename_i h1
    split at h1 <;> first | (cases h1; done) | (simp [notTuple] at h)
  · rfl
theorem s_tset {is : List Nat} {es : List Expr} {kt : Nat} {pt : Pos} {e : Expr} {m : Md} {f : Env → RR D} (hm : m ≠ .bo) (hc : X.calm = true) (ht : TgsOk X es is) (hs : notComp e = true) (hw : swappedStores [.Tuple es kt pt] e X.env = pure none) (he : PE X e (tD X.K T W m f)) :
    PS X (.Assign [.Tuple es kt pt] e pos) (tS X.K T W mr fun ρ => f ρ >>= fun d => unpD is d ρ) := by
  refine psImp (ps_asg he (tg_t hc ht) (sole_of hs _ _) hw (by rfl)) fun D σ H ⟨H0, Z0, G0, Z, ρ, hz, s, p⟩ => S_expr s p fun d v H1 _ e1 r1 p1 => ?_
  have rs := r1.sh hm s.e.zdom
  unfold unpD at p1
  cases d <;> simp only [bindT, RR.bind_bad] at p1 <;> try exact p1.elim
  split at p1
  · rename_i l hl
    obtain ⟨z, a, xs, rfl, ha, ra⟩ := rs
    exact ⟨a, xs, rfl, SqT.ext exUnhide ha, by rw [ra.length, hl], tgs_of (by rw [ra.length, hl]) (p1 Z _ _ (StS.setAll is (s.to e1) ra))⟩
  · exact p1.elim
theorem two_of {α : Type} {l : List α} (h : l.length = 2) : ∃ a b, l = [a, b] := by
  rcases l with _ | ⟨a, _ | ⟨b, _ | ⟨c, r⟩⟩⟩
  · simp at h
  · simp at h
  · exact ⟨a, b, rfl⟩
  · simp at h
/-- a, b = x, y: plain local names -/
theorem s_tpar {i j : Nat} {x y : Str} {a b : Expr} {px py pt pt2 : Pos} {kt k2 : Nat} {f : Env → RR (List D)} (hc : X.calm = true) (hN : X.N.Nodup) (hi : X.N[i]? = some x) (hj : X.N[j]? = some y) (hij : i ≠ j) (hx : X.env.scope.names.lookup x = some .local) (hy : X.env.scope.names.lookup y = some .local)
    (ha : PA X [a, b] (tDA X.K T W true f)) (hw : swappedStores [.Tuple [.Name x px, .Name y py] kt pt] (.Tuple [a, b] k2 pt2) X.env = pure (some [x, y])) :
    PS X (.Assign [.Tuple [.Name x px, .Name y py] kt pt] (.Tuple [a, b] k2 pt2) pos) (tS X.K T W mr fun ρ => f ρ >>= fun l => if l.length = 2 then .ok (.nx (setD [i, j] l ρ)) else .bad) := by
  refine psImp (ps_par hc hN hi hj hij hx hy ha hw (sole_of rfl _ _)) fun D σ H ⟨H0, Z0, G0, Z, ρ, hz, s, p⟩ => ⟨ρ, Z, s.e, ?_⟩
  dsimp only at p
  cases q : f ρ with
  | ex c => rw [q] at p; exact fun H1 e => p σ H1 (s.ext.trans e)
  | bad => rw [q] at p; exact p
  | ok l =>
    rw [q] at p
    intro vs H1 e1 r1
    have p : PostD X.K T H0 Z0 G0 W mr D (if l.length = 2 then .ok (.nx (setD [i, j] l ρ)) else .bad) := p
    split at p
    · rename_i hl
      obtain ⟨d1, d2, rfl⟩ := two_of hl
      obtain ⟨v1, r, rfl, h1, h2⟩ := (show Reps X.K (hide H1 Z) [d1, d2] vs from r1)
      obtain ⟨v2, r', rfl, h3, h4⟩ := h2
      cases h4
      refine ⟨v1, v2, rfl, ?_⟩
      exact p Z _ _ (((s.to e1).set h1 i).set h3 j)
    · exact p.elim
/-- return -/
theorem s_ret {e : Expr} {m : Md} {f : Env → RR D} (hm : m ≠ .bo) (hr : mr = .sh ∨ (mr = .fr ∧ m = .fr)) (he : PE X e (tD X.K T W m f)) : PS X (.Return (some e) pos) (tS X.K T W mr fun ρ => f ρ >>= fun d => .ok (.rt d)) := by
  refine psImp (ps_ret he) fun D σ H ⟨H0, Z0, G0, Z, ρ, hz, s, p⟩ => S_expr s p fun d v H1 _ e1 r1 p1 => p1 v H1 (s.ext.trans e1) ?_
  rcases hr with rfl | ⟨rfl, rfl⟩
  · exact Rep.ext (exLess s.z0) d v (r1.sh hm s.e.zdom)
  · obtain ⟨a, rfl, f, o⟩ := r1
    refine ⟨a, rfl, f.back s.ext.ext, o.ext (exLess fun b h => ?_) (ExtN.refl _)⟩
    unfold Zs at h ⊢
    rw [Bool.or_eq_true] at h ⊢
    exact h.imp (s.z0 b) id
theorem s_retN : PS X (.Return none pos) (tS X.K T W .sh fun ρ => .ok (.rt .non)) := psImp ps_retN fun D σ H ⟨H0, Z0, G0, Z, ρ, hz, s, p⟩ => p .non H s.ext rfl
/-- return x, x owned -/
theorem s_retO {i : Nat} {x : Str} {p1 : Pos} (hr : mr ≠ .bo) (hN : X.N[i]? = some x) (hv : Vis X.env.scope x) (hd : (x == ("__debug__" : Str)) = false) (hcd : (x == ("__classdict__" : Str)) = false) :
    PS X (.Return (some (.Name x p1)) pos) (tS X.K T W mr fun ρ => match ρ[i]? with | some (some (true, d)) => .ok (.rt d) | _ => .bad) := by
  refine psImp (ps_ret (pe_var hN hv hd hcd)) fun D σ H ⟨H0, Z0, G0, Z, ρ, hz, s, p⟩ => ?_
  dsimp only at p
  split at p
  · rename_i d e
    obtain ⟨v, e1, a, rfl, za, oa⟩ := s.e.slot i _ e
    refine ⟨.ref a, e1, p _ H s.ext ?_⟩
    have fr := s.own i a d e e1
    have o2 : OwnAt X.K (hide H (Zs Z0 a)) H a d := oa.ext (exLess fun b h => by
      unfold Zs at h
      rw [Bool.or_eq_true, decide_eq_true_eq] at h
      rcases h with h | rfl
      · exact s.z0 b h
      · exact za) (ExtN.refl _)
    have rv : RepV X.K Z0 H0 H .fr d (.ref a) := ⟨a, rfl, fr, o2⟩
    cases mr with
    | fr => exact rv
    | sh => exact rv.sh (by decide) hz
    | bo => exact (hr rfl).elim
  · exact p.elim
/-- if -/
theorem s_if {c : Expr} {a b : List Stmt} {fc : Env → RR D} {fa fb : Env → RR Out} (hc : PT X c (tDT X.K T W fun ρ => fc ρ >>= truR)) (ha : PSs X a (tS X.K T W mr fa)) (hb : PSs X b (tS X.K T W mr fb)) :
    PS X (.If c a b pos) (tS X.K T W mr fun ρ => (fc ρ >>= truR) >>= fun k => if k then fa ρ else fb ρ) := by
  refine psImp (ps_if hc ha hb) fun D σ H ⟨H0, Z0, G0, Z, ρ, hz, s, p⟩ => S_exprX s p fun k H1 _ e1 p1 => ?_
  cases k with
  | true => exact ⟨H0, Z0, G0, Z, ρ, hz, s.to e1, p1⟩
  | false => exact ⟨H0, Z0, G0, Z, ρ, hz, s.to e1, p1⟩
/-- an expression alone -/
theorem s_exp {e : Expr} {m : Md} {f : Env → RR D} (hs : notComp e = true) (he : PE X e (tD X.K T W m f)) : PS X (.Expr e pos) (tS X.K T W mr fun ρ => f ρ >>= fun _ => .ok (.nx ρ)) := by
  refine psImp (ps_expr he (swaps_of hs _ _ _)) fun D σ H ⟨H0, Z0, G0, Z, ρ, hz, s, p⟩ => S_expr s p fun d v H1 _ e1 r1 p1 => p1 Z σ H1 (s.to e1)
/-- raise C('..') -/
theorem s_raise {e : Expr} {x : Str} (hc : X.calm = true) (tk : L2N.Takes X W) (h : L2N.PMk X e (fun _ H Q => Q (.ref (He.ga X.K x)) none H)) : PS X (.Raise (some e) none pos) (tS X.K T W mr fun _ => .ex x) :=
  psImp (L2N.ps_raise hc tk h) fun D σ H ⟨H0, Z0, G0, Z, ρ, hz, s, p⟩ => p σ H s.ext
/-- from now on shared -/
theorem s_frz {st : Stmt} {i : Nat} {f : Env → RR Out} (h : PS X st (tS X.K T W mr f)) : PS X st (tS X.K T W mr fun ρ => frzD i ρ >>= f) := by
  refine psImp h fun D σ H ⟨H0, Z0, G0, Z, ρ, hz, s, p⟩ => ?_
  dsimp only at p
  unfold frzD at p
  split at p
  · rename_i d e
    obtain ⟨v, e1, a, rfl, za, oa⟩ := s.e.slot i _ e
    exact ⟨H0, Z0, G0, _, _, hz, s.frz hz e e1, p⟩
  · exact ⟨H0, Z0, G0, Z, ρ, hz, s, p⟩
  · exact p.elim
/-! loops -/
def execFor (t : Tg) (body : Env → RR Out) : List D → Env → RR Out
  | [], ρ => .ok (.nx ρ)
  | d :: l, ρ => (bindT t d ρ) >>= fun ρ1 => match body ρ1 with
    | .ok (.nx ρ2) => execFor t body l ρ2
    | .ok (.ct ρ2) => execFor t body l ρ2
    | .ok (.br ρ2) => .ok (.nx ρ2)
    | r => r
theorem s_for {tg iter : Expr} {body : List Stmt} {t : Tg} {fs : Env → RR (List D)} {fb : Env → RR Out} (hp : PassesOwn (model X.prog X.w) X.A X.env X.xe) (hc : X.calm = true) (hi : SrcOk X T W tg iter false fs) (hg : PG X tg (gOf X.K t)) (hb : PSs X body (tS X.K T W mr fb)) (hf : notSet iter = true) :
    PS X (.For tg iter body [] pos) (tS X.K T W mr fun ρ => fs ρ >>= fun l => execFor t fb l ρ) := by
  obtain ⟨wi, pi, ii⟩ := hi.ex
  refine psImp (ps_for hp hc pi hg hb (fold_of hf X.env)) fun D σ H ⟨H0, Z0, G0, Z, ρ, hz, s, p⟩ => ii _ _ _ ⟨ρ, Z, s.e, ?_⟩
  dsimp only at p
  cases q : fs ρ with
  | ex c => rw [q] at p; exact fun H1 e => p σ H1 (s.ext.trans e)
  | bad => rw [q] at p; exact p
  | ok l =>
    rw [q] at p
    intro J H1 e1 hl w
    obtain ⟨G, Y, wk, wG, wY⟩ := w.ex
    have p : PostD X.K T H0 Z0 G0 W mr D (execFor t fb l ρ) := p
    have g01 : ExtN G0 (hide H1 Z) := s.g.trans (exHide e1.ext)
    refine for_it wk (fun i σ H => ∃ Zi ρi, StS X.K T H0 Z0 (hide H1 Z) Zi σ H ρi ∧ PostD X.K T H0 Z0 G0 W mr D (execFor t fb (l.drop i) ρi)) ⟨Z, ρ, (s.to e1).self, by rw [List.drop_zero]; exact p⟩
      (fun i σ H _ ⟨Zi, ρi, si, _⟩ => wG H Zi si.g (fun b o h => by cases h)) ?_ ?_
    · rintro i x σi Hi H' hi ⟨Zi, ρi, si, pi⟩ y
      obtain ⟨d, hd, e2, rd⟩ := wY i Hi x H' Zi hi si.g (fun b o h => by cases h) si.ext.tabs si.e.zdom y
      have hdr : l.drop i = d :: l.drop (i + 1) := by
        rw [List.drop_eq_getElem_cons hi]
        have e : l[i] = d := by
          rw [List.getElem?_eq_getElem hi] at hd
          exact Option.some.inj hd
        rw [e]
      rw [hdr] at pi
      unfold execFor at pi
      cases fb' : bindT t d ρi with
      | ex c =>
        exfalso
        cases t <;> cases d <;> simp only [bindT, reduceCtorEq] at fb'
        split at fb' <;> cases fb'
      | bad => rw [fb'] at pi; exact pi.elim
      | ok ρ1 =>
        rw [fb'] at pi
        simp only [RR.bind_ok] at pi
        have si' := si.to e2
        -- the target's names
        have key : ∀ σ2, StS X.K T H0 Z0 (hide H1 Z) Zi σ2 H' ρ1 → tS X.K T W mr fb { D with nx := fun σ H => ∃ Zi ρi, StS X.K T H0 Z0 (hide H1 Z) Zi σ H ρi ∧ PostD X.K T H0 Z0 G0 W mr D (execFor t fb (l.drop (i + 1)) ρi), ct := fun σ H => ∃ Zi ρi, StS X.K T H0 Z0 (hide H1 Z) Zi σ H ρi ∧ PostD X.K T H0 Z0 G0 W mr D (execFor t fb (l.drop (i + 1)) ρi), bk := D.nx } σ2 H' := fun σ2 s2 => by
          refine ⟨H0, Z0, hide H1 Z, Zi, ρ1, hz, s2, ?_⟩
          cases qb : fb ρ1 with
          | ok o =>
            rw [qb] at pi
            cases o with
            | nx ρ2 => exact fun Z' σ' H' s' => ⟨Z', ρ2, s', pi⟩
            | ct ρ2 => exact fun Z' σ' H' s' => ⟨Z', ρ2, s', pi⟩
            | br ρ2 => exact fun Z' σ' H' s' => pi Z' σ' H' (s'.weak g01)
            | rt d => exact pi
          | ex c => rw [qb] at pi; exact pi
          | bad => rw [qb] at pi; exact pi
        cases t with
        | v k =>
          have fb' : RR.ok (ρi.set k (some (false, d))) = .ok ρ1 := fb'
          cases fb'
          exact key _ (si'.set rd k)
        | t is =>
          cases d <;> simp only [bindT, reduceCtorEq] at fb'
          split at fb'
          · rename_i l' hl'
            cases fb'
            obtain ⟨z, a, xs, rfl, ha, ra⟩ := rd
            exact ⟨a, xs, rfl, SqT.ext exUnhide ha, by rw [ra.length, hl'], tgs_of (by rw [ra.length, hl']) (key _ (StS.setAll is si' ra))⟩
          · cases fb'
    · rintro σn Hn ⟨Zi, ρi, si, pi⟩
      rw [List.drop_length] at pi
      exact pi Zi σn Hn (si.weak g01)
def execWhile (fc : Env → RR Bool) (body : Env → RR Out) : Nat → Env → RR Out
  | 0, _ => .bad
  | n + 1, ρ => fc ρ >>= fun k => if k then (match body ρ with
    | .ok (.nx ρ2) => execWhile fc body n ρ2
    | .ok (.ct ρ2) => execWhile fc body n ρ2
    | .ok (.br ρ2) => .ok (.nx ρ2)
    | r => r) else .ok (.nx ρ)
theorem s_while {c : Expr} {body : List Stmt} {n : Nat} {fc : Env → RR D} {fb : Env → RR Out} (hp : PassesOwn (model X.prog X.w) X.A X.env X.xe) (hc : PT X c (tDT X.K T W fun ρ => fc ρ >>= truR)) (hb : PSs X body (tS X.K T W mr fb)) :
    PS X (.While c body [] pos) (tS X.K T W mr fun ρ => execWhile (fun ρ => fc ρ >>= truR) fb n ρ) := by
  refine psImp (ps_while hp hc hb) fun D σ H ⟨H0, Z0, G0, Z, ρ, hz, s, p⟩ => ?_
  dsimp only at p
  refine ⟨fun m σ H => ∃ Zi ρi, StS X.K T H0 Z0 G0 Zi σ H ρi ∧ PostD X.K T H0 Z0 G0 W mr D (execWhile (fun ρ => fc ρ >>= truR) fb m ρi), ⟨n, Z, ρ, s, p⟩, ?_⟩
  rintro m σi Hi ⟨Zi, ρi, si, pi⟩
  cases m with
  | zero => exact pi.elim
  | succ m =>
    unfold execWhile at pi
    refine S_exprX si pi fun k H1 _ e1 p1 => ?_
    cases k with
    | false => exact p1 Zi _ _ (si.to e1)
    | true =>
      rw [if_pos rfl] at p1 ⊢
      refine ⟨fun σ H => ∃ Zi ρi, StS X.K T H0 Z0 G0 Zi σ H ρi ∧ PostD X.K T H0 Z0 G0 W mr D (execWhile (fun ρ => fc ρ >>= truR) fb m ρi), fun σ' H' h => ⟨m, Nat.lt_succ_self m, h⟩, H0, Z0, G0, Zi, ρi, hz, si.to e1, ?_⟩
      cases qb : fb ρi with
      | ok o =>
        rw [qb] at p1
        cases o with
        | nx ρ2 => exact fun Z' σ' H' s' => ⟨Z', ρ2, s', p1⟩
        | ct ρ2 => exact fun Z' σ' H' s' => ⟨Z', ρ2, s', p1⟩
        | br ρ2 => exact p1
        | rt d => exact p1
      | ex c => rw [qb] at p1; exact p1
      | bad => rw [qb] at p1; exact p1
end
end Py
end
section
set_option maxHeartbeats 1000000
namespace Py
open PySem PySem.Spec PyProof.Rows L2 LamX

/-! ### is, is not -/
def isNon : D → Bool
  | .non => true
  | _ => false
def isG (d e : D) : Option Bool := match e with
  | .non => some (isNon d)
  | .bl b => match d with
    | .bl a => some (decide (a = b))
    | _ => none
  | _ => none
def isntG (d e : D) : Option Bool := (isG d e).map (!·)
theorem isNon_rep {K : PySem.W.Frag} {G H : Hp} {d : D} {v : V} (hG : ExtN G H) (h : RepB K G H d v) : decide (v = .non) = isNon d := by
  have h := h.rep hG
  cases d with
  | non => rw [show v = _ from h]; rfl
  | bl b => rw [show v = _ from h]; rfl
  | int b => rw [show v = _ from h]; rfl
  | str b => obtain ⟨_, _, rfl⟩ := h; rfl
  | tup b => obtain ⟨_, _, _, rfl, _⟩ := h; rfl
  | lst b => obtain ⟨_, _, _, rfl, _⟩ := h; rfl
  | dic b c => obtain ⟨_, _, rfl, _⟩ := h; rfl
  | scr b => obtain ⟨_, _, rfl, _⟩ := h; rfl
  | obj b => rw [show v = _ from h]; rfl
  | glo b => rw [show v = _ from h]; rfl
section
variable {X : Cx} {T : Tb} {W : WX} {mr : Md} {pos : Pos}
theorem op_isG : OpR X (compareOp .Is) (rDC X.K T isG) := by
  refine opImp (OpR.or op_isN op_is_bl) fun x y H Q h => ?_
  obtain ⟨G, d, e, k, hG, ht, hd, he, hg, hq⟩ := h
  cases e <;> simp only [isG, Option.some.injEq, reduceCtorEq] at hg
  · subst hg
    cases he
    exact .inl ⟨rfl, by rw [isNon_rep hG hd]; exact hq⟩
  · cases d <;> simp only [Option.some.injEq, reduceCtorEq] at hg
    subst hg
    cases hd; cases he
    exact .inr ⟨_, _, rfl, rfl, hq⟩
theorem op_isntG : OpR X (compareOp .IsNot) (rDC X.K T isntG) := by
  refine opImp (OpR.or op_notN op_isnot_bl) fun x y H Q h => ?_
  obtain ⟨G, d, e, k, hG, ht, hd, he, hg, hq⟩ := h
  unfold isntG at hg
  cases e <;> simp only [isG, Option.map_some, Option.map_none, Option.some.injEq, reduceCtorEq] at hg
  · subst hg
    cases he
    exact .inl ⟨rfl, by rw [isNon_rep hG hd]; exact hq⟩
  · cases d <;> simp only [Option.map_some, Option.map_none, Option.some.injEq, reduceCtorEq] at hg
    subst hg
    cases hd; cases he
    exact .inr ⟨_, _, rfl, rfl, hq⟩

/-! ### x.append(e), x.extend(e), x[k] = e -/
def fewB (es : List Expr) : Bool := decide (es.length < 30)
theorem few_of {es : List Expr} {cpos : Pos} {env : PySem.Env} (h : es.all notStar = true) (hf : fewB es = true) : ((backTo cpos (starEach es env)).all (fun x => !x.1) && (backToKw cpos (keywordEach [] env)).all (fun x => x.1.isSome)
      && decide (es.length + ([] : List Keyword).length + (if ([] : List Keyword).isEmpty then 0 else 1) < 30)) = true := by
  have e1 : (backTo cpos (starEach es env)).all (fun x => !x.1) = true := by
    have := back_star (pos := cpos) h env
    rw [List.any_eq_false] at this
    rw [List.all_eq_true]
    intro x hx
    have q := this x hx
    simpa using q
  rw [e1]
  simp only [fewB, decide_eq_true_eq] at hf
  have e2 : (backToKw cpos (keywordEach [] env)).all (fun x => x.1.isSome) = true := by rfl
  rw [e2]
  simp only [List.length_nil, List.isEmpty_nil, if_true, Bool.and_self, Bool.true_and, decide_eq_true_eq]
  omega
def appO (i : Nat) (f : Env → RR D) (ρ : Env) : RR Out := match ρ[i]? with
  | some (some (true, .lst l)) => if l.length < lim then f ρ >>= fun d => .ok (.nx (ρ.set i (some (true, .lst (l ++ [d]))))) else .bad
  | _ => .bad
theorem mr_of {id : String} {r : V → List V → Hp → VK → Prop} (h : MtM X id r) : MtR X id r := h
theorem s_app {i : Nat} {x : Str} {e : Expr} {p1 p2 cpos : Pos} {m : Md} {f : Env → RR D} (hm : m ≠ .bo) (hN : X.N[i]? = some x) (hv : Vis X.env.scope x) (hd : (x == ("__debug__" : Str)) = false) (hcd : (x == ("__classdict__" : Str)) = false) (hs : notStar e = true)
    (hline : (p2.endLine == cpos.line) = true) (he : PE X e (tD X.K T W m f)) :
    PS X (.Expr (.Call (.Attribute (.Name x p1) "append" p2) [e] [] cpos) pos) (tS X.K T W mr (appO i f)) := by
  have hcall := pe_bm (T := "list") PySem.F.plainAttrs_list PySem.F.slot_list_append PySem.F.type_list_append (mr_of mt_append) (pe_var (pos := p1) hN hv hd hcd) (pa_cons he pa_nil (star_of hs [] X.env)) (by rfl) (few_of (by simp [hs]) (by rfl)) hline (star_of hs [] X.env) (by rfl) (apos := p2) (cpos := cpos)
  refine psImp (ps_expr hcall) fun D σ H ⟨H0, Z0, G0, Z, ρ, hz, s, p⟩ => ?_
  unfold appO at p
  split at p
  · rename_i l hi
    split at p
    · rename_i hl
      obtain ⟨v, e1, a, rfl, za, oa⟩ := s.e.slot i _ hi
      obtain ⟨z, xs, h1, h2⟩ := oa
      refine ⟨.ref a, e1, .inl ⟨rfl, xs, SqL.of h1⟩, S_expr s p fun d v H1 _ ex r1 p1 => ?_⟩
      have s1 := s.to ex
      have h1' : H1 a = some (.lst xs) := ex.ext a _ h1 (fun ps q => by cases q)
      have rs := r1.sh hm s.e.zdom
      have h2' := Reps.ext (exHide ex.ext) _ _ h2
      have hlen := h2.length
      refine ⟨a, xs, v, rfl, rfl, h1', by rw [lim_eq]; omega, p1 Z _ _ (s1.mut hi e1 h1' (fun ps q => by cases q) (fun ps q => by cases q) (fun ps q => by cases q) ⟨?_, _, upd_same, h2'.append ⟨v, [], rfl, rs, rfl⟩⟩)⟩
      rw [List.length_append, List.length_singleton, lim_eq]; omega
    · exact p.elim
  · exact p.elim
def extO (i : Nat) (f : Env → RR D) (ρ : Env) : RR Out := match ρ[i]? with
  | some (some (true, .lst l)) => f ρ >>= fun d => match d with
    | .lst l2 => if l.length + l2.length ≤ lim then .ok (.nx (ρ.set i (some (true, .lst (l ++ l2))))) else .bad
    | _ => .bad
  | _ => .bad
theorem s_ext {i : Nat} {x : Str} {e : Expr} {p1 p2 cpos : Pos} {m : Md} {f : Env → RR D} (hN : X.N[i]? = some x) (hv : Vis X.env.scope x) (hd : (x == ("__debug__" : Str)) = false) (hcd : (x == ("__classdict__" : Str)) = false) (hs : notStar e = true)
    (hline : (p2.endLine == cpos.line) = true) (he : PE X e (tD X.K T W m f)) :
    PS X (.Expr (.Call (.Attribute (.Name x p1) "extend" p2) [e] [] cpos) pos) (tS X.K T W mr (extO i f)) := by
  have hcall := pe_bm (T := "list") PySem.F.plainAttrs_list PySem.F.slot_list_extend PySem.F.type_list_extend (mr_of mt_extend) (pe_var (pos := p1) hN hv hd hcd) (pa_cons he pa_nil (star_of hs [] X.env)) (by rfl) (few_of (by simp [hs]) (by rfl)) hline (star_of hs [] X.env) (by rfl) (apos := p2) (cpos := cpos)
  refine psImp (ps_expr hcall) fun D σ H ⟨H0, Z0, G0, Z, ρ, hz, s, p⟩ => ?_
  unfold extO at p
  split at p
  · rename_i l hi
    obtain ⟨v, e1, a, rfl, za, oa⟩ := s.e.slot i _ hi
    obtain ⟨z, xs, h1, h2⟩ := oa
    refine ⟨.ref a, e1, .inl ⟨rfl, xs, SqL.of h1⟩, S_expr s p fun d v H1 _ ex r1 p1 => ?_⟩
    have s1 := s.to ex
    have h1' : H1 a = some (.lst xs) := ex.ext a _ h1 (fun ps q => by cases q)
    have h2' := Reps.ext (exHide ex.ext) _ _ h2
    have hlen := h2.length
    cases d with
    | lst l2 =>
      by_cases hl : l.length + l2.length ≤ lim
      · have p1 : PostD X.K T H0 Z0 G0 W mr D (if l.length + l2.length ≤ lim then .ok (.nx (ρ.set i (some (true, .lst (l ++ l2))))) else .bad) := p1
        rw [if_pos hl] at p1
        obtain ⟨b, rfl, z2, ys, k1, k2⟩ := r1.b
        have hlen2 := k2.length
        refine ⟨a, b, xs, ys, rfl, rfl, h1', k1, by rw [lim_eq]; omega, p1 Z _ _ (s1.mut hi e1 h1' (fun ps q => by cases q) (fun ps q => by cases q) (fun ps q => by cases q) ⟨?_, _, upd_same, h2'.append k2⟩)⟩
        rw [List.length_append, lim_eq]; omega
      · have p1 : PostD X.K T H0 Z0 G0 W mr D (if l.length + l2.length ≤ lim then .ok (.nx (ρ.set i (some (true, .lst (l ++ l2))))) else .bad) := p1
        rw [if_neg hl] at p1
        exact p1.elim
    | _ => exact (show False from p1).elim
  · exact p.elim
/-- d[k] = v -/
def replD : List Key → List D → Key → D → List D
  | k :: ks, v :: vs, j, x => (if k = j then x else v) :: replD ks vs j x
  | _, _, _, _ => []
def putKs (ks : List Key) (vs : List D) (j : Key) (x : D) : List Key × List D := if keyIn ks j then (ks, replD ks vs j x) else (ks ++ [j], vs ++ [x])
theorem replD_rep {K : PySem.W.Frag} {H : Hp} {j : Key} {x : D} {v : V} (rx : Rep K H x v) : ∀ {kvs : List (Key × V)} {vs : List D}, Reps K H vs (kvs.map (·.2)) →
    Reps K H (replD (kvs.map (·.1)) vs j x) ((kvs.map fun kv => if kv.1 = j then (kv.1, v) else kv).map (·.2))
  | [], vs, r => by
    cases vs with
    | nil => rfl
    | cons d ds => obtain ⟨_, _, e, _⟩ := r; cases e
  | (k, w) :: kvs, vs, r => by
    cases vs with
    | nil => cases (show _ = [] from r)
    | cons d ds =>
      obtain ⟨u, us, e, r1, r2⟩ := r
      have e : w :: kvs.map (·.2) = u :: us := e
      cases e
      have ih := replD_rep (j := j) rx (kvs := kvs) r2
      simp only [List.map_cons, replD]
      refine ⟨_, _, rfl, ?_, ih⟩
      by_cases h : k = j
      · simp only [h, if_true]; exact rx
      · simp only [h, if_false]; exact r1
theorem putKs_rep {K : PySem.W.Frag} {H : Hp} {j : Key} {x : D} {v : V} (rx : Rep K H x v) {kvs : List (Key × V)} {vs : List D} (r : Reps K H vs (kvs.map (·.2))) :
    (putK kvs j v).map (·.1) = (putKs (kvs.map (·.1)) vs j x).1 ∧ Reps K H (putKs (kvs.map (·.1)) vs j x).2 ((putK kvs j v).map (·.2)) := by
  unfold putK putKs
  rw [keyIn_eq, ← valV_any]
  cases q : kvs.any fun kv => decide (kv.1 = j) with
  | true =>
    simp only [if_true]
    refine ⟨?_, replD_rep rx r⟩
    rw [List.map_map]
    apply List.map_congr_left
    intro a _
    show (if a.1 = j then (a.1, v) else a).1 = a.1
    split <;> rfl
  | false =>
    simp only [Bool.false_eq_true, if_false, List.map_append, List.map_cons, List.map_nil]
    exact ⟨trivial, r.append ⟨v, [], rfl, rx, rfl⟩⟩
def putO (i : Nat) (fk fv : Env → RR D) (ρ : Env) : RR Out := fv ρ >>= fun x => match ρ[i]? with
  | some (some (true, .dic ks vs)) => fk ρ >>= fun k => match keyOfD k with
    | some j => if ks.length < lim then .ok (.nx (ρ.set i (some (true, .dic (putKs ks vs j x).1 (putKs ks vs j x).2)))) else .bad
    | none => .bad
  | _ => .bad
theorem s_put {i : Nat} {x : Str} {ek e : Expr} {p1 p2 : Pos} {m mk : Md} {fk f : Env → RR D} (hu : X.A.units + 1 < cLine) (hm : m ≠ .bo) (hN : X.N[i]? = some x) (hv : Vis X.env.scope x) (hd : (x == ("__debug__" : Str)) = false) (hcd : (x == ("__classdict__" : Str)) = false)
    (hs : notComp e = true) (hk : PE X ek (tD X.K T W mk fk)) (he : PE X e (tD X.K T W m f)) :
    PS X (.Assign [.Subscript (.Name x p1) ek p2] e pos) (tS X.K T W mr (putO i fk f)) := by
  refine psImp (ps_dput hu (pe_var (pos := p1) hN hv hd hcd) hk he (swaps_of hs _ _ _)) fun D σ H ⟨H0, Z0, G0, Z, ρ, hz, s, p⟩ => ?_
  refine S_expr s p fun d v H1 _ ex r1 p1 => ?_
  have s1 := s.to ex
  split at p1
  · rename_i ks vs hi
    obtain ⟨u, e1, a, rfl, za, oa⟩ := s1.e.slot i _ hi
    refine ⟨.ref a, e1, S_expr s1 p1 fun dk vk H2 _ ex2 r2 p2 => ?_⟩
    split at p2
    · rename_i j hj
      split at p2
      · rename_i hl
        have s2 := s1.to ex2
        have rs := (r1.ext ex2.ext).sh hm s.e.zdom
        obtain ⟨kvs, h1, rfl, h2⟩ := oa.ext (exHide ex2.ext) ex2.ext
        rw [keyOfD_rep hj r2.b]
        obtain ⟨q1, q2⟩ := putKs_rep (j := j) rs h2
        refine ⟨a, _, rfl, DPut.k h1 (by rw [lim_eq]; simpa using hl), p2 Z _ _ (s2.mut hi e1 h1 (fun ps q => by cases q) (fun ps q => by cases q) (fun ps q => by cases q) ⟨_, upd_same, q1, q2⟩)⟩
      · exact p2.elim
    · exact p2.elim
  · exact p1.elim
/-- {} -/
theorem d_dnew : PE X (.Dict [] [] pos) (tD X.K T W .fr fun _ => .ok (.dic [] [])) :=
  peImp pe_dnewK fun σ H Q ⟨ρ, Z, st, p⟩ => fun a na => p _ _ (ext_new st.tabs na) ⟨a, rfl, .inl na, own_dic (kvs := []) (.inl na) rfl rfl⟩
/-- -e -/
def negD (d : D) : Option D := match d with
  | .int i => some (.int (-i))
  | _ => none
theorem d_neg {e : Expr} {m : Md} {f : Env → RR D} (he : PE X e (tD X.K T W m f)) : PE X (.UnaryOp .USub e pos) (tD X.K T W .sh fun ρ => f ρ >>= fun d => RR.of (negD d)) := by
  refine peImp (pe_un un_neg he) fun σ H Q ⟨ρ, Z, st, p⟩ => ⟨ρ, Z, st, Post.then p fun d v H1 _ e1 r1 p1 => ?_⟩
  cases d <;> (try exact (show False from p1).elim)
  have e2 : v = .int _ := r1.b
  subst e2
  exact ⟨_, rfl, p1 _ H1 (Ext.refl e1.tabs) rfl⟩
/-- l.index(x) -/
def idxOf (x : D) : List D → Nat → Option Nat
  | [], _ => none
  | d :: l, i => if eqP d x then some i else idxOf x l (i + 1)
end
end Py
end
section
set_option maxHeartbeats 2000000
namespace Py
open PySem PySem.Spec PyProof.Rows L2 LamX

/-! ### sets: what is met first -/
abbrev KL := List (Value × NestedKey)
section
variable {α : Type}
def ddS (L : List (α × NestedKey)) (p : α × NestedKey) : List (α × NestedKey) := if p.2 ∈ L.map (·.2) then L else L ++ [p]
def ddK (ks : List (α × NestedKey)) : List (α × NestedKey) := ks.foldl ddS []
theorem ddK_take {ks : List (α × NestedKey)} {i : Nat} {p : α × NestedKey} (h : ks[i]? = some p) : ddK (ks.take (i + 1)) = ddS (ddK (ks.take i)) p := by
  unfold ddK
  rw [List.take_add_one, h, List.foldl_append]; rfl
theorem ddS_perm {L L1 L2 : List (α × NestedKey)} {p : α × NestedKey} (pm : L.Perm L1) (h1 : p.2 ∈ L.map (·.2) → L2 = L) (h2 : p.2 ∉ L.map (·.2) → L2.Perm (p :: L)) : L2.Perm (ddS L1 p) := by
  unfold ddS
  have e : p.2 ∈ L1.map (·.2) ↔ p.2 ∈ L.map (·.2) := (pm.map (·.2)).mem_iff.symm
  by_cases c : p.2 ∈ L.map (·.2)
  · rw [if_pos (e.2 c), h1 c]; exact pm
  · rw [if_neg fun q => c (e.1 q)]
    exact (h2 c).trans ((pm.cons p).trans (List.perm_append_singleton p L1).symm)
theorem ddK_len : ∀ (ks : List (α × NestedKey)), (ddK ks).length ≤ ks.length := by
  intro ks
  have : ∀ (ks L : List (α × NestedKey)), (ks.foldl ddS L).length ≤ L.length + ks.length := by
    intro ks
    induction ks with
    | nil => intro L; exact Nat.le_refl _
    | cons p ks ih =>
      intro L
      rw [List.foldl_cons, List.length_cons]
      have h1 := ih (ddS L p)
      have h2 : (ddS L p).length ≤ L.length + 1 := by
        unfold ddS
        split
        · omega
        · rw [List.length_append, List.length_singleton]; omega
      omega
  have h := this ks []
  rw [List.length_nil, Nat.zero_add] at h
  exact h
theorem ddK_sub {ks : List (α × NestedKey)} : ∀ p ∈ ddK ks, p ∈ ks := by
  have : ∀ (ks L : List (α × NestedKey)), ∀ p ∈ ks.foldl ddS L, p ∈ L ∨ p ∈ ks := by
    intro ks
    induction ks with
    | nil => intro L p h; exact .inl h
    | cons q ks ih =>
      intro L p h
      rw [List.foldl_cons] at h
      rcases ih _ p h with h | h
      · unfold ddS at h
        split at h
        · exact .inl h
        · rcases List.mem_append.mp h with h | h
          · exact .inl h
          · rw [List.mem_singleton.mp h]; exact .inr List.mem_cons_self
      · exact .inr (List.mem_cons_of_mem _ h)
  intro p h
  rcases this ks [] p h with h | h
  · cases h
  · exact h
theorem ddK_nodup (ks : List (α × NestedKey)) : ((ddK ks).map (·.2)).Nodup := by
  have : ∀ (ks L : List (α × NestedKey)), (L.map (·.2)).Nodup → ((ks.foldl ddS L).map (·.2)).Nodup := by
    intro ks
    induction ks with
    | nil => intro L h; exact h
    | cons q ks ih =>
      intro L h
      rw [List.foldl_cons]
      refine ih _ ?_
      unfold ddS
      split
      · exact h
      · rename_i c
        rw [List.map_append, List.map_cons, List.map_nil, List.nodup_append]
        refine ⟨h, List.nodup_cons.mpr ⟨by simp, List.nodup_nil⟩, fun a ha b hb e => ?_⟩
        rw [List.mem_singleton.mp hb] at e
        exact c (e ▸ ha)
  exact this ks [] List.nodup_nil

theorem ddS_map {β : Type} (f : α → β) (L : List (α × NestedKey)) (p : α × NestedKey) : (ddS L p).map (fun q => (f q.1, q.2)) = ddS (L.map fun q => (f q.1, q.2)) (f p.1, p.2) := by
  unfold ddS
  rw [List.map_map]
  have e : L.map ((fun q : β × NestedKey => q.2) ∘ fun q => (f q.1, q.2)) = L.map (·.2) := rfl
  rw [e]
  dsimp only
  split
  · rfl
  · rw [List.map_append]; rfl
theorem ddK_map {β : Type} (f : α → β) (ks : List (α × NestedKey)) : (ddK ks).map (fun q => (f q.1, q.2)) = ddK (ks.map fun q => (f q.1, q.2)) := by
  have : ∀ (ks L : List (α × NestedKey)), (ks.foldl ddS L).map (fun q => (f q.1, q.2)) = (ks.map fun q => (f q.1, q.2)).foldl ddS (L.map fun q => (f q.1, q.2)) := by
    intro ks
    induction ks with
    | nil => intro L; rfl
    | cons p ks ih =>
      intro L
      rw [List.foldl_cons, List.map_cons, List.foldl_cons, ih, ddS_map]
  exact this ks []
end
/-! ### filling a set from a list -/
structure Adds (P : Program) (w : World) (A : Around) (h0 : Heap) (S : Addr) (ks : KL) (R : Heap → KL → Prop) : Prop where
  keep : ∀ h h' L, R h L → (∀ o, h.get? S = some o → h'.get? S = some o) → (∀ b o, h0.get? b = some o → h'.get? b = some o) → R h' L
  new : ∀ h, h.get? S = some { cls := .type "set", dict := none, data := .set #[] 0 (.fresh 0 0 (!w.params.followText "set-order")) } → (∀ b o, h0.get? b = some o → h.get? b = some o) → R h []
  add : ∀ (s : Shared) (E : Value → Shared → Prop) (L : KL) (p : Value × NestedKey) (Q : Bool → Shared → Prop), R s.heap L → (∀ q ∈ L, q ∈ ks) → p ∈ ks → L.length < ks.length → (∀ b o, h0.get? b = some o → s.heap.get? b = some o) →
    (∀ b h' L', Heap.SameBut S s.heap h' → R h' L' → (p.2 ∈ L.map (·.2) → L' = L) → (p.2 ∉ L.map (·.2) → L'.Perm (p :: L)) → Q b { s with heap := h' }) →
    wpAny (model P w) A (setAddHashed S p.1 (p.2.hash w)) Q E s

section
variable {P : Program} {w : World} {A : Around} {E : Value → Shared → Prop} {s : Shared}
theorem set_loop {I : Addr} {fp wr : List Addr} {G : Array GenState → Array GenState → Prop} {n : Nat} {Pv : Nat → Value → Prop} {St : Nat → Shared → Prop} {Rz : Result → Shared → Prop} {R : Heap → KL → Prop}
    (W : WalksS P w A.in1 I fp wr G n Pv St) (S : Addr) (hSf : S ∉ fp) (ks : KL) (hn : n = ks.length) (hval : ∀ i v, Pv i v → ∃ p, ks[i]? = some p ∧ v = p.1)
    (h0 : Heap) (hk : ∀ p ∈ ks, NestedIs h0 p.2 p.1) (hd : ∀ p ∈ ks, p.2.depth ≤ 8) (hS0 : h0.get? S = none) (hw0 : ∀ b ∈ wr, h0.get? b = none) (hu : A.units + 10 < cLine) (ad : Adds P w A.in1 h0 S ks R) :
    ∀ (k i : Nat) (s : Shared), n - i = k → i ≤ n → St i s → (∀ b o, h0.get? b = some o → s.heap.get? b = some o) → (∃ L, R s.heap L ∧ L.Perm (ddK (ks.take i))) →
      (∀ s' L, Moved (S :: wr) G s s' → R s'.heap L → L.Perm (ddK ks) → (∀ b o, h0.get? b = some o → s'.heap.get? b = some o) → Rz (.ok (.ret .none)) s') →
      codeAny (model P w) A (.builtin "set.update.loop" ⟨[.ref S, .ref I], []⟩) Rz s := by
  have hSw : S ∉ wr := fun h => hSf (W.sub _ h)
  have hsub : ∀ b ∈ wr, b ∈ S :: wr := fun b hb => List.mem_cons_of_mem _ hb
  have keepM : ∀ {s s' : Shared}, Moved wr G s s' → (∀ b o, h0.get? b = some o → s.heap.get? b = some o) → ∀ b o, h0.get? b = some o → s'.heap.get? b = some o := fun hm hkp b o e =>
    hm.heap b o (fun hb => by rw [hw0 b hb] at e; cases e) (hkp b o e)
  intro k
  induction k with
  | zero =>
    intro i s hk' hi hst hkp ⟨L, hS, g⟩ hR
    have hin : i = n := by omega
    subst hin
    refine codeAny_builtin F.entry_set_update_loop ?_
    rw [Around.under_plainId F.plain_set_update_loop _]
    show wpAny _ A.in1 (pyNext (.ref I) >>= _) _ _ s
    refine wpAny_bind (W.done s _ _ hst fun s' hm => ?_)
    show wpAny _ A.in1 (ret Value.none) _ _ s'
    have hkp' := keepM hm hkp
    rw [hn, List.take_length] at g
    exact wpAny_pure (hR s' L (hm.mono hsub) (ad.keep _ _ _ hS (fun o e => hm.heap S o hSw e) hkp') g hkp')
  | succ k ih =>
    intro i s hk' hi hst hkp ⟨L, hS, g⟩ hR
    have hlt : i < n := by omega
    refine codeAny_builtin F.entry_set_update_loop ?_
    rw [Around.under_plainId F.plain_set_update_loop _]
    show wpAny _ A.in1 (pyNext (.ref I) >>= _) _ _ s
    refine wpAny_bind (W.item i s _ _ hlt hst fun v s' hP hst' hm => ?_)
    obtain ⟨p, hp, rfl⟩ := hval i v hP
    have hkp' := keepM hm hkp
    have hmem : p ∈ ks := List.mem_of_getElem? hp
    have sub : ∀ q ∈ L, q ∈ ks := fun q hq => List.mem_of_mem_take (ddK_sub q (g.mem_iff.mp hq))
    have hL : L.length < ks.length := by
      have h1 := ddK_len (ks.take i)
      have h2 := g.length_eq
      rw [List.length_take] at h1
      omega
    have hS' : R s'.heap L := ad.keep _ _ _ hS (fun o e => hm.heap S o hSw e) hkp'
    have hx : NestedIs s'.heap p.2 p.1 := NestedIs.at (fun b o vs m e _ => hkp' b o e) _ _ (hk p hmem)
    show wpAny _ A.in1 (holding [p.1] (setAdd S p.1) >>= _) _ _ s'
    refine wpAny_bind (wpAny_holding ?_)
    unfold setAdd
    refine wpAny_holding ?_
    have hdp := hd p hmem
    refine wpAny_bind (pyHash_key p.2 p.1 A.in1 s' _ hx (by rw [Around.in1_units]; omega) ?_)
    refine ad.add { s' with toks := s'.toks + p.2.draws } _ L p _ hS' sub hmem hL hkp' fun b h' L' hsb hS2 c1 c2 => ?_
    have hkp2 : ∀ b o, h0.get? b = some o → h'.get? b = some o := fun b o e => (hsb.2 b (fun z => by rw [z, hS0] at e; cases e)).trans (hkp' b o e)
    refine wpAny_pure ⟨plainId_quiet F.plain_set_update_loop _, ih (i + 1) _ (by omega) hlt (W.frame _ s' _ _ hst' (Nat.le_add_right _ _) fun b hb o e => ?_) hkp2 ⟨L', hS2, by rw [ddK_take hp]; exact ddS_perm g c1 c2⟩ fun s'' L2 hm'' hS'' g'' hkp'' => ?_⟩
    · rw [hsb.2 b (fun h : b = S => hSf (by rw [← h]; exact hb))]; exact e
    · refine hR s'' L2 (Moved.trans W.gtrans ((hm.mono hsub).then_heap (Nat.le_add_right _ _) fun b o hb e => ?_) hm'') hS'' g'' hkp''
      rw [hsb.2 b (fun h : b = S => hb (by rw [h]; exact List.mem_cons_self))]; exact e
set_option maxRecDepth 100000 in
set_option maxHeartbeats 3200000 in
/-- set(xs) -/
theorem call_setG {l : Addr} {items : Array Value} {R : Heap → KL → Prop} (ks : KL) {Q : Value → Shared → Prop} (hh : A.handled = none) (hl : s.heap.IsList l items) (hit : items.toList = ks.map (·.1))
    (hk : ∀ p ∈ ks, NestedIs s.heap p.2 p.1) (hdp : ∀ p ∈ ks, p.2.depth ≤ 8) (hu : A.units + 15 < cLine) (ad : ∀ A' : Around, A'.units ≤ A.units + 6 → Adds P w A' s.heap s.heap.objs.size ks R)
    (h : ∀ (h' : Heap) (tk : Nat) L, R h' L → L.Perm (ddK ks) → (∀ b o, s.heap.get? b = some o → h'.get? b = some o) → Q (.ref s.heap.objs.size) { s with heap := h', toks := tk }) :
    wpAny (model P w) A (call (.type "set") [.ref l]) Q E s := by
  have hisz : items.size = ks.length := by
    have q := congrArg List.length hit
    rw [Array.length_toList, List.length_map] at q
    exact q
  obtain ⟨c, tl, hmro⟩ := F.called_set.mro
  have hmade := F.called_set.made
  have hsub := F.called_set.sub
  refine wpAny_call (codeAny_of_tree ?_)
  show wpAny _ _ (callAny (.type "set") _) _ _ _
  refine wpAny_pure ⟨Code.quiet_builtin _ (by decide +kernel), codeAny_builtin F.entry_type_call ?_⟩
  rw [Around.under_plain (weight_type_call_type "set" [.ref l] []) rfl]
  have h1 := F.called_set.notType
  have h2 := F.called_set.canCreate
  have hct := F.typeCall_set_1 (.ref l)
  repeat (any_goals (first | assumption | wp_step))
  refine codeAny_mono (code_set_led1 (.ref l) (E := E) (Q₁ := fun obj s₁ => obj = .ref s.heap.objs.size ∧ s₁ = { s with heap := s.heap.push { cls := .type "set", dict := none, data := .set #[] 0 (.fresh 0 0 (!w.params.followText "set-order")) } }) ⟨rfl, rfl⟩) fun r s₁ hr => ?_
  cases r with
  | error e => exact hr
  | ok fl =>
    cases fl with
    | ret obj =>
      obtain ⟨rfl, rfl⟩ := hr
      have hS : (s.heap.push { cls := .type "set", dict := none, data := .set #[] 0 (.fresh 0 0 (!w.params.followText "set-order")) }).get? s.heap.objs.size = some { cls := .type "set", dict := none, data := .set #[] 0 (.fresh 0 0 (!w.params.followText "set-order")) } := Heap.get?_push_size _ rfl
      have hT : Shared.TypeIs { s with heap := s.heap.push { cls := .type "set", dict := none, data := .set #[] 0 (.fresh 0 0 (!w.params.followText "set-order")) } } (.ref s.heap.objs.size) "set" := ⟨_, hS, rfl⟩
      have hli := F.called_set.init.lookup
      have hbi := F.called_set.init.bind (.ref s.heap.objs.size)
      repeat (any_goals (first | assumption | wp_step))
      refine codeAny_mono (codeAny_call_builtin (R := wants (fun r s₂ => r = .none ∧ ∃ h' tk L, s₂ = { s with heap := h', toks := tk } ∧ R h' L ∧ L.Perm (ddK ks) ∧
          (∀ b o, s.heap.get? b = some o → h'.get? b = some o)) E) F.called_set.init.plain F.entry_set_init (check_set_init_1 hT ?_)) fun r₂ s₂ hr₂ => ?_
      · obtain ⟨ol, hol, hcl, nl, hdl⟩ := hl
        obtain ⟨ocls, odict, odata, oslots⟩ := ol
        simp only at hcl hdl
        subst hcl; subst hdl
        have hol' : (s.heap.push { cls := .type "set", dict := none, data := .set #[] 0 (.fresh 0 0 (!w.params.followText "set-order")) }).get? l = some { cls := .type "list", dict := odict, data := .seq items nl, slots := oslots } := Heap.get?_push_of_some _ hol
        have hsls := F.sub_list_set
        have hslf := F.sub_list_frozenset
        have hne : (Value.type "list" == Value.type "dict") = false := by decide
        have hl1 : (s.heap.push { cls := .type "set", dict := none, data := .set #[] 0 (.fresh 0 0 (!w.params.followText "set-order")) }).IsList l items := ⟨_, hol', rfl, nl, rfl⟩
        unfold Builtin.«set.__init__» noKeywords Builtin.Frozenset.updateFrom
        generalize hPI : pyIter = PI
        wp_walk
        subst hPI
        refine wpAny_pyIter_list hl1 ?_
        refine wpAny_bind (wpAny_runValue ?_)
        have hlS : l < s.heap.objs.size := Heap.lt_size hol
        have hh3 : A.in1.in1.in1.handled = none := by simp [hh]
        have hneI : l ≠ (s.heap.push { cls := .type "set", dict := none, data := .set #[] 0 (.fresh 0 0 (!w.params.followText "set-order")) }).objs.size := by
          rw [Heap.size_push]; exact Nat.ne_of_lt (Nat.lt_succ_of_lt hlS)
        have hSf : s.heap.objs.size ∉ [(s.heap.push { cls := .type "set", dict := none, data := .set #[] 0 (.fresh 0 0 (!w.params.followText "set-order")) }).objs.size, l] := by
          rw [Heap.size_push]; simp only [List.mem_cons, List.mem_singleton, List.not_mem_nil, or_false, not_or]
          exact ⟨Nat.ne_of_lt (Nat.lt_succ_self _), Nat.ne_of_gt hlS⟩
        have hval : ∀ (i : Nat) (v : Value), items[i]? = some v → ∃ p, ks[i]? = some p ∧ v = p.1 := fun i v hv => by
          have q : items.toList[i]? = some v := by rw [Array.getElem?_toList]; exact hv
          rw [hit, List.getElem?_map] at q
          cases hq : ks[i]? with
          | none => rw [hq] at q; cases q
          | some p =>
            rw [hq] at q
            exact ⟨p, rfl, (Option.some.inj q).symm⟩
        have none_of : ∀ b, s.heap.objs.size ≤ b → s.heap.get? b = none := fun b hb => by
          cases q : s.heap.get? b with
          | none => rfl
          | some o => exact absurd (Nat.lt_of_lt_of_le (Heap.lt_size q) hb) (Nat.lt_irrefl _)
        refine set_loop (A := A.in1.in1) ((Walks.list hh3 _ l hneI items).toS) s.heap.objs.size
          hSf ks hisz hval s.heap hk hdp (none_of _ (Nat.le_refl _)) (fun b hb => none_of b (by
            rw [List.mem_singleton.mp hb, Heap.size_push]
            exact Nat.le_succ _)) (by simp only [Around.in1_units]; omega) (ad _ (by simp only [Around.in1_units]; omega)) (items.size - 0) 0 _ (by omega) (Nat.zero_le _)
          ⟨⟨_, Heap.get?_push_size _ rfl, rfl, rfl⟩, (hl1.push _)⟩ (fun b o e => Heap.get?_push_of_some _ (Heap.get?_push_of_some _ e)) ?hS0 ?hR
        case hS0 =>
          have hget : ((s.heap.push { cls := .type "set", dict := none, data := .set #[] 0 (.fresh 0 0 (!w.params.followText "set-order")) }).push { cls := .type "list_iterator", data := .fields #[.ref l, .int 0 0] }).get? s.heap.objs.size
              = some { cls := .type "set", dict := none, data := .set #[] 0 (.fresh 0 0 (!w.params.followText "set-order")) } := Heap.get?_push_of_some _ hS
          exact ⟨[], (ad A (by omega)).new _ hget (fun b o e => Heap.get?_push_of_some _ (Heap.get?_push_of_some _ e)), List.Perm.refl _⟩
        case hR =>
          intro s' L hm hS' g' hkp
          obtain ⟨h', g2, d', tk', os'⟩ := s'
          have eg : g2 = s.gens := hm.gens
          have ed : d' = s.drawn := hm.drawn
          have eo : os' = s.os := hm.os
          subst eg; subst ed; subst eo
          show wpAny _ _ _ _ _ _
          refine wpAny_pure ?_
          show wpAny _ _ (ret Value.none) _ _ _
          exact wpAny_pure ⟨rfl, h', tk', L, rfl, hS', g', hkp⟩
      · cases r₂ with
        | error e => exact hr₂
        | ok fl₂ =>
          cases fl₂ with
          | ret r =>
            obtain ⟨rfl, h', tk, L, rfl, hS', g', hk'⟩ := hr₂
            repeat (any_goals (first | assumption | wp_step))
            exact h _ _ _ hS' g' hk'
          | _ => exact hr₂.elim
    | _ => exact hr.elim
set_option maxRecDepth 100000 in
set_option maxHeartbeats 3200000 in
/-- set(xs) -/
theorem call_setGT {l : Addr} {items : Array Value} {R : Heap → KL → Prop} (ks : KL) {Q : Value → Shared → Prop} (hh : A.handled = none) (hl : s.heap.IsTuple l items) (hit : items.toList = ks.map (·.1))
    (hk : ∀ p ∈ ks, NestedIs s.heap p.2 p.1) (hdp : ∀ p ∈ ks, p.2.depth ≤ 8) (hu : A.units + 15 < cLine) (ad : ∀ A' : Around, A'.units ≤ A.units + 6 → Adds P w A' s.heap s.heap.objs.size ks R)
    (h : ∀ (h' : Heap) (tk : Nat) L, R h' L → L.Perm (ddK ks) → (∀ b o, s.heap.get? b = some o → h'.get? b = some o) → Q (.ref s.heap.objs.size) { s with heap := h', toks := tk }) :
    wpAny (model P w) A (call (.type "set") [.ref l]) Q E s := by
  have hisz : items.size = ks.length := by
    have q := congrArg List.length hit
    rw [Array.length_toList, List.length_map] at q
    exact q
  obtain ⟨c, tl, hmro⟩ := F.called_set.mro
  have hmade := F.called_set.made
  have hsub := F.called_set.sub
  refine wpAny_call (codeAny_of_tree ?_)
  show wpAny _ _ (callAny (.type "set") _) _ _ _
  refine wpAny_pure ⟨Code.quiet_builtin _ (by decide +kernel), codeAny_builtin F.entry_type_call ?_⟩
  rw [Around.under_plain (weight_type_call_type "set" [.ref l] []) rfl]
  have h1 := F.called_set.notType
  have h2 := F.called_set.canCreate
  have hct := F.typeCall_set_1 (.ref l)
  repeat (any_goals (first | assumption | wp_step))
  refine codeAny_mono (code_set_led1 (.ref l) (E := E) (Q₁ := fun obj s₁ => obj = .ref s.heap.objs.size ∧ s₁ = { s with heap := s.heap.push { cls := .type "set", dict := none, data := .set #[] 0 (.fresh 0 0 (!w.params.followText "set-order")) } }) ⟨rfl, rfl⟩) fun r s₁ hr => ?_
  cases r with
  | error e => exact hr
  | ok fl =>
    cases fl with
    | ret obj =>
      obtain ⟨rfl, rfl⟩ := hr
      have hS : (s.heap.push { cls := .type "set", dict := none, data := .set #[] 0 (.fresh 0 0 (!w.params.followText "set-order")) }).get? s.heap.objs.size = some { cls := .type "set", dict := none, data := .set #[] 0 (.fresh 0 0 (!w.params.followText "set-order")) } := Heap.get?_push_size _ rfl
      have hT : Shared.TypeIs { s with heap := s.heap.push { cls := .type "set", dict := none, data := .set #[] 0 (.fresh 0 0 (!w.params.followText "set-order")) } } (.ref s.heap.objs.size) "set" := ⟨_, hS, rfl⟩
      have hli := F.called_set.init.lookup
      have hbi := F.called_set.init.bind (.ref s.heap.objs.size)
      repeat (any_goals (first | assumption | wp_step))
      refine codeAny_mono (codeAny_call_builtin (R := wants (fun r s₂ => r = .none ∧ ∃ h' tk L, s₂ = { s with heap := h', toks := tk } ∧ R h' L ∧ L.Perm (ddK ks) ∧
          (∀ b o, s.heap.get? b = some o → h'.get? b = some o)) E) F.called_set.init.plain F.entry_set_init (check_set_init_1 hT ?_)) fun r₂ s₂ hr₂ => ?_
      · obtain ⟨ol, hol, hcl, nl, hdl⟩ := hl
        obtain ⟨ocls, odict, odata, oslots⟩ := ol
        simp only at hcl hdl
        subst hcl; subst hdl
        have hol' : (s.heap.push { cls := .type "set", dict := none, data := .set #[] 0 (.fresh 0 0 (!w.params.followText "set-order")) }).get? l = some { cls := .type "tuple", dict := odict, data := .seq items nl, slots := oslots } := Heap.get?_push_of_some _ hol
        have hsls := F.sub_tuple_set
        have hslf := F.sub_tuple_frozenset
        have hne : (Value.type "tuple" == Value.type "dict") = false := by decide
        have hl1 : (s.heap.push { cls := .type "set", dict := none, data := .set #[] 0 (.fresh 0 0 (!w.params.followText "set-order")) }).IsTuple l items := ⟨_, hol', rfl, nl, rfl⟩
        unfold Builtin.«set.__init__» noKeywords Builtin.Frozenset.updateFrom
        generalize hPI : pyIter = PI
        wp_walk
        subst hPI
        refine wpAny_pyIter_tuple hl1 ?_
        refine wpAny_bind (wpAny_runValue ?_)
        have hlS : l < s.heap.objs.size := Heap.lt_size hol
        have hh3 : A.in1.in1.in1.handled = none := by simp [hh]
        have hneI : l ≠ (s.heap.push { cls := .type "set", dict := none, data := .set #[] 0 (.fresh 0 0 (!w.params.followText "set-order")) }).objs.size := by
          rw [Heap.size_push]; exact Nat.ne_of_lt (Nat.lt_succ_of_lt hlS)
        have hSf : s.heap.objs.size ∉ [(s.heap.push { cls := .type "set", dict := none, data := .set #[] 0 (.fresh 0 0 (!w.params.followText "set-order")) }).objs.size, l] := by
          rw [Heap.size_push]; simp only [List.mem_cons, List.mem_singleton, List.not_mem_nil, or_false, not_or]
          exact ⟨Nat.ne_of_lt (Nat.lt_succ_self _), Nat.ne_of_gt hlS⟩
        have hval : ∀ (i : Nat) (v : Value), items[i]? = some v → ∃ p, ks[i]? = some p ∧ v = p.1 := fun i v hv => by
          have q : items.toList[i]? = some v := by rw [Array.getElem?_toList]; exact hv
          rw [hit, List.getElem?_map] at q
          cases hq : ks[i]? with
          | none => rw [hq] at q; cases q
          | some p =>
            rw [hq] at q
            exact ⟨p, rfl, (Option.some.inj q).symm⟩
        have none_of : ∀ b, s.heap.objs.size ≤ b → s.heap.get? b = none := fun b hb => by
          cases q : s.heap.get? b with
          | none => rfl
          | some o => exact absurd (Nat.lt_of_lt_of_le (Heap.lt_size q) hb) (Nat.lt_irrefl _)
        refine set_loop (A := A.in1.in1) ((Walks.tuple hh3 _ l hneI items).toS) s.heap.objs.size
          hSf ks hisz hval s.heap hk hdp (none_of _ (Nat.le_refl _)) (fun b hb => none_of b (by
            rw [List.mem_singleton.mp hb, Heap.size_push]
            exact Nat.le_succ _)) (by simp only [Around.in1_units]; omega) (ad _ (by simp only [Around.in1_units]; omega)) (items.size - 0) 0 _ (by omega) (Nat.zero_le _)
          ⟨⟨_, Heap.get?_push_size _ rfl, rfl, rfl⟩, (hl1.push _)⟩ (fun b o e => Heap.get?_push_of_some _ (Heap.get?_push_of_some _ e)) ?hS0 ?hR
        case hS0 =>
          have hget : ((s.heap.push { cls := .type "set", dict := none, data := .set #[] 0 (.fresh 0 0 (!w.params.followText "set-order")) }).push { cls := .type "tuple_iterator", data := .fields #[.ref l, .int 0 0] }).get? s.heap.objs.size
              = some { cls := .type "set", dict := none, data := .set #[] 0 (.fresh 0 0 (!w.params.followText "set-order")) } := Heap.get?_push_of_some _ hS
          exact ⟨[], (ad A (by omega)).new _ hget (fun b o e => Heap.get?_push_of_some _ (Heap.get?_push_of_some _ e)), List.Perm.refl _⟩
        case hR =>
          intro s' L hm hS' g' hkp
          obtain ⟨h', g2, d', tk', os'⟩ := s'
          have eg : g2 = s.gens := hm.gens
          have ed : d' = s.drawn := hm.drawn
          have eo : os' = s.os := hm.os
          subst eg; subst ed; subst eo
          show wpAny _ _ _ _ _ _
          refine wpAny_pure ?_
          show wpAny _ _ (ret Value.none) _ _ _
          exact wpAny_pure ⟨rfl, h', tk', L, rfl, hS', g', hkp⟩
      · cases r₂ with
        | error e => exact hr₂
        | ok fl₂ =>
          cases fl₂ with
          | ret r =>
            obtain ⟨rfl, h', tk, L, rfl, hS', g', hk'⟩ := hr₂
            repeat (any_goals (first | assumption | wp_step))
            exact h _ _ _ hS' g' hk'
          | _ => exact hr₂.elim
    | _ => exact hr.elim
end
end Py
end
section
set_option maxHeartbeats 2000000
namespace Py
open PySem PySem.Spec PyProof.Rows L2 LamX

/-! ### a set at S as a walk needs it -/
structure SetObj (w : World) (h : Heap) (S : Addr) (L : KL) : Prop where
  ex : ∃ o es ep t, h.get? S = some o ∧ o.ExactSet ∧ o.data = .set es ep t ∧ t.fits es.size = true ∧ Ris t.place.toList ∧ (w.params.followText "set-order" = true ∨ t.led = true) ∧ es.toList.Perm (L.map fun p => (p.2.hash w, p.1)) ∧ es.size < scanBound
/-! ### keys carried by value -/
def LeafP (p : Value × NestedKey) : Prop := ∃ lf : Leaf, lf.key = p.2 ∧ Leaf.isOf lf p.1 = true
structure ScanR (w : World) (S : Addr) (h : Heap) (L : KL) : Prop where
  ob : SetObj w h S L
  nd : (L.map (·.2)).Nodup
  leaf : ∀ p ∈ L, LeafP p
theorem leaf_scan {k : Leaf} {v : Value} (e : Leaf.isOf k v = true) : v.scannable = true := by
  cases k with
  | none => cases v <;> first | rfl | exact absurd e Bool.false_ne_true
  | num i => cases v <;> first | rfl | exact absurd e Bool.false_ne_true
  | text x =>
    obtain ⟨t, rfl⟩ := Value.isStrOf_shape (show Value.isStrOf x v = true from e)
    rfl
section
variable {P : Program} {w : World} {A : Around} {E : Value → Shared → Prop} {s : Shared} {a : Addr}
theorem rows_mem {L : KL} {es : List (Int × Value)} (pm : es.Perm (L.map fun p => (p.2.hash w, p.1))) {e : Int × Value} (h : e ∈ es) : ∃ p ∈ L, e = (p.2.hash w, p.1) := by
  obtain ⟨p, hp, q⟩ := List.mem_map.mp (pm.mem_iff.mp h)
  exact ⟨p, hp, q.symm⟩
theorem rows_elems {L : KL} {es : List (Int × Value)} (pm : es.Perm (L.map fun p => (p.2.hash w, p.1))) (lf : ∀ p ∈ L, LeafP p) : ElemsOf (leafKind P w) es := fun e he => by
  obtain ⟨p, hp, rfl⟩ := rows_mem pm he
  obtain ⟨k, h1, h2⟩ := lf p hp
  exact ⟨⟨k, h2, by rw [← h1]; rfl⟩, leaf_scan h2⟩
theorem scan_tail {g : Bool → Sem Unit} (hg : ∀ (b : Bool) (s₁ : Shared) (Q' : Unit → Shared → Prop), Q' () s₁ → wpAny (model P w) A (g b) Q' E s₁)
    {o : Obj} {es : Array (Int × Value)} {ep : Nat} {t : SetTable} (ho : s.heap.get? a = some o) (hex : o.ExactSet) (hd : o.data = .set es ep t)
    {es1 : Array (Int × Value)} {t2 : SetTable} {L : KL} (pm1 : es1.toList.Perm (L.map fun p => (p.2.hash w, p.1)))
    (hb1 : es1.size < scanBound) (hf2 : t2.fits es1.size = true) (hr : Ris t2.place.toList) (hl : w.params.followText "set-order" = true ∨ t2.led = true) {wasDummy : Bool} {R : Option Bool → Shared → Prop}
    (hR : ∀ h', Heap.SameBut a s.heap h' → SetObj w h' a L → R (some true) { s with heap := h' }) :
    wpAny (model P w) A (do
        storeSet a es1 t2
        if (!wasDummy && t2.tooFull) = true then do
            g (relayAll t2 es1 (SetTable.grown es1.size)).2.2
            storeSet a (relayAll t2 es1 (SetTable.grown es1.size)).1 (relayAll t2 es1 (SetTable.grown es1.size)).2.1
            pure (some true)
          else pure (some true)) R E s := by
  refine wpAny_bind (wpAny_storeSet_of ho hd ?_ (fits_of_scanBound hb1))
  have ho1 := store_at (es' := es1) (t' := t2) ho hd
  have sb1 := Heap.SameBut.update s.heap a (Obj.putSet es1 t2)
  split
  · have pm := relayAll_perm t2 es1 (SetTable.grown es1.size)
    have hf3 := relayAll_fits t2 es1 (SetTable.grown es1.size)
    have hr3 := relayAll_ris t2 es1 (SetTable.grown es1.size)
    have hl3 := relayAll_led t2 es1 (SetTable.grown es1.size)
    generalize relayAll t2 es1 (SetTable.grown es1.size) = Z at pm hf3 hr3 hl3 ⊢
    obtain ⟨es2, t3, gave⟩ := Z
    dsimp only at pm hf3 hr3 hl3 ⊢
    have hsz : es2.size = es1.size := by rw [← Array.length_toList, pm.length_eq, Array.length_toList]
    have hb2 : es2.size < scanBound := by rw [hsz]; exact hb1
    refine wpAny_bind (hg _ _ _ ?_)
    refine wpAny_bind (wpAny_storeSet_of ho1 rfl ?_ (fits_of_scanBound hb2))
    have ho2 := store_at (es' := es2) (t' := t3) ho1 rfl
    refine wpAny_pure (hR _ (sb1.trans (Heap.SameBut.update _ a _)) ?_)
    exact ⟨_, es2, _, t3, ho2, hex, rfl, hf3, hr3, hl.imp id (fun z => by rw [hl3]; exact z), pm.trans pm1, hb2⟩
  · exact wpAny_pure (hR _ sb1 ⟨_, es1, _, t2, ho1, hex, rfl, hf2, hr, hl, pm1, hb1⟩)
theorem scan_add {L : KL} {p : Value × NestedKey} {Q : Bool → Shared → Prop} (R : ScanR w a s.heap L) (hp : LeafP p) (room : L.length + 1 < scanBound)
    (hQ : ∀ b h' L', Heap.SameBut a s.heap h' → ScanR w a h' L' → (p.2 ∈ L.map (·.2) → L' = L) → (p.2 ∉ L.map (·.2) → L'.Perm (p :: L)) → Q b { s with heap := h' }) :
    wpAny (model P w) A (setAddHashed a p.1 (p.2.hash w)) Q E s := by
  obtain ⟨o, es, ep, t, ho, hex, hd, hf, hr, hl, pm0, hb⟩ := R.ob.ex
  obtain ⟨lf, hk, hv⟩ := hp
  obtain ⟨v, k⟩ := p
  dsimp only at hk hv hQ ⊢
  subst hk
  have hsc : v.scannable = true := leaf_scan hv
  have hel : ElemsOf (leafKind P w) es.toList := rows_elems pm0 R.leaf
  have hn : es.size = L.length := by rw [← Array.length_toList, pm0.length_eq, List.length_map]
  have key_iff : ∀ e ∈ es.toList, ((leafKind P w).is lf e.2 = true ↔ ∃ q ∈ L, e = (q.2.hash w, q.1) ∧ q.2 = lf.key) := fun e he => by
    obtain ⟨q, hq, rfl⟩ := rows_mem pm0 he
    obtain ⟨lq, e1, e2⟩ := R.leaf q hq
    constructor
    · intro h
      have e3 : lq = lf := (leafKind P w).inj q.1 lq lf e2 h
      exact ⟨q, hq, rfl, by rw [← e1, e3]⟩
    · rintro ⟨q', hq', e3, e4⟩
      have e5 : q.1 = q'.1 := congrArg Prod.snd e3
      obtain ⟨lq', e6, e7⟩ := R.leaf q' hq'
      have e8 : lq' = lf := Leaf.key_inj (e6.trans e4)
      show Leaf.isOf lf q.1 = true
      rw [e5, ← e8]; exact e7
  unfold setAddHashed setAddHashedIn
  refine wpAny_holding (wpAny_bind (wpAny_setState_of ho hd hf ?_))
  dsimp only
  rw [byScan_of hsc hb hel]
  simp only [↓reduceIte]
  unfold setAddByScan
  refine wpAny_bind ?_
  refine wpAny_bind (wpAny_rule ?_)
  refine wpAny_bind (wpAny_setScan_of (knd := leafKind P w) (k := lf) hv ho hd hf hel ?_)
  cases hfi : List.findIdx? (fun e => (leafKind P w).is lf e.2) es.toList with
  | some j =>
    dsimp only
    obtain ⟨hj, pj, _⟩ := List.findIdx?_eq_some_iff_getElem.mp hfi
    obtain ⟨q, hq, _, e4⟩ := (key_iff _ (List.getElem_mem hj)).1 pj
    have hin : lf.key ∈ L.map (·.2) := List.mem_map.mpr ⟨q, hq, e4⟩
    exact wpAny_pure (wpAny_pure (hQ _ s.heap L (Heap.SameBut.refl a s.heap) R (fun _ => rfl) fun z => absurd hin z))
  | none =>
    dsimp only
    have hnk : lf.key ∉ L.map (·.2) := fun z => by
      obtain ⟨q, hq, e4⟩ := List.mem_map.mp z
      have hm : (q.2.hash w, q.1) ∈ es.toList := pm0.mem_iff.mpr (List.mem_map.mpr ⟨q, hq, rfl⟩)
      have c := List.findIdx?_eq_none_iff.mp hfi _ hm
      rw [(key_iff _ hm).2 ⟨q, hq, rfl, e4⟩] at c
      cases c
    have hgw : ∀ (b : Bool) {s₁ : Shared} {Q' : Unit → Shared → Prop}, Q' () s₁ → wpAny (model P w) A (match b with | true => rule "set.scan.the-table-gave-way" | false => pure ()) Q' E s₁ :=
      fun b s₁ Q' q => by cases b <;> first | exact wpAny_pure q | exact wpAny_rule q
    have pm := layNew_perm t es (lf.key.hash w) v
    have hf1 := layNew_fits t es (lf.key.hash w) v
    have hr1 := layNew_ris t es (lf.key.hash w) v hr
    have hl1 := layNew_led t es (lf.key.hash w) v
    generalize layNew t es (lf.key.hash w) v = Z at pm hf1 hr1 hl1 ⊢
    obtain ⟨es1, t1, wasDummy, gave⟩ := Z
    dsimp only at pm hf1 hr1 hl1 ⊢
    rw [Array.toList_push] at pm
    have pc : es1.toList.Perm ((lf.key.hash w, v) :: es.toList) := pm.trans (List.perm_append_singleton _ _)
    have pm1 : es1.toList.Perm (((v, lf.key) :: L).map fun p => (p.2.hash w, p.1)) := pc.trans (pm0.cons _)
    have hsz : es1.size = L.length + 1 := by rw [← Array.length_toList, pc.length_eq, List.length_cons, Array.length_toList, hn]
    have hb1 : es1.size < scanBound := by rw [hsz]; exact room
    have hled : w.params.followText "set-order" = true ∨ t1.led = true := hl.imp id fun z => by rw [hl1]; exact z
    have fin : ∀ h', Heap.SameBut a s.heap h' → SetObj w h' a ((v, lf.key) :: L) → Q true { s with heap := h' } := fun h' sb r =>
      hQ true h' ((v, lf.key) :: L) sb ⟨r, by rw [List.map_cons]; exact List.nodup_cons.mpr ⟨hnk, R.nd⟩, fun p hp => by
        rcases List.mem_cons.mp hp with rfl | hp
        · exact ⟨lf, rfl, hv⟩
        · exact R.leaf p hp⟩ (fun z => absurd z hnk) fun _ => List.Perm.refl _
    refine wpAny_bind (hgw _ ?_)
    split
    · refine wpAny_bind ?_
      rw [hashByValue_scannable 8 hsc]
      refine wpAny_pure ?_
      refine scan_tail ?_ ho hex hd pm1 hb1 ?_ ?_ ?_ ?_
      · intro b s₁ Q' q; cases b <;> first | exact wpAny_pure q | exact wpAny_rule q
      · first | (split <;> first | exact hf1 | exact SetTable.fits_plain_off hf1) | exact hf1
      · first | (split <;> exact hr1) | exact hr1
      · first | (split <;> exact hled) | exact hled
      · intro h' sb r; dsimp only; exact wpAny_pure (fin h' sb r)
    · refine wpAny_bind (wpAny_pure ?_)
      simp only [↓reduceIte]
      refine scan_tail ?_ ho hex hd pm1 hb1 hf1 hr1 hled ?_
      · intro b s₁ Q' q; cases b <;> first | exact wpAny_pure q | exact wpAny_rule q
      · intro h' sb r; dsimp only; exact wpAny_pure (fin h' sb r)
theorem scan_adds {h0 : Heap} {ks : KL} (hlf : ∀ p ∈ ks, LeafP p) (hb : ks.length + 1 < scanBound) : Adds P w A h0 a ks (ScanR w a) where
  keep := fun h h' L R hS _ => by
    obtain ⟨o, es, ep, t, ho, r⟩ := R.ob.ex
    exact ⟨⟨o, es, ep, t, hS o ho, r⟩, R.nd, R.leaf⟩
  new := fun h ho _ => ⟨⟨_, #[], 0, _, ho, ⟨rfl, rfl, rfl⟩, rfl, by rfl, List.Pairwise.nil, by
    show _ ∨ (!w.params.followText "set-order") = true
    cases w.params.followText "set-order"
    · exact .inr rfl
    · exact .inl rfl, List.Perm.refl _, by decide⟩, List.nodup_nil, fun p hp => by cases hp⟩
  add := fun s E L p Q R sub hp hL _ hQ => scan_add R (hlf p hp) (by omega) hQ
end
end Py
end
section
set_option maxHeartbeats 4000000
namespace Py
open PySem PySem.Spec PyProof.Rows L2 LamX

/-! ### the round of i -> 5 i + 1 at 2 ^ k -/
def gS : Nat → Nat
  | 0 => 0
  | n + 1 => 5 * gS n + 1
theorem gS_add (a : Nat) : ∀ b, gS (a + b) = 5 ^ b * gS a + gS b
  | 0 => by simp [gS]
  | b + 1 => by
    show 5 * gS (a + b) + 1 = _
    rw [gS_add a b, gS, Nat.pow_succ]
    have : 5 * (5 ^ b * gS a + gS b) = 5 ^ b * 5 * gS a + 5 * gS b := by rw [Nat.mul_add, Nat.mul_comm (5 ^ b) 5, Nat.mul_assoc]
    omega
theorem five_mod : ∀ n, 5 ^ n % 4 = 1
  | 0 => rfl
  | n + 1 => by rw [Nat.pow_succ, Nat.mul_mod, five_mod n]
theorem gS_four : ∀ n, 4 * gS n + 1 = 5 ^ n
  | 0 => rfl
  | n + 1 => by
    have := gS_four n
    rw [Nat.pow_succ, gS]
    omega
theorem gS_par : ∀ n, gS n % 2 = n % 2
  | 0 => rfl
  | n + 1 => by
    have := gS_par n
    rw [gS]
    omega
theorem gS_dvd : ∀ k n, 2 ^ k ∣ gS n → 2 ^ k ∣ n
  | 0, n, _ => by rw [Nat.pow_zero]; exact Nat.one_dvd n
  | k + 1, n, h => by
    have h2 : 2 ∣ gS n := Nat.dvd_trans ⟨2 ^ k, by rw [Nat.pow_succ, Nat.mul_comm]⟩ h
    have hp := gS_par n
    obtain ⟨m, rfl⟩ : ∃ m, n = m + m := ⟨n / 2, by omega⟩
    have e : gS (m + m) = (5 ^ m + 1) * gS m := by rw [gS_add, Nat.add_mul, Nat.one_mul]
    have f := five_mod m
    obtain ⟨o, ho, hodd⟩ : ∃ o, 5 ^ m + 1 = 2 * o ∧ o % 2 = 1 := ⟨(5 ^ m + 1) / 2, by omega, by omega⟩
    rw [e, ho, Nat.pow_succ, Nat.mul_comm (2 ^ k) 2, Nat.mul_assoc] at h
    have h3 : 2 ^ k ∣ o * gS m := Nat.dvd_of_mul_dvd_mul_left (by decide) h
    have co : Nat.Coprime (2 ^ k) o := by
      refine Nat.Coprime.pow_left k ?_
      rw [Nat.coprime_comm]
      unfold Nat.Coprime
      have hd := Nat.gcd_dvd_right o 2
      have hd2 := Nat.gcd_dvd_left o 2
      have hle : Nat.gcd o 2 ≤ 2 := Nat.le_of_dvd (by decide) hd
      have hpos : 0 < Nat.gcd o 2 := Nat.gcd_pos_of_pos_right _ (by decide)
      rcases (by omega : Nat.gcd o 2 = 1 ∨ Nat.gcd o 2 = 2) with q | q
      · exact q
      · rw [q] at hd2; omega
    have h4 : 2 ^ k ∣ gS m := co.dvd_of_dvd_mul_left h3
    obtain ⟨c, hc⟩ := gS_dvd k m h4
    exact ⟨c, by rw [Nat.pow_succ]; rw [hc]; rw [Nat.mul_comm (2 ^ k) 2, Nat.mul_assoc]; omega⟩
theorem lcg_form (m i : Nat) : ∀ n, lcgI m i n % (m + 1) = (5 ^ n * i + gS n) % (m + 1)
  | 0 => by simp [lcgI, gS]
  | n + 1 => by
    show (lcgI m i n * 5 + 1) % (m + 1) % (m + 1) = _
    rw [Nat.mod_mod, Nat.add_mod, Nat.mul_mod, lcg_form m i n, ← Nat.mul_mod, ← Nat.add_mod, gS, Nat.pow_succ]
    congr 1
    have x1 : 5 ^ n * 5 * i = 5 * (5 ^ n * i) := by rw [Nat.mul_comm (5 ^ n) 5, Nat.mul_assoc]
    rw [x1]
    omega
def MaskG (m : Nat) : Prop := m % 2 = 1 ∧ ∀ i j, i ≤ m → j ≤ m → ∃ k, k ≤ m ∧ lcgI m i k = j
theorem lcg_le {m i : Nat} (hi : i ≤ m) : ∀ n, lcgI m i n ≤ m
  | 0 => hi
  | n + 1 => Nat.le_of_lt_succ (Nat.mod_lt _ (Nat.succ_pos _))
theorem maskG {k m : Nat} (hm : m + 1 = 2 ^ (k + 1)) : MaskG m := by
  refine ⟨by rw [Nat.pow_succ] at hm; omega, fun i j hi hj => ?_⟩
  have inj : ∀ a b, a < b → b ≤ m → lcgI m i a = lcgI m i b → False := by
    intro a b hab hb e
    obtain ⟨d, rfl⟩ : ∃ d, b = a + d := ⟨b - a, by omega⟩
    have e1 := lcg_form m i a
    have e2 := lcg_form m i (a + d)
    rw [← e, e1] at e2
    have e3 : 5 ^ (a + d) * i + gS (a + d) = (5 ^ a * i + gS a) + 5 ^ a * ((4 * i + 1) * gS d) := by
      have h1 := gS_four d
      rw [Nat.add_comm a d, gS_add, Nat.pow_add, ← h1]
      have x1 : (4 * gS d + 1) * 5 ^ a * i = 5 ^ a * i + 5 ^ a * (4 * i * gS d) := by
        rw [Nat.add_mul, Nat.add_mul, Nat.one_mul]
        have : 4 * gS d * 5 ^ a * i = 5 ^ a * (4 * i * gS d) := by
          rw [Nat.mul_comm (4 * gS d) (5 ^ a), Nat.mul_assoc, Nat.mul_right_comm]
        omega
      rw [x1, Nat.add_mul (4 * i) 1, Nat.one_mul, Nat.mul_add (5 ^ a)]
      omega
    rw [e3] at e2
    have dv : (m + 1) ∣ 5 ^ a * ((4 * i + 1) * gS d) := by
      have := Nat.sub_mod_eq_zero_of_mod_eq e2.symm
      rw [Nat.add_sub_cancel_left] at this
      exact Nat.dvd_of_mod_eq_zero this
    rw [hm] at dv
    have odd : ∀ o, o % 2 = 1 → Nat.Coprime (2 ^ (k + 1)) o := fun o hodd => by
      refine Nat.Coprime.pow_left _ ?_
      rw [Nat.coprime_comm]
      unfold Nat.Coprime
      have hd := Nat.gcd_dvd_right o 2
      have hd2 := Nat.gcd_dvd_left o 2
      have hle : Nat.gcd o 2 ≤ 2 := Nat.le_of_dvd (by decide) hd
      have hpos : 0 < Nat.gcd o 2 := Nat.gcd_pos_of_pos_right _ (by decide)
      rcases (by omega : Nat.gcd o 2 = 1 ∨ Nat.gcd o 2 = 2) with q | q
      · exact q
      · rw [q] at hd2; omega
    have d1 := (odd (5 ^ a) (by have := five_mod a; omega)).dvd_of_dvd_mul_left dv
    have d2 := (odd (4 * i + 1) (by omega)).dvd_of_dvd_mul_left d1
    have d3 := gS_dvd _ _ d2
    have := Nat.le_of_dvd (by omega) d3
    omega
  have nd : ((List.range (m + 1)).map (lcgI m i)).Nodup := by
    rw [List.nodup_iff_pairwise_ne, List.pairwise_map]
    refine List.Pairwise.imp_of_mem (fun {a b} ha hb hne e => ?_) (List.nodup_iff_pairwise_ne.mp List.nodup_range)
    have la := List.mem_range.mp ha
    have lb := List.mem_range.mp hb
    rcases Nat.lt_trichotomy a b with q | q | q
    · exact inj a b q (by omega) e
    · exact hne q
    · exact inj b a q (by omega) e.symm
  have mem : j ∈ (List.range (m + 1)).map (lcgI m i) := by
    rcases Classical.em (j ∈ (List.range (m + 1)).map (lcgI m i)) with c | c
    · exact c
    · exfalso
      have := nat_nodup_len ((List.range (m + 1)).map (lcgI m i)) ((List.range (m + 1)).erase j) nd fun x hx => by
        have hne : x ≠ j := fun e => c (e ▸ hx)
        obtain ⟨n, _, rfl⟩ := List.mem_map.mp hx
        exact (List.mem_erase_of_ne hne).2 (List.mem_range.mpr (Nat.lt_succ_of_le (lcg_le hi n)))
      rw [List.length_map, List.length_range, List.length_erase_of_mem (List.mem_range.mpr (Nat.lt_succ_of_le hj)), List.length_range] at this
      omega
  obtain ⟨n, hn, e⟩ := List.mem_map.mp mem
  exact ⟨n, Nat.le_of_lt_succ (List.mem_range.mp hn), e⟩
end Py
end
section
set_option maxHeartbeats 4000000
namespace Py
open PySem PySem.Spec PyProof.Rows L2 LamX

/-! ### tables of any size: each slot is found again -/
theorem wayG_le {m : Nat} {h : Int} {k : Nat} : way m h k ≤ m := by
  have hi : SetTable.bits h % (m + 1) ≤ m := Nat.le_of_lt_succ (Nat.mod_lt _ (Nat.succ_pos _))
  have r := runEnd_bd hi
  have q := nth_in (m := m) k (runAt m (SetTable.bits h % (m + 1)) (SetTable.bits h)) (by
    show SetTable.bits h % (m + 1) + (SetTable.runEnd m (SetTable.bits h % (m + 1)) - SetTable.bits h % (m + 1)) ≤ m
    omega)
  have : (nth m (runAt m (SetTable.bits h % (m + 1)) (SetTable.bits h)) k).j ≤ m := by omega
  exact this
theorem run_meetsG {m : Nat} (hm : MaskG m) (h : Int) {j : Nat} (hj : j ≤ m) : ∃ n, n ≤ m + 12 ∧ runI m (SetTable.bits h) n = j := by
  obtain ⟨k, hk, e⟩ := hm.2 _ j (runI_le m (SetTable.bits h) 12) hj
  exact ⟨12 + k, by omega, by rw [runI_tail (bits_lt h)]; exact e⟩
theorem meetsG {m : Nat} (hm : MaskG m) (h : Int) {j : Nat} (hj : j ≤ m) : ∃ k, k < 10 * SetTable.turns m ∧ way m h k = j := by
  obtain ⟨n, hn, e⟩ := run_meetsG hm h hj
  obtain ⟨k, hk, e2⟩ := run_nth m (SetTable.bits h) n
  exact ⟨k, by unfold SetTable.turns; omega, (congrArg SetTable.Probe.j e2).trans e⟩
structure TabG (t : SetTable) (hs : List Int) : Prop where
  ris : Ris t.place.toList
  dm : t.dummies = #[]
  sz : t.place.toList.length = hs.length
  mok : MaskG t.mask
  bd : ∀ x ∈ t.place.toList, x ≤ t.mask
  reach : ∀ (i : Nat) (h : Int) (j : Nat), hs[i]? = some h → t.place.toList[i]? = some j → ∃ k, way t.mask h k = j ∧ ∀ k', k' < k → way t.mask h k' ∈ t.place.toList
section
variable {t : SetTable} {hs : List Int}
theorem TabG.size (T : TabG t hs) : t.place.size = hs.length := by rw [← Array.length_toList]; exact T.sz
theorem TabG.first (T : TabG t hs) (hl : hs.length ≤ t.mask) (h : Int) : ∃ K, K < 10 * SetTable.turns t.mask ∧ way t.mask h K ∉ t.place.toList ∧ ∀ k, k < K → way t.mask h k ∈ t.place.toList := by
  obtain ⟨j, hj, hn⟩ := st_missing t.place.toList (t.mask + 1) (by rw [T.sz]; omega)
  obtain ⟨k, hk, e⟩ := meetsG T.mok h (Nat.le_of_lt_succ hj)
  obtain ⟨K, h1, h2, h3⟩ := st_least (p := fun k => way t.mask h k ∉ t.place.toList) k (by show way t.mask h k ∉ _; rw [e]; exact hn)
  exact ⟨K, Nat.lt_of_le_of_lt h1 hk, h2, fun k' hk' => Classical.not_not.mp (h3 k' hk')⟩
theorem TabG.before (T : TabG t hs) {h : Int} {K i j : Nat} (hK : way t.mask h K ∉ t.place.toList) (hi : hs[i]? = some h) (hj : t.place.toList[i]? = some j) : ∃ k, k < K ∧ way t.mask h k = j := by
  obtain ⟨k, e, hb⟩ := T.reach i h j hi hj
  have ne : k ≠ K := fun c => hK (by rw [← c, e]; exact List.mem_of_getElem? hj)
  have nl : ¬ K < k := fun c => hK (hb K c)
  exact ⟨k, by omega, e⟩
theorem TabG.put (T : TabG t hs) {h : Int} {K : Nat} (hK : way t.mask h K ∉ t.place.toList) (hb : ∀ k, k < K → way t.mask h k ∈ t.place.toList) :
    SetTable.below t.place (way t.mask h K) ≤ hs.length ∧
    TabG (t.put (way t.mask h K)).1 (hs.take (SetTable.below t.place (way t.mask h K)) ++ h :: hs.drop (SetTable.below t.place (way t.mask h K))) ∧
    (t.put (way t.mask h K)).1.fill = hs.length + 1 := by
  generalize hj : way t.mask h K = j at hK
  have hp : SetTable.below t.place j ≤ hs.length := by rw [← T.size]; exact (below_cut T.ris j).1
  have hp2 : SetTable.below t.place j ≤ t.place.toList.length := by rw [T.sz]; exact hp
  have hnp : t.place[SetTable.below t.place j]? ≠ some j := fun e => hK (List.mem_of_getElem? (by rw [Array.getElem?_toList]; exact e))
  have hpp := put_place t j
  have hd := put_dm T.dm j
  have hlen : (t.put j).1.place.toList.length = hs.length + 1 := by rw [hpp, len_ins _ hp2, T.sz]
  have up : ∀ x, x ∈ t.place.toList → x ∈ (t.put j).1.place.toList := fun x hx => by rw [hpp]; exact mem_ins.2 (.inr hx)
  refine ⟨hp, ⟨ris_insert T.ris hnp, hd, by rw [hlen, len_ins _ hp], T.mok, fun x hx => ?_, fun i h' j' h1 h2 => ?_⟩, ?_⟩
  · rw [hpp] at hx
    rcases mem_ins.1 hx with rfl | z
    · rw [← hj]; exact wayG_le
    · exact T.bd x z
  · show ∃ k, way t.mask h' k = j' ∧ ∀ k', k' < k → way t.mask h' k' ∈ (t.put j).1.place.toList
    rw [tins_get hs hp] at h1
    rw [hpp, tins_get _ hp2] at h2
    by_cases c : i < SetTable.below t.place j
    · rw [if_pos c] at h1 h2
      obtain ⟨k, e, z⟩ := T.reach i h' j' h1 h2
      exact ⟨k, e, fun k' hk' => up _ (z k' hk')⟩
    · rw [if_neg c] at h1 h2
      by_cases d : i = SetTable.below t.place j
      · rw [if_pos d] at h1 h2
        cases h1; cases h2
        exact ⟨K, hj, fun k' hk' => up _ (hb k' hk')⟩
      · rw [if_neg d] at h1 h2
        obtain ⟨k, e, z⟩ := T.reach (i - 1) h' j' h1 h2
        exact ⟨k, e, fun k' hk' => up _ (z k' hk')⟩
  · show (t.put j).1.place.size + (t.put j).1.dummies.size = hs.length + 1
    rw [hd, ← Array.length_toList, hlen]; rfl
end
/-! a table laid anew -/
theorem freeG {m : Nat} (hm : MaskG m) (owner : Array (Option Nat)) (h : Int) {j : Nat} (hj : j ≤ m) (hf : oAt owner j = none) :
    ∃ K, SetTable.layClean.free m owner (SetTable.turns m) (SetTable.bits h % (m + 1)) (SetTable.bits h) = some (way m h K) ∧ oAt owner (way m h K) = none ∧ ∀ k, k < K → oAt owner (way m h k) ≠ none := by
  obtain ⟨n, hn, e⟩ := run_meetsG hm h hj
  have hw : way m h (off m (SetTable.bits h % (m + 1)) (SetTable.bits h) n) = j := by
    have h1 := nth_off m n (SetTable.bits h % (m + 1)) (SetTable.bits h)
    rw [itL_run] at h1
    exact (congrArg SetTable.Probe.j h1).trans e
  obtain ⟨K, k1, k2, k3⟩ := st_least (p := fun k => oAt owner (way m h k) = none) (off m (SetTable.bits h % (m + 1)) (SetTable.bits h) n) (by show oAt owner (way m h _) = none; rw [hw]; exact hf)
  refine ⟨K, free_spec m owner (SetTable.turns m) n _ _ K (by unfold SetTable.turns; omega) k1 (fun k hk => ?_) ?_, k2, k3⟩
  · have q := k3 k hk
    show (oAt owner (way m h k)).isNone = false
    cases z : oAt owner (way m h k) with
    | none => exact (q z).elim
    | some _ => rfl
  · show (oAt owner (way m h K)).isNone = true
    rw [show oAt owner (way m h K) = none from k2]; rfl
theorem ownG_step {m : Nat} (hm : MaskG m) {done : List Int} {owner : Array (Option Nat)} (W : Own m done owner) (hl : done.length ≤ m) (h : Int) :
    ∃ j, SetTable.layClean.free m owner (SetTable.turns m) (SetTable.bits h % (m + 1)) (SetTable.bits h) = some j ∧ Own m (done ++ [h]) (owner.setIfInBounds j (some done.length)) := by
  obtain ⟨ps, hps, hin⟩ := W.ps
  obtain ⟨j0, h0, hn0⟩ := st_missing ps (m + 1) (by omega)
  have hj0 : oAt owner j0 = none := by
    cases z : oAt owner j0 with
    | none => rfl
    | some k => exact (hn0 (hin j0 (Nat.le_of_lt_succ h0) (by rw [z]; exact fun e => nomatch e))).elim
  obtain ⟨K, e1, e2, e3⟩ := freeG hm owner h (Nat.le_of_lt_succ h0) hj0
  have hjm : way m h K ≤ m := wayG_le
  have hself := oAt_set_self (some done.length) (show way m h K < owner.size by rw [W.sz]; omega)
  have other : ∀ i, i ≠ way m h K → oAt (owner.setIfInBounds (way m h K) (some done.length)) i = oAt owner i := fun i c => oAt_set_ne _ c
  have mono : ∀ i, oAt owner i ≠ none → oAt (owner.setIfInBounds (way m h K) (some done.length)) i ≠ none := fun i hi => by
    by_cases c : i = way m h K
    · subst c; exact (hi e2).elim
    · rw [other i c]; exact hi
  refine ⟨_, e1, by rw [Array.size_setIfInBounds]; exact W.sz, fun j k hj e => ?_, fun k hk => ?_, way m h K :: ps, by simp [hps], fun j hj e => ?_⟩
  · by_cases c : j = way m h K
    · subst c
      rw [hself] at e
      cases e
      exact ⟨h, K, by simp, rfl, fun k' hk' => mono _ (e3 k' hk')⟩
    · rw [other j c] at e
      obtain ⟨h', K', a1, a2, a3⟩ := W.at_ j k hj e
      exact ⟨h', K', by rw [List.getElem?_append_left (List.getElem?_eq_some_iff.mp a1).1]; exact a1, a2, fun k' hk' => mono _ (a3 k' hk')⟩
  · rw [List.length_append, List.length_singleton] at hk
    by_cases c : k < done.length
    · obtain ⟨j, hj, e⟩ := W.all k c
      exact ⟨j, hj, by rw [other j fun z => by rw [z, e2] at e; cases e]; exact e⟩
    · exact ⟨way m h K, hjm, by rw [hself, show k = done.length by omega]⟩
  · by_cases c : j = way m h K
    · rw [c]; exact List.mem_cons_self
    · rw [other j c] at e
      exact List.mem_cons_of_mem _ (hin j hj e)
theorem foldG {m : Nat} (hm : MaskG m) : ∀ (rest done : List Int) (owner : Array (Option Nat)), Own m done owner → done.length + rest.length ≤ m →
    ∃ owner', rest.foldl (stepF m) (some (owner, done.length)) = some (owner', (done ++ rest).length) ∧ Own m (done ++ rest) owner'
  | [], done, owner, W, _ => ⟨owner, by rw [List.append_nil]; rfl, by rw [List.append_nil]; exact W⟩
  | h :: rest, done, owner, W, hl => by
    rw [List.length_cons] at hl
    obtain ⟨j, e, W'⟩ := ownG_step hm W (by omega) h
    have hl' : (done ++ [h]).length = done.length + 1 := List.length_append
    obtain ⟨owner', f, W2⟩ := foldG hm rest (done ++ [h]) _ W' (by rw [hl']; omega)
    rw [hl', show done ++ [h] ++ rest = done ++ h :: rest by simp] at f
    rw [show done ++ [h] ++ rest = done ++ h :: rest by simp] at W2
    exact ⟨owner', by rw [List.foldl_cons, stepF_some e]; exact f, W2⟩
theorem relaidG (t : SetTable) {hs : Array Int} {wanted M : Nat} (hw : SetTable.sizeAbove wanted - 1 = M) (hM : MaskG M) (hn : hs.size ≤ M) :
    ∃ t' order, t.relaid hs wanted = some (t', order) ∧ order.toList.Perm (List.range hs.size) ∧ TabG t' (order.toList.map fun i => hs.getD i 0) ∧ t'.mask = M ∧ t'.led = t.led ∧ t'.plain = t.plain := by
  obtain ⟨owner, f, W⟩ := foldG hM hs.toList [] _ (Own.init M) (by rw [Array.length_toList]; show 0 + hs.size ≤ M; omega)
  rw [List.nil_append] at f W
  have e : SetTable.layClean M hs = some owner := by
    rw [layClean_eq]
    have f' : hs.toList.foldl (stepF M) (some (Array.replicate (M + 1) none, 0)) = some (owner, hs.toList.length) := f
    rw [f']; rfl
  have hr : t.relaid hs wanted = some (tabOf t M owner, ((liveOf M owner).map (·.2)).toArray) := by
    rw [relaid_eq, hw, e]; rfl
  obtain ⟨r1, r2⟩ := ris_live (fun j => owner.getD j none) (List.range (M + 1)) (by unfold Ris; exact List.pairwise_lt_range)
  have r1 : Ris ((liveOf M owner).map (·.1)) := r1
  have r2 : ∀ x ∈ (liveOf M owner).map (·.1), x ∈ List.range (M + 1) := r2
  have hall : ∀ k, k < hs.size → k ∈ (liveOf M owner).map (·.2) := fun k hk => by
    obtain ⟨j, b1, b2⟩ := W.all k (by rw [Array.length_toList]; exact hk)
    exact List.mem_map.mpr ⟨(j, k), (mem_live W.sz).2 ⟨b1, b2⟩, rfl⟩
  have hlen : (liveOf M owner).length = hs.size := by
    obtain ⟨ps, p1, p2⟩ := W.ps
    have a := nat_nodup_len ((liveOf M owner).map (·.1)) ps (List.Pairwise.imp (fun {a b} (h : a < b) => Nat.ne_of_lt h) (show List.Pairwise (· < ·) ((liveOf M owner).map (·.1)) from r1)) fun x hx => by
      obtain ⟨⟨y, k⟩, hq, rfl⟩ := List.mem_map.mp hx
      obtain ⟨b1, b2⟩ := (mem_live W.sz).1 hq
      exact p2 y b1 (by rw [b2]; exact fun z => nomatch z)
    have b := nat_nodup_len (List.range hs.size) ((liveOf M owner).map (·.2)) List.nodup_range fun k hk => hall k (List.mem_range.mp hk)
    rw [List.length_map, p1] at a
    rw [List.length_map, List.length_range] at b
    have hz : hs.toList.length = hs.size := Array.length_toList
    omega
  refine ⟨_, _, hr, perm_range hs.size _ ?_ hall, ⟨r1, rfl, ?_, hM, fun x hx => Nat.le_of_lt_succ (List.mem_range.mp (r2 x hx)), fun i h j h1 h2 => ?_⟩, rfl, rfl, rfl⟩
  · show ((liveOf M owner).map (·.2)).length = hs.size
    rw [List.length_map]; exact hlen
  · show ((liveOf M owner).map (·.1)).length = (((liveOf M owner).map (·.2)).map fun i => hs.getD i 0).length
    rw [List.length_map, List.length_map, List.length_map]
  · have h1 : (((liveOf M owner).map (·.2)).map fun i => hs.getD i 0)[i]? = some h := h1
    have h2 : ((liveOf M owner).map (·.1))[i]? = some j := h2
    rw [List.getElem?_map, List.getElem?_map] at h1
    rw [List.getElem?_map] at h2
    cases hq : (liveOf M owner)[i]? with
    | none => rw [hq] at h2; cases h2
    | some q =>
      obtain ⟨y, k⟩ := q
      rw [hq] at h1 h2
      cases h2
      have eh : hs.getD k 0 = h := Option.some.inj h1
      obtain ⟨b1, b2⟩ := (mem_live W.sz).1 (List.mem_of_getElem? hq)
      obtain ⟨h0, K, a1, a2, a3⟩ := W.at_ y k b1 b2
      have e0 : hs.getD k 0 = h0 := by
        rw [Array.getD_eq_getD_getElem?, ← Array.getElem?_toList, a1]; rfl
      have ehh : h0 = h := e0.symm.trans eh
      subst ehh
      refine ⟨K, a2, fun k' hk' => ?_⟩
      show way M h0 k' ∈ (liveOf M owner).map (·.1)
      cases z : oAt owner (way M h0 k') with
      | none => exact (a3 k' hk' z).elim
      | some k2 => exact List.mem_map.mpr ⟨(way M h0 k', k2), (mem_live W.sz).2 ⟨wayG_le, z⟩, rfl⟩
end Py
end
section
set_option maxHeartbeats 4000000
namespace Py
open PySem PySem.Spec PyProof.Rows L2 LamX

/-! ### small questions asked of nested keys -/
section
variable {P : Program} {w : World}
def ClassAt (P : Program) (w : World) (n : Nat) (s : Shared) (v : Value) : Prop := ∀ (A : Around) (E : Value → Shared → Prop) (Q : Bool → Shared → Prop), Q false s → wpAny (model P w) A (ofAClassStatement n v) Q E s
def HashAt (P : Program) (w : World) (n : Nat) (s : Shared) (v : Value) : Prop := ∀ (A : Around) (E : Value → Shared → Prop) (Q : Bool → Shared → Prop), (∀ b, Q b s) → wpAny (model P w) A (hashByValue n v) Q E s
theorem ClassAt.tuple {n : Nat} {s : Shared} {a : Addr} {o : Obj} {vs : Array Value} {m : Nat} (ho : s.heap.get? a = some o) (hc : o.cls = .type "tuple") (hd : o.data = .seq vs m) (hq : ∀ v ∈ vs.toList, ClassAt P w n s v) : ClassAt P w (n + 1) s (.ref a) := fun A E Q h => by
  have hT : s.TypeIs (.ref a) "tuple" := ⟨o, ho, hc⟩
  unfold ofAClassStatement
  refine wpAny_bind (wpAny_typeOf hT ?_)
  dsimp only
  have e : (("tuple" : String) == "tuple") = true := by decide
  simp only [e, if_true, Bool.not_true, Bool.false_eq_true, if_false]
  try refine wpAny_bind (wpAny_pure ?_)
  try simp only [Bool.not_true, Bool.false_eq_true, if_false]
  show wpAny _ _ (seqItems? (.ref a) >>= _) _ _ s
  refine wpAny_bind (wpAny_seqItems ho hd ?_)
  dsimp only
  refine wpAny_bind ?_
  show wpAny _ _ (forIn vs _ _) _ _ s
  rw [← Array.forIn_toList]
  refine wpAny_forIn_list _ (fun rest r s' => r.1 = none ∧ s' = s ∧ ∀ v ∈ rest, ClassAt P w n s v) _ ?_ ?_ _ _ ⟨rfl, rfl, hq⟩
  · rintro v rest r s' ⟨hr, rfl, hall⟩
    refine wpAny_bind (hall v List.mem_cons_self _ _ _ ?_)
    simp only [Bool.false_eq_true, if_false]
    exact wpAny_pure ⟨rfl, rfl, fun u hu' => hall u (List.mem_cons_of_mem _ hu')⟩
  · rintro ⟨r1, r2⟩ s' ⟨hr, rfl, _⟩
    simp only at hr
    subst hr
    exact wpAny_pure h
theorem HashAt.tuple {n : Nat} {s : Shared} {a : Addr} {o : Obj} {vs : Array Value} {m : Nat} (ho : s.heap.get? a = some o) (hc : o.cls = .type "tuple") (hd : o.data = .seq vs m) (hq : ∀ v ∈ vs.toList, HashAt P w n s v) : HashAt P w (n + 1) s (.ref a) := fun A E Q h => by
  have hT : s.TypeIs (.ref a) "tuple" := ⟨o, ho, hc⟩
  unfold hashByValue
  refine wpAny_bind (wpAny_specialOf hT F.slot_tuple_hash.lookup ?_)
  show wpAny _ _ (seqItems? (.ref a) >>= _) _ _ s
  refine wpAny_bind (wpAny_seqItems ho hd ?_)
  refine wpAny_bind ?_
  show wpAny _ _ (forIn vs _ _) _ _ s
  rw [← Array.forIn_toList]
  refine wpAny_forIn_list _ (fun rest r s' => s' = s ∧ ∀ v ∈ rest, HashAt P w n s v) _ ?_ ?_ _ _ ⟨rfl, hq⟩
  · rintro v rest r s' ⟨rfl, hall⟩
    refine wpAny_bind (hall v List.mem_cons_self _ _ _ fun b => ?_)
    cases b with
    | true =>
      simp only [Bool.not_true, Bool.false_eq_true, if_false]
      exact wpAny_pure ⟨rfl, fun u hu' => hall u (List.mem_cons_of_mem _ hu')⟩
    | false =>
      simp only [Bool.not_false, if_true]
      exact wpAny_pure (wpAny_pure (h false))
  · rintro ⟨r1, r2⟩ s' ⟨rfl, _⟩
    cases r1 with
    | none => exact wpAny_pure (h true)
    | some b => exact wpAny_pure (h b)
mutual
theorem class_key : ∀ (k : NestedKey) (v : Value) (n : Nat) (s : Shared), NestedIs s.heap k v → k.depth ≤ n → ClassAt P w n s v
  | .none, _, n, s, x, _ => by cases x; intro A E Q h; cases n <;> exact wpAny_pure h
  | .num i, _, n, s, x, _ => by cases x <;> (intro A E Q h; cases n <;> exact wpAny_pure h)
  | .text y, _, n, s, x, _ => by cases x; intro A E Q h; cases n <;> exact wpAny_pure h
  | .tup ks, _, n, s, x, hn => by
    cases x with
    | tup hg hc hd hk =>
      simp only [NestedKey.depth] at hn
      cases n with
      | zero => omega
      | succ n => exact .tuple hg hc hd (class_keys ks _ n s hk (by omega))
theorem class_keys : ∀ (ks : List NestedKey) (vs : List Value) (n : Nat) (s : Shared), NestedAll s.heap ks vs → NestedKey.depthAll ks ≤ n → ∀ v ∈ vs, ClassAt P w n s v
  | [], _, n, s, x, _, v, hv => by cases x; cases hv
  | k :: ks, _, n, s, x, hn, v, hv => by
    cases x with
    | cons x1 x2 =>
      simp only [NestedKey.depthAll] at hn
      rcases List.mem_cons.mp hv with e | hv
      · rw [e]; exact class_key k _ n s x1 (by omega)
      · exact class_keys ks _ n s x2 (by omega) v hv
end
mutual
theorem hash_key : ∀ (k : NestedKey) (v : Value) (n : Nat) (s : Shared), NestedIs s.heap k v → k.depth ≤ n → HashAt P w n s v
  | .none, _, n, s, x, _ => by cases x; intro A E Q h; cases n <;> exact wpAny_pure (h _)
  | .num i, _, n, s, x, _ => by cases x <;> (intro A E Q h; cases n <;> exact wpAny_pure (h _))
  | .text y, _, n, s, x, _ => by cases x; intro A E Q h; cases n <;> exact wpAny_pure (h _)
  | .tup ks, _, n, s, x, hn => by
    cases x with
    | tup hg hc hd hk =>
      simp only [NestedKey.depth] at hn
      cases n with
      | zero => omega
      | succ n => exact .tuple hg hc hd (hash_keys ks _ n s hk (by omega))
theorem hash_keys : ∀ (ks : List NestedKey) (vs : List Value) (n : Nat) (s : Shared), NestedAll s.heap ks vs → NestedKey.depthAll ks ≤ n → ∀ v ∈ vs, HashAt P w n s v
  | [], _, n, s, x, _, v, hv => by cases x; cases hv
  | k :: ks, _, n, s, x, hn, v, hv => by
    cases x with
    | cons x1 x2 =>
      simp only [NestedKey.depthAll] at hn
      rcases List.mem_cons.mp hv with e | hv
      · rw [e]; exact hash_key k _ n s x1 (by omega)
      · exact hash_keys ks _ n s x2 (by omega) v hv
end
end
/-- a row of a set of tuples -/
def TupP (h : Heap) (p : Value × NestedKey) : Prop := ∃ a, p.1 = .ref a ∧ NestedIs h p.2 (.ref a) ∧ p.2.depth ≤ 8
def rwL (w : World) (L : KL) : List (Int × Value) := L.map fun p => (p.2.hash w, p.1)
def hsL (w : World) (L : KL) : List Int := L.map fun p => p.2.hash w
def Mask6 (m : Nat) : Prop := m = 7 ∨ m = 31 ∨ m = 127 ∨ m = 511 ∨ m = 2047 ∨ m = 8191
theorem mask6 {m : Nat} (h : Mask6 m) : MaskG m := by
  rcases h with h | h | h | h | h | h <;> subst h
  · exact maskG (k := 2) rfl
  · exact maskG (k := 4) rfl
  · exact maskG (k := 6) rfl
  · exact maskG (k := 8) rfl
  · exact maskG (k := 10) rfl
  · exact maskG (k := 12) rfl
structure TupT (w : World) (S : Addr) (h : Heap) (L : KL) (es : Array (Int × Value)) (ep : Nat) (t : SetTable) : Prop where
  ob : ∃ o, h.get? S = some o ∧ o.ExactSet ∧ o.data = .set es ep t
  rows : es.toList = rwL w L
  tab : TabG t (hsL w L)
  nd : (L.map (·.2)).Nodup
  tup : ∀ p ∈ L, TupP h p
  led : w.params.followText "set-order" = true ∨ t.led = true
  room : L.length * 5 < t.mask * 3
  m6 : Mask6 t.mask
  few : L.length < 4095
section
variable {P : Program} {w : World} {A : Around} {E : Value → Shared → Prop} {s : Shared} {S : Addr} {L : KL} {es : Array (Int × Value)} {ep : Nat} {t : SetTable}
theorem rwL_len : (rwL w L).length = L.length := List.length_map _
theorem hsL_len : (hsL w L).length = L.length := List.length_map _
theorem TupT.size (R : TupT w S s.heap L es ep t) : es.size = L.length := by rw [← Array.length_toList, R.rows, rwL_len]
theorem TupT.fits (R : TupT w S s.heap L es ep t) : t.fits es.size = true := by
  have h1 := R.tab.size
  rw [hsL_len] at h1
  have h3 := R.room
  unfold SetTable.fits SetTable.fill
  rw [R.tab.dm, R.size, Bool.and_eq_true, beq_iff_eq, decide_eq_true_eq]
  refine ⟨h1, ?_⟩
  show t.place.size + 0 ≤ t.mask
  omega
theorem TupT.entry (R : TupT w S s.heap L es ep t) {i : Nat} {p : Value × NestedKey} (h : L[i]? = some p) : es[i]? = some (p.2.hash w, p.1) := by
  rw [← Array.getElem?_toList, R.rows]
  unfold rwL
  rw [List.getElem?_map, h]; rfl
theorem nth_dm {m : Nat} : ∀ (n : Nat) (p : SetTable.Probe), p.dummy = none → (nth m p n).dummy = none
  | 0, p, h => h
  | n + 1, p, h => nth_dm n (adv m p) (by unfold adv; split <;> exact h)
/-- the search, from the c-th step of the way on -/
theorem tup_from (R : TupT w S s.heap L es ep t) {x : Addr} {k : NestedKey} (hx : NestedIs s.heap k (.ref x)) (hdx : k.depth ≤ 8) (hu : A.units + 8 < cLine) {K : Nat} (hKf : K < 10 * SetTable.turns t.mask)
    (hK : way t.mask (k.hash w) K ∉ t.place.toList) (hKb : ∀ c, c < K → way t.mask (k.hash w) c ∈ t.place.toList) {Q : SetFound → Shared → Prop}
    (hin : k ∈ L.map (·.2) → Q (.there none) s) (hout : k ∉ L.map (·.2) → Q (.free (way t.mask (k.hash w) K) false) s) :
    ∀ (f c : Nat) (stand : Option SetTable.Probe), stand.getD (t.probeStart (k.hash w)) = nth t.mask (runAt t.mask (SetTable.bits (k.hash w) % (t.mask + 1)) (SetTable.bits (k.hash w))) c → c ≤ K → K - c < f →
      (∀ (i : Nat) p, L[i]? = some p → p.2 = k → ∃ c', c ≤ c' ∧ c' < K ∧ t.place.toList[i]? = some (way t.mask (k.hash w) c')) →
      wpAny (model P w) A (setSearchFrom S (.ref x) (k.hash w) true f stand) Q E s
  | 0, c, stand, _, _, hf, _ => absurd hf (Nat.not_lt_zero _)
  | f + 1, c, stand, hst, hc, hf, hre => by
    obtain ⟨o, ho, hex, hd⟩ := R.ob
    have hgw : ¬ t.gaveWay = true := by
      unfold SetTable.gaveWay
      rw [(mask6 R.m6).1]
      decide
    rw [setSearchFrom_succ]
    refine wpAny_bind (wpAny_setState_of ho hd R.fits ?_)
    dsimp only
    refine wp_if_neg hgw ?_
    try refine wpAny_bind (wpAny_pure ?_)
    generalize hst0 : runAt t.mask (SetTable.bits (k.hash w) % (t.mask + 1)) (SetTable.bits (k.hash w)) = p0 at hst
    have hw : ∀ q, (nth t.mask (nth t.mask p0 c) q).j = way t.mask (k.hash w) (c + q) := fun q => by rw [← nth_add, ← hst0]
    have spec := go_spec t R.tab.ris R.tab.dm (fun i => (es[i]?.map (·.1)).getD 0) (k.hash w) (10 * SetTable.turns t.mask) (K - c) (nth t.mask p0 c) (nth_dm c p0 (by rw [← hst0]; rfl)) (by omega)
      (fun q hq => by rw [hw]; exact hKb (c + q) (by omega)) (by rw [hw, show c + (K - c) = K by omega]; exact hK)
    have hashAt : ∀ (i : Nat) p, L[i]? = some p → (fun i => (es[i]?.map (·.1)).getD 0) i = p.2.hash w := fun i p hp => by
      show (es[i]?.map (·.1)).getD 0 = _
      rw [R.entry hp]; rfl
    rcases spec with ⟨q, i, hq, hi, hh, hno, hpr⟩ | ⟨hno, hpr⟩
    · have hpr' : t.probe (fun i => (es[i]?.map (·.1)).getD 0) (k.hash w) (stand.getD (t.probeStart (k.hash w))) = some (.candidate (way t.mask (k.hash w) (c + q)) i (nth t.mask p0 (c + (q + 1)))) := by
        rw [hst, ← hw, nth_add t.mask c p0 (q + 1)]
        exact hpr
      rw [hpr']
      dsimp only
      rw [hw] at hi
      have hil : i < L.length := by
        have h1 : i < t.place.toList.length := (List.getElem?_eq_some_iff.mp hi).1
        rw [R.tab.sz, hsL_len] at h1
        exact h1
      have hp : L[i]? = some L[i] := List.getElem?_eq_getElem hil
      generalize hpe : L[i] = p at hp
      have hmem : p ∈ L := List.mem_of_getElem? hp
      obtain ⟨b, hb1, hb2, hb3⟩ := R.tup p hmem
      have rest : wpAny (model P w) A (searchRest S (.ref x) (k.hash w) true f es t (way t.mask (k.hash w) (c + q)) i (nth t.mask p0 (c + (q + 1)))) Q E s := by
        unfold searchRest
        rw [R.entry hp, hb1]
        dsimp only
        refine wpAny_bind (wpAny_holding ((nestedKind P w).eqBool (x := p.2) (y := k) hu ⟨hb2, hb3⟩ ⟨hx, hdx⟩ ?_))
        refine wpAny_bind (wpAny_setState_of ho hd R.fits ?_)
        dsimp only
        by_cases hkk : p.2 = k
        · refine wp_if_pos (by simp [hkk]) ?_
          exact wpAny_pure (hin (List.mem_map.mpr ⟨p, hmem, hkk⟩))
        · refine wp_if_neg (by simp [hkk]) ?_
          try refine wpAny_bind (wpAny_pure ?_)
          rw [sameMem]
          dsimp only
          have hsl : t.slot (way t.mask (k.hash w) (c + q)) = .live i := slot_live R.tab.ris hi
          simp only [if_true, hsl, R.entry hp, hb1]
          refine wpAny_bind (wpAny_isSame_ref_self (wpAny_bind (wpAny_pure ?_)))
          simp only [if_true]
          refine wp_if_neg (by simp [hkk]) ?_
          refine tup_from R hx hdx hu hKf hK hKb hin hout f (c + (q + 1)) _ (by rw [hst0]; rfl) (by omega) (by omega) fun i0 p0' h0 hk0 => ?_
          obtain ⟨c', a1, a2, a3⟩ := hre i0 p0' h0 hk0
          refine ⟨c', ?_, a2, a3⟩
          rcases Nat.lt_trichotomy c' (c + q) with z | z | z
          · exfalso
            refine hno (c' - c) i0 (by omega) (by rw [hw, show c + (c' - c) = c' by omega]; exact a3) ?_
            exact (hashAt i0 p0' h0).trans (by rw [hk0])
          · exfalso
            rw [z] at a3
            have s0 := slot_live R.tab.ris a3
            rw [hsl] at s0
            injection s0 with s0
            rw [← s0, hp] at h0
            exact hkk ((congrArg Prod.snd (Option.some.inj h0)).trans hk0)
          · omega
      by_cases hl : t.led = true
      · refine wp_if_neg (by simp [hl]) ?_
        try refine wpAny_bind (wpAny_pure ?_)
        exact rest
      · refine wp_if_pos (by simp [hl]) ?_
        refine wpAny_bind ?_
        have hall : ∀ y ∈ ((es.filter (·.1 == k.hash w)).toList.map (·.2)), ∃ p ∈ L, y = p.1 := fun y hy => by
          obtain ⟨e, he, rfl⟩ := List.mem_map.mp hy
          have he2 : e ∈ es.toList := by
            have : e ∈ es.filter (·.1 == k.hash w) := by simpa using he
            simpa using (Array.mem_filter.mp this).1
          rw [R.rows] at he2
          obtain ⟨p2, hp2, e2⟩ := List.mem_map.mp he2
          exact ⟨p2, hp2, by rw [← e2]⟩
        unfold searchCouldBeSeen
        refine wpAny_bind ?_
        refine wpAny_forIn_list _ (fun rest r s' => r.1 = none ∧ s' = s ∧ ∀ y ∈ rest, ∃ p ∈ L, y = p.1) _ ?_ ?_ _ _ ⟨rfl, rfl, hall⟩
        · rintro v rest' r s' ⟨hr, rfl, hy⟩
          obtain ⟨pv, hpv, rfl⟩ := hy v List.mem_cons_self
          obtain ⟨b', hb1', hb2', hb3'⟩ := R.tup pv hpv
          have rest'' : ∀ y ∈ rest', ∃ p ∈ L, y = p.1 := fun u hu' => hy u (List.mem_cons_of_mem _ hu')
          rw [hb1']
          dsimp only
          by_cases hv : (x == b' || (carriedByValue (.ref x) && carriedByValue (.ref b'))) = true
          · refine wp_if_pos hv ?_
            exact wpAny_pure ⟨rfl, rfl, rest''⟩
          · refine wp_if_neg hv ?_
            refine wpAny_bind (quiet_key _ _ 8 _ hx hdx _ _ _ ?_)
            simp only [Bool.not_true, Bool.false_eq_true, if_false]
            refine wpAny_bind (quiet_key _ _ 8 _ hb2' hb3' _ _ _ ?_)
            simp only [Bool.not_true, Bool.false_eq_true, if_false]
            refine wpAny_bind (class_key _ _ 8 _ hx hdx _ _ _ ?_)
            simp only [Bool.false_eq_true, if_false]
            refine wpAny_bind (class_key _ _ 8 _ hb2' hb3' _ _ _ ?_)
            simp only [Bool.false_eq_true, if_false]
            exact wpAny_pure ⟨rfl, rfl, rest''⟩
        · rintro ⟨r1, r2⟩ s' ⟨hr, rfl, _⟩
          simp only at hr
          subst hr
          refine wpAny_pure ?_
          refine wp_if_neg (by decide) ?_
          try refine wpAny_bind (wpAny_pure ?_)
          exact rest
    · have hpr' : t.probe (fun i => (es[i]?.map (·.1)).getD 0) (k.hash w) (stand.getD (t.probeStart (k.hash w))) = some (.empty (way t.mask (k.hash w) K) none) := by
        have e2 : way t.mask (k.hash w) K = (nth t.mask (nth t.mask p0 c) (K - c)).j := by rw [hw, show c + (K - c) = K by omega]
        rw [hst, e2]
        exact hpr
      rw [hpr']
      dsimp only
      refine wpAny_pure (hout fun hm => ?_)
      obtain ⟨p1, h0, hk0⟩ := List.mem_map.mp hm
      obtain ⟨i0, hi0, e0⟩ := List.getElem_of_mem h0
      have h00 : L[i0]? = some p1 := by rw [List.getElem?_eq_getElem hi0, e0]
      obtain ⟨c', a1, a2, a3⟩ := hre i0 p1 h00 hk0
      refine hno (c' - c) i0 (by omega) (by rw [hw, show c + (c' - c) = c' by omega]; exact a3) ?_
      exact (hashAt i0 p1 h00).trans (by rw [hk0])
theorem tup_search (R : TupT w S s.heap L es ep t) {x : Addr} {k : NestedKey} (hx : NestedIs s.heap k (.ref x)) (hdx : k.depth ≤ 8) (hu : A.units + 8 < cLine) {Q : SetFound → Shared → Prop}
    (hin : k ∈ L.map (·.2) → Q (.there none) s)
    (hout : ∀ K, k ∉ L.map (·.2) → way t.mask (k.hash w) K ∉ t.place.toList → (∀ c, c < K → way t.mask (k.hash w) c ∈ t.place.toList) → Q (.free (way t.mask (k.hash w) K) false) s) :
    wpAny (model P w) A (setSearch S (.ref x) (k.hash w) true) Q E s := by
  have hroom := R.room
  obtain ⟨K, hKf, hK, hKb⟩ := R.tab.first (by rw [hsL_len]; omega) (k.hash w)
  have hbig : K < 100000 := by
    have : 10 * SetTable.turns t.mask ≤ 82060 := by
      unfold SetTable.turns
      rcases R.m6 with e | e | e | e | e | e <;> omega
    omega
  unfold setSearch
  refine tup_from R hx hdx hu hKf hK hKb hin (fun hn => hout K hn hK hKb) 100000 0 none rfl (Nat.zero_le _) (by omega) fun i p hp hk => ?_
  have hi : (hsL w L)[i]? = some (k.hash w) := by unfold hsL; rw [List.getElem?_map, hp, ← hk]; rfl
  have hil : i < t.place.toList.length := by
    rw [R.tab.sz, hsL_len]; exact (List.getElem?_eq_some_iff.mp hp).1
  have hj := List.getElem?_eq_getElem hil
  obtain ⟨c, hc, e⟩ := R.tab.before hK hi hj
  exact ⟨c, Nat.zero_le _, hc, by rw [hj, e]⟩
end
end Py
end
section
set_option maxHeartbeats 4000000
namespace Py
open PySem PySem.Spec PyProof.Rows L2 LamX
section
variable {P : Program} {w : World} {A : Around} {E : Value → Shared → Prop} {s : Shared} {S : Addr} {L : KL} {es : Array (Int × Value)} {ep : Nat} {t : SetTable}
theorem nested_same {h h' : Heap} {k : NestedKey} {v : Value} {o : Obj} (x : NestedIs h k v) (ho : h.get? S = some o) (hd : o.data = .set es ep t) (hs : Heap.SameBut S h h') : NestedIs h' k v :=
  NestedIs.at (fun b ob vs n hb hc => (hs.2 b fun e => by
    subst e
    rw [ho] at hb
    cases hb
    rw [hd] at hc
    cases hc).trans hb) k v x
theorem tupP_same {h h' : Heap} {p : Value × NestedKey} {o : Obj} (x : TupP h p) (ho : h.get? S = some o) (hd : o.data = .set es ep t) (hs : Heap.SameBut S h h') : TupP h' p := by
  obtain ⟨a, e, h1, h2⟩ := x
  exact ⟨a, e, nested_same h1 ho hd hs, h2⟩
theorem getD_map {α : Type} (f : α → Int) (L : List α) (es : Array Int) (h : es.toList = L.map f) {i : Nat} (hi : i < L.length) : es.getD i 0 = f L[i] := by
  rw [Array.getD_eq_getD_getElem?, ← Array.getElem?_toList, h, List.getElem?_map, List.getElem?_eq_getElem hi]; rfl
/-- rows in another order -/
theorem rows_order (L : KL) (es : Array (Int × Value)) (order : Array Nat) (hr : es.toList = rwL w L) (hp : order.toList.Perm (List.range L.length)) :
    ∃ L2 : KL, (order.filterMap (es[·]?)).toList = rwL w L2 ∧ L2.Perm L ∧ hsL w L2 = order.toList.map fun i => (es.map (·.1)).getD i 0 := by
  have hall : ∀ i ∈ order.toList, i < L.length := fun i hi => List.mem_range.mp (hp.mem_iff.mp hi)
  have ent : ∀ i (h : i < L.length), es[i]? = some ((L[i]).2.hash w, (L[i]).1) := fun i h => by
    rw [← Array.getElem?_toList, hr]
    unfold rwL
    rw [List.getElem?_map, List.getElem?_eq_getElem h]; rfl
  have hk : (es.map (·.1)).toList = L.map (fun p => p.2.hash w) := by
    rw [Array.toList_map, hr]
    unfold rwL
    rw [List.map_map]; rfl
  have key : ∀ l : List Nat, (∀ i ∈ l, i < L.length) → l.filterMap (fun i => es[i]?) = rwL w (l.filterMap fun i => L[i]?) ∧ hsL w (l.filterMap fun i => L[i]?) = l.map fun i => (es.map (·.1)).getD i 0 := by
    intro l
    induction l with
    | nil => intro _; exact ⟨rfl, rfl⟩
    | cons i l ih =>
      intro hl
      have hi := hl i List.mem_cons_self
      obtain ⟨e1, e2⟩ := ih fun j hj => hl j (List.mem_cons_of_mem _ hj)
      rw [List.filterMap_cons_some (ent i hi), List.filterMap_cons_some (List.getElem?_eq_getElem hi), e1]
      refine ⟨rfl, ?_⟩
      unfold hsL at e2 ⊢
      rw [List.map_cons, List.map_cons, e2, getD_map (fun p : Value × NestedKey => p.2.hash w) L _ hk hi]
  obtain ⟨e1, e2⟩ := key order.toList hall
  refine ⟨_, by rw [Array.toList_filterMap]; exact e1, ?_, e2⟩
  have h1 : (order.toList.filterMap fun i => L[i]?).Perm ((List.range L.length).filterMap fun i => L[i]?) := hp.filterMap _
  have h2 : ∀ (M : KL), (List.range M.length).filterMap (fun i => M[i]?) = M := by
    intro M
    induction M with
    | nil => rfl
    | cons a M ih =>
      rw [List.length_cons, List.range_succ_eq_map, List.filterMap_cons_some (by rfl : (a :: M)[0]? = some a), List.filterMap_map]
      congr 1
  rw [h2] at h1
  exact h1
theorem tup_relay {o : Obj} (ho : s.heap.get? S = some o) (hex : o.ExactSet) (hd : o.data = .set es ep t) (hrows : es.toList = rwL w L) (hf : t.fits es.size = true)
    (nd : (L.map (·.2)).Nodup) (tup : ∀ p ∈ L, TupP s.heap p) (ld : w.params.followText "set-order" = true ∨ t.led = true) (few : L.length < 4095) {wanted M : Nat}
    (hw : SetTable.sizeAbove wanted - 1 = M) (hM : Mask6 M) (hw2 : SetTable.sizeAbove wanted ≤ 8192) (hn : L.length * 5 < M * 3) {Q : Unit → Shared → Prop}
    (hQ : ∀ h' L' es' ep' t', Heap.SameBut S s.heap h' → TupT w S h' L' es' ep' t' → L'.Perm L → Q () { s with heap := h' }) : wpAny (model P w) A (setRelay S wanted) Q E s := by
  have hsl : es.size = L.length := by rw [← Array.length_toList, hrows]; exact List.length_map _
  obtain ⟨t', order, e, hp, T, em, el, _⟩ := relaidG t (hs := es.map (·.1)) (wanted := wanted) hw (mask6 hM) (by rw [Array.size_map, hsl]; omega)
  rw [Array.size_map, hsl] at hp
  obtain ⟨L2, r1, r2, r3⟩ := rows_order L es order hrows hp
  rw [← r3] at T
  have hs2 : (order.filterMap (es[·]?)).size = es.size := by
    rw [← Array.length_toList, r1]
    unfold rwL
    rw [List.length_map, r2.length_eq, hsl]
  rw [setRelay_eq]
  refine wpAny_bind (wpAny_setState_of ho hd hf ?_)
  dsimp only
  refine wp_if_neg (by rw [sizeLine_eq]; omega) ?_
  try refine wpAny_bind (wpAny_pure ?_)
  rw [e]
  dsimp only
  refine wpAny_bind ?_
  refine wp_if_neg (by rw [hs2]; simp) ?_
  try refine wpAny_bind (wpAny_pure ?_)
  refine wpAny_pure ?_
  dsimp only
  refine wpAny_storeSet_of ho hd ?_ (by rw [hs2, hsl, sizeLine_eq]; omega)
  have sb : Heap.SameBut S s.heap (s.heap.update S (Obj.putSet (order.filterMap (es[·]?)) t')) := Heap.SameBut.update ..
  refine hQ _ L2 (order.filterMap (es[·]?)) (ep + 1) t' sb ?_ r2
  refine ⟨⟨_, store_at ho hd, ⟨hex.1, hex.2.1, hex.2.2⟩, rfl⟩, r1, T, (r2.map (·.2)).nodup_iff.mpr nd, fun p hpm => tupP_same (tup p (r2.mem_iff.mp hpm)) ho hd sb, by rw [el]; exact ld, ?_, by rw [em]; exact hM, by rw [r2.length_eq]; exact few⟩
  rw [r2.length_eq, em]
  exact hn
theorem grow6 : SetTable.sizeAbove (SetTable.grown 5) = 32 ∧ SetTable.sizeAbove (SetTable.grown 19) = 128 ∧ SetTable.sizeAbove (SetTable.grown 77) = 512 ∧ SetTable.sizeAbove (SetTable.grown 307) = 2048 ∧ SetTable.sizeAbove (SetTable.grown 1229) = 8192 := by decide +kernel
theorem rw_put (L : KL) (p : Nat) (x : Value × NestedKey) : rwL w (L.take p ++ x :: L.drop p) = (rwL w L).take p ++ (x.2.hash w, x.1) :: (rwL w L).drop p := by
  unfold rwL
  rw [List.map_append, List.map_cons, List.map_take, List.map_drop]
theorem hs_put (L : KL) (p : Nat) (x : Value × NestedKey) : hsL w (L.take p ++ x :: L.drop p) = (hsL w L).take p ++ x.2.hash w :: (hsL w L).drop p := by
  unfold hsL
  rw [List.map_append, List.map_cons, List.map_take, List.map_drop]
/-- adding a tuple -/
theorem tup_add (R : TupT w S s.heap L es ep t) {p : Value × NestedKey} (hp : TupP s.heap p) (hu : A.units + 8 < cLine) (hfew : L.length + 1 < 4095) {Q : Bool → Shared → Prop}
    (hQ : ∀ b h' L' es' ep' t', Heap.SameBut S s.heap h' → TupT w S h' L' es' ep' t' → (p.2 ∈ L.map (·.2) → L' = L) → (p.2 ∉ L.map (·.2) → L'.Perm (p :: L)) → Q b { s with heap := h' }) :
    wpAny (model P w) A (setAddHashed S p.1 (p.2.hash w)) Q E s := by
  obtain ⟨o, ho, hex, hd⟩ := R.ob
  have hsl := R.size
  have hroom := R.room
  obtain ⟨v, k⟩ := p
  obtain ⟨x, e0, hx, hdx⟩ := hp
  dsimp only at e0 hx hdx hQ ⊢
  subst e0
  unfold setAddHashed
  refine wpAny_holding ?_
  rw [show (100000 : Nat) = 99999 + 1 from rfl, setAddHashedIn_succ]
  refine wpAny_bind (wpAny_setState_of ho hd R.fits ?_)
  dsimp only
  refine wp_if_neg (by simp [byScan, Value.scannable]) ?_
  try refine wpAny_bind (wpAny_pure ?_)
  refine wpAny_bind (tup_search R hx hdx hu (fun hm => ?_) fun K hm hK hb => ?_)
  · dsimp only
    exact wpAny_pure (hQ false s.heap L es ep t (Heap.SameBut.refl S s.heap) R (fun _ => rfl) fun z => absurd hm z)
  · dsimp only
    refine wpAny_bind (wpAny_setState_of ho hd R.fits ?_)
    dsimp only
    obtain ⟨q2, q3, q9⟩ := R.tab.put hK hb
    rw [hsL_len] at q2 q9
    have q4 : (t.put (way t.mask (k.hash w) K)).1.mask = t.mask := rfl
    have q5 : (t.put (way t.mask (k.hash w) K)).1.led = t.led := rfl
    have q1 : (t.put (way t.mask (k.hash w) K)).2 = SetTable.below t.place (way t.mask (k.hash w) K) := rfl
    generalize hpt : t.put (way t.mask (k.hash w) K) = pt at q1 q3 q4 q5 q9 ⊢
    obtain ⟨t1, p⟩ := pt
    dsimp only at q1 q3 q4 q5 q9 ⊢
    subst q1
    generalize hpp : SetTable.below t.place (way t.mask (k.hash w) K) = p at q2 q3 ⊢
    have hin : (SetTable.insertAt es p (k.hash w, Value.ref x)).toList = rwL w (L.take p ++ (Value.ref x, k) :: L.drop p) := by
      rw [SetTable.toList_insertAt, rw_put, R.rows]
    have pm : (L.take p ++ (Value.ref x, k) :: L.drop p).Perm ((Value.ref x, k) :: L) := put_perm L p _
    have hlen : (L.take p ++ (Value.ref x, k) :: L.drop p).length = L.length + 1 := pm.length_eq
    rw [← hs_put L p (Value.ref x, k)] at q3
    have nd1 : ((L.take p ++ (Value.ref x, k) :: L.drop p).map (·.2)).Nodup := by
      refine (pm.map (·.2)).nodup_iff.mpr ?_
      rw [List.map_cons]
      exact List.nodup_cons.mpr ⟨hm, R.nd⟩
    have hes : (SetTable.insertAt es p (k.hash w, Value.ref x)).size = L.length + 1 := by
      rw [← Array.length_toList, hin]
      unfold rwL
      rw [List.length_map, hlen]
    generalize SetTable.insertAt es p (k.hash w, Value.ref x) = es1 at hin hes ⊢
    generalize L.take p ++ (Value.ref x, k) :: L.drop p = L1 at pm hlen q3 nd1 hin
    -- the table's flag has no say
    have fin : ∀ t2 : SetTable, TabG t2 (hsL w L1) → t2.mask = t.mask → t2.led = t.led → t2.fill = L.length + 1 → t2.fits es1.size = true →
        wpAny (model P w) A (do
          storeSet S es1 t2
          if (!false && t2.tooFull) = true then do
            setRelay S (SetTable.grown (es.size + 1))
            pure true
          else pure true) Q E s := by
      intro t2 T2 m2 l2 f2 fit2
      refine wpAny_bind (wpAny_storeSet_of ho hd ?_ (by rw [hes, sizeLine_eq]; omega))
      have sb : Heap.SameBut S s.heap (s.heap.update S (Obj.putSet es1 t2)) := Heap.SameBut.update ..
      have ho1 := store_at (es' := es1) (t' := t2) ho hd
      generalize s.heap.update S (Obj.putSet es1 t2) = h1 at sb ho1 ⊢
      have tup1 : ∀ p ∈ L1, TupP h1 p := fun p hp => by
        rcases List.mem_cons.mp (pm.mem_iff.mp hp) with e | hp
        · rw [e]; exact tupP_same ⟨x, rfl, hx, hdx⟩ ho hd sb
        · exact tupP_same (R.tup p hp) ho hd sb
      have ld1 : w.params.followText "set-order" = true ∨ t2.led = true := by rw [l2]; exact R.led
      by_cases hf : t2.tooFull = true
      · refine wp_if_pos (by simp [hf]) ?_
        have hfull : (L.length + 1) * 5 ≥ t.mask * 3 := by
          have h := hf
          unfold SetTable.tooFull at h
          rw [decide_eq_true_eq, f2, m2] at h
          exact h
        rw [hsl]
        have go : ∀ M, SetTable.sizeAbove (SetTable.grown (L.length + 1)) - 1 = M → Mask6 M → SetTable.sizeAbove (SetTable.grown (L.length + 1)) ≤ 8192 → (L.length + 1) * 5 < M * 3 →
            wpAny (model P w) A (do setRelay S (SetTable.grown (L.length + 1)); pure true) Q E { s with heap := h1 } := fun M h1' h2' h3' h4' => by
          refine wpAny_bind (tup_relay (s := { s with heap := h1 }) ho1 ⟨hex.1, hex.2.1, hex.2.2⟩ rfl hin fit2 nd1 tup1 ld1 (by rw [hlen]; exact hfew) h1' h2' h3' (by rw [hlen]; exact h4') ?_)
          intro h2 L2 es2 ep2 t3 sb2 R2 pm2
          exact wpAny_pure (hQ true h2 L2 es2 ep2 t3 (sb.trans sb2) R2 (fun z => absurd z hm) fun _ => pm2.trans pm)
        obtain ⟨g1, g2, g3, g4, g5⟩ := grow6
        rcases R.m6 with e | e | e | e | e | e <;> rw [e] at hfull hroom
        · have e2 : L.length + 1 = 5 := by omega
          refine go 31 (by rw [e2, g1]) (.inr (.inl rfl)) (by rw [e2, g1]; decide) (by omega)
        · have e2 : L.length + 1 = 19 := by omega
          refine go 127 (by rw [e2, g2]) (.inr (.inr (.inl rfl))) (by rw [e2, g2]; decide) (by omega)
        · have e2 : L.length + 1 = 77 := by omega
          refine go 511 (by rw [e2, g3]) (.inr (.inr (.inr (.inl rfl)))) (by rw [e2, g3]; decide) (by omega)
        · have e2 : L.length + 1 = 307 := by omega
          refine go 2047 (by rw [e2, g4]) (.inr (.inr (.inr (.inr (.inl rfl))))) (by rw [e2, g4]; decide) (by omega)
        · have e2 : L.length + 1 = 1229 := by omega
          refine go 8191 (by rw [e2, g5]) (.inr (.inr (.inr (.inr (.inr rfl))))) (by rw [e2, g5]; decide) (by omega)
        · exfalso; omega
      · refine wp_if_neg (by simp [hf]) ?_
        refine wpAny_pure (hQ true h1 L1 es1 (ep + 1) t2 sb ⟨⟨_, ho1, ⟨hex.1, hex.2.1, hex.2.2⟩, rfl⟩, hin, T2, nd1, tup1, ld1, ?_, by rw [m2]; exact R.m6, by rw [hlen]; exact hfew⟩ (fun z => absurd z hm) fun _ => pm)
        have h := hf
        unfold SetTable.tooFull at h
        rw [decide_eq_true_eq, f2, m2] at h
        rw [hlen, m2]
        omega
    have fit1 : ∀ t2 : SetTable, t2.place = t1.place → t2.mask = t1.mask → t2.dummies = t1.dummies → t2.fits es1.size = true := by
      intro t2 a1 a2 a3
      have z1 := q3.size
      rw [show (hsL w L1).length = L1.length from List.length_map _, hlen] at z1
      unfold SetTable.fits SetTable.fill
      rw [a1, a2, a3, q3.dm, hes, Bool.and_eq_true, beq_iff_eq, decide_eq_true_eq]
      refine ⟨z1, ?_⟩
      show t1.place.size + 0 ≤ t1.mask
      rcases R.m6 with e | e | e | e | e | e <;> rw [e] at hroom <;> rw [z1, q4, e] <;> omega
    by_cases hpl : t1.plain = true
    · refine wp_if_pos hpl ?_
      refine wpAny_bind (hash_key _ _ 8 _ hx hdx _ _ _ fun b => ?_)
      cases b with
      | true =>
        simp only [if_true]
        exact fin t1 q3 q4 q5 q9 (fit1 t1 rfl rfl rfl)
      | false =>
        simp only [Bool.false_eq_true, if_false]
        exact fin { t1 with plain := false } ⟨q3.ris, q3.dm, q3.sz, q3.mok, q3.bd, q3.reach⟩ q4 q5 q9 (fit1 _ rfl rfl rfl)
    · refine wp_if_neg hpl ?_
      refine wpAny_bind (wpAny_pure ?_)
      simp only [if_true]
      exact fin t1 q3 q4 q5 q9 (fit1 t1 rfl rfl rfl)
end
end Py
end
section
set_option maxHeartbeats 2000000
namespace Py
open PySem PySem.Spec PyProof.Rows L2 LamX

/-! ### data as keys -/
mutual
def nkD : D → Option NestedKey
  | .non => some .none
  | .bl b => some (.num (if b = true then 1 else 0))
  | .int i => some (.num i)
  | .str x => some (.text x)
  | .tup l => (nkDs l).map .tup
  | _ => none
def nkDs : List D → Option (List NestedKey)
  | [] => some []
  | d :: l => match nkD d, nkDs l with
    | some k, some ks => some (k :: ks)
    | _, _ => none
end
def isLeafK : NestedKey → Bool
  | .tup _ => false
  | _ => true
section
variable {X : Cx} {T : Tb} {W : WX} {pos : Pos} {pins : List (Addr × Obj)} {σ : L2.St} {H : Hp} {s : Shared}
mutual
theorem nk_rep (I : Inv X pins σ H s) : ∀ (d : D) (v : V) (u : Value) (k : NestedKey), Rep X.K H d v → RelV v u → nkD d = some k → NestedIs s.heap k u
  | .non, v, u, k, h, r, e => by
    rw [show v = _ from h] at r; cases r; cases e; exact .none
  | .bl b, v, u, k, h, r, e => by
    rw [show v = _ from h] at r
    have r : u = Value.bool b := r
    subst r
    cases e; exact .bool rfl
  | .int i, v, u, k, h, r, e => by
    rw [show v = _ from h] at r
    obtain ⟨t, rfl⟩ := r
    cases e; exact .int _ _
  | .str x, v, u, k, h, r, e => by
    obtain ⟨_, _, rfl⟩ := h
    obtain ⟨t, rfl⟩ := r
    cases e; exact .text _ _
  | .tup l, v, u, k, h, r, e => by
    obtain ⟨z, a, xs, rfl, h1, h2⟩ := h
    cases r
    unfold nkD at e
    cases q : nkDs l with
    | none => rw [q] at e; cases e
    | some ks =>
      rw [q] at e
      cases e
      obtain ⟨its, rv, ⟨o, ho, hc, n, hd⟩, _⟩ := I.tuple h1
      exact .tup ho hc hd (by simpa using nks_rep I l xs its ks h2 rv q)
  | .lst l, v, u, k, h, r, e => by cases e
  | .dic a b, v, u, k, h, r, e => by cases e
  | .scr l, v, u, k, h, r, e => by cases e
theorem nks_rep (I : Inv X pins σ H s) : ∀ (l : List D) (xs : List V) (us : List Value) (ks : List NestedKey), Reps X.K H l xs → Vals xs us → nkDs l = some ks → NestedAll s.heap ks us
  | [], xs, us, ks, h, r, e => by
    rw [show xs = _ from h] at r; cases r; cases e; exact .nil
  | d :: l, xs, us, ks, h, r, e => by
    obtain ⟨v, vs, rfl, h1, h2⟩ := h
    cases r with
    | cons r1 r2 =>
      unfold nkDs at e
      cases q1 : nkD d with
      | none => rw [q1] at e; cases e
      | some k =>
        cases q2 : nkDs l with
        | none => rw [q1, q2] at e; cases e
        | some ks' =>
          rw [q1, q2] at e
          cases e
          exact .cons (nk_rep I d v _ k h1 r1 q1) (nks_rep I l vs _ ks' h2 r2 q2)
end
theorem leaf_of {h : Heap} {k : NestedKey} {u : Value} (x : NestedIs h k u) (e : isLeafK k = true) : LeafP (u, k) := by
  cases x with
  | none => exact ⟨.none, rfl, rfl⟩
  | @bool b i q => exact ⟨.num i, rfl, by show decide _ = true; rw [decide_eq_true_eq]; exact q.symm⟩
  | int i t => exact ⟨.num i, rfl, by show decide _ = true; rw [decide_eq_true_eq]⟩
  | text x t => exact ⟨.text x, rfl, by show Value.isStrOf x (.str x t) = true; simp [Value.isStrOf]⟩
  | tup _ _ _ _ => cases e
def pairsD : List D → Option (List (D × NestedKey))
  | [] => some []
  | d :: l => match nkD d, pairsD l with
    | some k, some ks => some ((d, k) :: ks)
    | _, _ => none
theorem pairs_of {G : Hp} (hG : ExtN G H) (I : Inv X pins σ H s) : ∀ {l : List D} {xs : List V} {us : List Value} {ps : List (D × NestedKey)}, Reps X.K G l xs → Vals xs us → pairsD l = some ps →
    ∃ ks : List ((Value × D) × NestedKey), ks.map (·.1.1) = us ∧ ks.map (fun p => (p.1.2, p.2)) = ps ∧ ∀ p ∈ ks, RU X.K G p.1.1 p.1.2 ∧ NestedIs s.heap p.2 p.1.1
  | [], xs, us, ps, h, r, e => by
    rw [show xs = _ from h] at r; cases r; cases e; exact ⟨[], rfl, rfl, fun p hp => by cases hp⟩
  | d :: l, xs, us, ps, h, r, e => by
    obtain ⟨v, vs, rfl, h1, h2⟩ := h
    cases r with
    | @cons _ u _ us' r1 r2 =>
      unfold pairsD at e
      cases q1 : nkD d with
      | none => rw [q1] at e; cases e
      | some k =>
        cases q2 : pairsD l with
        | none => rw [q1, q2] at e; cases e
        | some ps' =>
          rw [q1, q2] at e
          cases e
          obtain ⟨ks, e1, e2, e3⟩ := pairs_of hG I h2 r2 q2
          refine ⟨((u, d), k) :: ks, by rw [List.map_cons, e1], by rw [List.map_cons, e2], fun p hp => ?_⟩
          rcases List.mem_cons.mp hp with rfl | hp
          · exact ⟨⟨v, r1, h1⟩, nk_rep I d v _ k (Rep.ext hG _ _ h1) r1 q1⟩
          · exact e3 p hp
def isTupK : NestedKey → Bool
  | .tup ks => decide ((NestedKey.tup ks).depth ≤ 8)
  | _ => false
def setOk (ps : List (D × NestedKey)) : Bool := ((ps.all fun p => isLeafK p.2) && decide (ps.length + 1 < scanBound)) || ((ps.all fun p => isTupK p.2) && decide (ps.length + 1 < 4095))
theorem tup_adds {ks : KL} {h0 : Heap} {S : Addr} {P : Program} {w : World} {A : Around} (hk : ∀ p ∈ ks, TupP h0 p) (hl : ks.length < 4094) (hu : A.units + 10 < cLine) : Adds P w A h0 S ks (fun h L => (∀ p ∈ L, p ∈ ks) ∧ ∃ es ep t, TupT w S h L es ep t) where
  keep := fun h h' L ⟨sub, es, ep, t, R⟩ hS hh => ⟨sub, es, ep, t, ⟨let ⟨o, ho, r⟩ := R.ob; ⟨o, hS o ho, r⟩, R.rows, R.tab, R.nd, fun p hp => by
    obtain ⟨a, e, h1, h2⟩ := hk p (sub p hp)
    exact ⟨a, e, NestedIs.at (fun b o vs n hb _ => hh b o hb) _ _ h1, h2⟩, R.led, R.room, R.m6, R.few⟩⟩
  new := fun h ho _ => ⟨fun p hp => by (cases hp), #[], 0, _, ⟨⟨_, ho, ⟨rfl, rfl, rfl⟩, rfl⟩, rfl, ⟨List.Pairwise.nil, rfl, rfl, mask6 (.inl rfl), fun x hx => by (cases hx), fun i h j e => by (simp [hsL] at e)⟩, List.nodup_nil, fun p hp => by (cases hp), by
    show _ ∨ (!w.params.followText "set-order") = true
    cases w.params.followText "set-order"
    · exact .inr rfl
    · exact .inl rfl, by show 0 * 5 < 7 * 3; decide, .inl rfl, by show 0 < 4095; decide⟩⟩
  add := fun s E L p Q ⟨sub, es, ep, t, R⟩ _ hp hL hh hQ => by
    obtain ⟨a, e, h1, h2⟩ := hk p hp
    refine tup_add R ⟨a, e, NestedIs.at (fun b o vs n hb _ => hh b o hb) _ _ h1, h2⟩ (by omega) (by omega) fun b h' L' es' ep' t' sb R' c1 c2 => hQ b h' L' sb ⟨fun q hq => ?_, es', ep', t', R'⟩ c1 c2
    rcases Classical.em (p.2 ∈ L.map (·.2)) with c | c
    · rw [c1 c] at hq; exact sub q hq
    · rcases List.mem_cons.mp ((c2 c).mem_iff.mp hq) with rfl | z
      · exact hp
      · exact sub q z
theorem tupT_obj {w : World} {S : Addr} {h : Heap} {L : KL} {es : Array (Int × Value)} {ep : Nat} {t : SetTable} (R : TupT w S h L es ep t) : SetObj w h S L := by
  obtain ⟨o, ho, hex, hd⟩ := R.ob
  have h1 := R.tab.size
  have h3 := R.room
  have h4 := R.few
  have hs : es.size = L.length := by rw [← Array.length_toList, R.rows]; exact List.length_map _
  rw [show (hsL w L).length = L.length from List.length_map _] at h1
  refine ⟨o, es, ep, t, ho, hex, hd, ?_, R.tab.ris, R.led, by rw [R.rows]; exact List.Perm.refl _, by unfold scanBound; omega⟩
  unfold SetTable.fits SetTable.fill
  rw [R.tab.dm, hs, Bool.and_eq_true, beq_iff_eq, decide_eq_true_eq]
  refine ⟨h1, ?_⟩
  show t.place.size + 0 ≤ t.mask
  omega
theorem set_adds {ks : KL} {ps : List (D × NestedKey)} {h0 : Heap} {S : Addr} {P : Program} {w : World} (ok : setOk ps = true) (e : ks.map (·.2) = ps.map (·.2)) (hk : ∀ p ∈ ks, NestedIs h0 p.2 p.1) :
    (∀ p ∈ ks, p.2.depth ≤ 8) ∧ ∃ R, (∀ A : Around, A.units + 10 < cLine → Adds P w A h0 S ks R) ∧ ∀ h L, R h L → SetObj w h S L := by
  have hl : ks.length = ps.length := by
    have := congrArg List.length e
    simpa using this
  have at_ : ∀ p ∈ ks, ∃ q ∈ ps, q.2 = p.2 := fun p hp => by
    have h1 : p.2 ∈ ps.map (·.2) := by rw [← e]; exact List.mem_map.mpr ⟨p, hp, rfl⟩
    exact List.mem_map.mp h1
  simp only [setOk, Bool.or_eq_true, Bool.and_eq_true, decide_eq_true_eq, List.all_eq_true] at ok
  rcases ok with ok | ok
  · have lf : ∀ p ∈ ks, isLeafK p.2 = true := fun p hp => by
      obtain ⟨q, hq, e2⟩ := at_ p hp
      rw [← e2]; exact ok.1 q hq
    refine ⟨fun p hp => ?_, ScanR w S, fun A _ => scan_adds (fun p hp => leaf_of (hk p hp) (lf p hp)) (by omega), fun h L R => R.ob⟩
    have := lf p hp
    cases q : p.2 <;> rw [q] at this <;> first | cases this; done | simp [NestedKey.depth]
  · have tf : ∀ p ∈ ks, isTupK p.2 = true := fun p hp => by
      obtain ⟨q, hq, e2⟩ := at_ p hp
      rw [← e2]; exact ok.1 q hq
    have td : ∀ p ∈ ks, p.2.depth ≤ 8 ∧ TupP h0 p := fun p hp => by
      have h1 := tf p hp
      have h2 := hk p hp
      obtain ⟨v, k⟩ := p
      dsimp only at h1 h2 ⊢
      cases k with
      | tup l =>
        have h3 : (NestedKey.tup l).depth ≤ 8 := of_decide_eq_true h1
        refine ⟨h3, ?_⟩
        cases h2 with
        | tup a b c d => exact ⟨_, rfl, .tup a b c d, h3⟩
      | _ => cases h1
    exact ⟨fun p hp => (td p hp).1, _, fun A hA => tup_adds (fun p hp => (td p hp).2) (by omega) hA, fun h L ⟨_, es, ep, t, R⟩ => tupT_obj R⟩
def setL (l : List D) : Option (List D) := match pairsD l with
  | some ps => if setOk ps then some ((ddK ps).map (·.1)) else none
  | none => none
theorem setL_len {l u : List D} (e : setL l = some u) : u.length ≤ l.length := by
  unfold setL at e
  cases q : pairsD l with
  | none => rw [q] at e; cases e
  | some ps =>
    rw [q] at e
    simp only at e
    split at e
    · cases e
      have h1 := ddK_len ps
      have h2 : ∀ {l : List D} {ps}, pairsD l = some ps → ps.length = l.length := by
        intro l
        induction l with
        | nil => intro ps h; cases h; rfl
        | cons d l ih =>
          intro ps h
          unfold pairsD at h
          cases q1 : nkD d with
          | none => rw [q1] at h; cases h
          | some k =>
            cases q2 : pairsD l with
            | none => rw [q1, q2] at h; cases h
            | some ps' => rw [q1, q2] at h; cases h; rw [List.length_cons, List.length_cons, ih q2]
      rw [List.length_map, ← h2 q]; exact h1
    · cases e
/-- set(xs) -/
theorem call_setD {G : Hp} {E : Value → Shared → Prop} {A : Around} {a : Addr} {xs : List V} {l u : List D} {Q : Value → Shared → Prop} (hG : ExtN G H) (I : Inv X pins σ H s) (hh : A.handled = none) (hu : A.units + 30 < cLine) (ha : H a = some (.lst xs)) (r : Reps X.K G l xs) (e : setL l = some u)
    (h : ∀ (h' : Heap) (tk : Nat) (L : KL) (bs : List (Value × D)), SetObj X.w h' s.heap.objs.size L → (L.map (·.1)).Perm (bs.map (·.1)) → bs.map (·.2) = u → (∀ p ∈ bs, RU X.K G p.1 p.2) → (∀ b o, s.heap.get? b = some o → h'.get? b = some o) → Q (.ref s.heap.objs.size) { s with heap := h', toks := tk }) :
    wpAny (model X.prog X.w) A (call (.type "set") [.ref a]) Q E s := by
  obtain ⟨its, rv, pl, hz⟩ := I.list (SqL.of ha)
  unfold setL at e
  cases q : pairsD l with
  | none => rw [q] at e; cases e
  | some ps =>
    rw [q] at e
    simp only at e
    split at e
    · rename_i ok
      cases e
      obtain ⟨ks, e1, e2, e3⟩ := pairs_of hG I r rv q
      have hk : ∀ p ∈ ks.map (fun p => (p.1.1, p.2)), NestedIs s.heap p.2 p.1 := fun p hp => by
        obtain ⟨q, hq, rfl⟩ := List.mem_map.mp hp
        exact (e3 q hq).2
      obtain ⟨hd, R, ad, hR⟩ := set_adds (P := X.prog) (w := X.w) (S := s.heap.objs.size) (ks := ks.map fun p => (p.1.1, p.2)) ok (by rw [← e2, List.map_map, List.map_map]; rfl) hk
      refine call_setG (R := R) (ks.map fun p => (p.1.1, p.2)) hh pl.isList (by rw [List.map_map]; exact e1.symm) hk hd (by omega) (fun A' hA => ad A' (by omega)) fun h' tk L hL pm kp => ?_
      refine h h' tk L ((ddK ks).map (·.1)) (hR _ _ hL) ?_ ?_ (fun p hp => ?_) kp
      · have h1 := pm.map (·.1)
        rw [← ddK_map (fun p : Value × D => p.1) ks, List.map_map] at h1
        rw [List.map_map]
        exact h1
      · rw [← e2, ← ddK_map (fun p : Value × D => p.2) ks, List.map_map, List.map_map]
        rfl
      · obtain ⟨q, hq, rfl⟩ := List.mem_map.mp hp
        exact (e3 q (ddK_sub q hq)).1
    · cases e
/-- set(xs) -/
theorem call_setDT {G : Hp} {E : Value → Shared → Prop} {A : Around} {a : Addr} {xs : List V} {l u : List D} {Q : Value → Shared → Prop} (hG : ExtN G H) (I : Inv X pins σ H s) (hh : A.handled = none) (hu : A.units + 30 < cLine) (ha : SqT X.K H a xs) (r : Reps X.K G l xs) (e : setL l = some u)
    (h : ∀ (h' : Heap) (tk : Nat) (L : KL) (bs : List (Value × D)), SetObj X.w h' s.heap.objs.size L → (L.map (·.1)).Perm (bs.map (·.1)) → bs.map (·.2) = u → (∀ p ∈ bs, RU X.K G p.1 p.2) → (∀ b o, s.heap.get? b = some o → h'.get? b = some o) → Q (.ref s.heap.objs.size) { s with heap := h', toks := tk }) :
    wpAny (model X.prog X.w) A (call (.type "set") [.ref a]) Q E s := by
  obtain ⟨its, rv, pl, hz⟩ := I.tuple ha
  unfold setL at e
  cases q : pairsD l with
  | none => rw [q] at e; cases e
  | some ps =>
    rw [q] at e
    simp only at e
    split at e
    · rename_i ok
      cases e
      obtain ⟨ks, e1, e2, e3⟩ := pairs_of hG I r rv q
      have hk : ∀ p ∈ ks.map (fun p => (p.1.1, p.2)), NestedIs s.heap p.2 p.1 := fun p hp => by
        obtain ⟨q, hq, rfl⟩ := List.mem_map.mp hp
        exact (e3 q hq).2
      obtain ⟨hd, R, ad, hR⟩ := set_adds (P := X.prog) (w := X.w) (S := s.heap.objs.size) (ks := ks.map fun p => (p.1.1, p.2)) ok (by rw [← e2, List.map_map, List.map_map]; rfl) hk
      refine call_setGT (R := R) (ks.map fun p => (p.1.1, p.2)) hh (show s.heap.IsTuple a its.toArray from pl) (by rw [List.map_map]; exact e1.symm) hk hd (by omega) (fun A' hA => ad A' (by omega)) fun h' tk L hL pm kp => ?_
      refine h h' tk L ((ddK ks).map (·.1)) (hR _ _ hL) ?_ ?_ (fun p hp => ?_) kp
      · have h1 := pm.map (·.1)
        rw [← ddK_map (fun p : Value × D => p.1) ks, List.map_map] at h1
        rw [List.map_map]
        exact h1
      · rw [← e2, ← ddK_map (fun p : Value × D => p.2) ks, List.map_map, List.map_map]
        rfl
      · obtain ⟨q, hq, rfl⟩ := List.mem_map.mp hp
        exact (e3 q (ddK_sub q hq)).1
    · cases e
end
end Py
end
section
set_option maxHeartbeats 2000000
namespace Py
open PySem PySem.Spec PyProof.Rows L2 LamX

theorem perm_lift {α β : Type} (f : α → β) : ∀ {l : List α} {vs : List β}, vs.Perm (l.map f) → ∃ l' : List α, l'.Perm l ∧ vs = l'.map f
  | [], vs, h => ⟨[], List.Perm.refl _, by simpa using h⟩
  | x :: l, vs, h => by
    rw [List.map_cons] at h
    have hm : f x ∈ vs := h.mem_iff.mpr List.mem_cons_self
    obtain ⟨a, b, rfl⟩ := List.append_of_mem hm
    have h2 : (a ++ b).Perm (l.map f) := by
      have := List.perm_middle.symm.trans h
      exact List.Perm.cons_inv this
    obtain ⟨l', h3, h4⟩ := perm_lift f h2
    obtain ⟨l1, l2, rfl, h5, h6⟩ := List.append_eq_map_iff.mp h4
    refine ⟨l1 ++ x :: l2, List.perm_middle.trans (h3.cons x), ?_⟩
    rw [List.map_append, List.map_cons, h5, h6]
/-- rising strictly -/
def strictB (r : List D) : Bool := (r.all fun x => leD x x) && decide (r.Pairwise fun x y => leD x y = true ∧ leD y x = false)
theorem range_sorted (n : Nat) (σ : List Nat) (h : σ.Perm (List.range n)) : σ.mergeSort (fun a b => decide (a ≤ b)) = List.range n := by
  have h1 : (σ.mergeSort (fun a b => decide (a ≤ b))).Perm (List.range n) := (List.mergeSort_perm _ _).trans h
  have h2 : (σ.mergeSort (fun a b => decide (a ≤ b))).Pairwise (fun a b => decide (a ≤ b) = true) := List.pairwise_mergeSort (fun a b c h1 h2 => by simp at *; omega) (fun a b => by simp; omega) σ
  refine List.Perm.eq_of_pairwise (le := fun a b => decide (a ≤ b) = true) (fun a b _ _ h1 h2 => ?_) h2 ?_ h1
  · simp at h1 h2; omega
  · rw [List.pairwise_iff_getElem]
    intro i j hi hj hij
    simp; omega
theorem sort_of_perm {bs r : List D} (pm : bs.Perm r) (st : strictB r = true) : bs.mergeSort leD = r := by
  simp only [strictB, Bool.and_eq_true, decide_eq_true_eq, List.all_eq_true] at st
  have er : r = (List.range r.length).map (fun i => r.getD i .non) := by
    apply List.ext_getElem
    · simp
    · intro i h1 h2
      simp [List.getD, h1]
  have pm' : bs.Perm ((List.range r.length).map (fun i => r.getD i .non)) := by rw [← er]; exact pm
  obtain ⟨σ, h1, h2⟩ := perm_lift _ pm'
  have hm : ∀ i ∈ σ, i < r.length := fun i hi => List.mem_range.mp (h1.mem_iff.mp hi)
  have key : (σ.mergeSort (fun a b => decide (a ≤ b))).map (fun i => r.getD i .non) = (σ.map (fun i => r.getD i .non)).mergeSort leD := List.map_mergeSort fun a ha b hb => by
    have la := hm a ha
    have lb := hm b hb
    have ga : r.getD a .non = r[a] := by simp [List.getD, la]
    have gb : r.getD b .non = r[b] := by simp [List.getD, lb]
    rw [ga, gb]
    rcases Nat.lt_trichotomy a b with q | q | q
    · have := List.pairwise_iff_getElem.mp st.2 a b la lb q
      rw [this.1]; simp; omega
    · subst q
      rw [st.1 _ (List.getElem_mem la)]; simp
    · have := List.pairwise_iff_getElem.mp st.2 b a lb la q
      rw [this.2]; simp; omega
  rw [h2, ← key, range_sorted _ σ h1, ← er]
mutual
theorem Reads.lt {h : Heap} : ∀ (d : PyData) (v : Value) (as : List Addr), PySem.W.alike d d = true → Reads h v d as → ∀ a ∈ as, a < h.objs.size
  | .none, _, _, _, r, a, ha => by cases r; cases ha
  | .bool _, _, _, _, r, a, ha => by cases r; cases ha
  | .int _, _, _, _, r, a, ha => by cases r; cases ha
  | .str _, _, _, _, r, a, ha => by cases r; cases ha
  | .list xs, _, _, hal, r, a, ha => by
    cases r with
    | list h1 h2 h3 h4 =>
      rcases List.mem_cons.mp ha with rfl | ha
      · exact Heap.lt_size h1
      · exact ReadsAll.lt xs _ _ (by simpa [PySem.W.alike] using hal) h4 a ha
  | .tuple xs, _, _, hal, r, a, ha => by
    cases r with
    | tuple h1 h2 h3 h4 => exact ReadsAll.lt xs _ _ (by simpa [PySem.W.alike] using hal) h4 a ha
  | .dict _, _, _, hal, _, _, _ => absurd hal (by simp [PySem.W.alike])
theorem ReadsAll.lt {h : Heap} : ∀ (ds : List PyData) (vs : List Value) (as : List Addr), PySem.W.alikeAll ds ds = true → ReadsAll h vs ds as → ∀ a ∈ as, a < h.objs.size
  | [], _, _, _, r, a, ha => by cases r; cases ha
  | d :: ds, _, _, hal, r, a, ha => by
    cases r with
    | cons h1 h2 =>
      rcases List.mem_append.mp ha with ha | ha
      · exact Reads.lt d _ _ (PySem.W.alike_all_cons hal).1 h1 a ha
      · exact ReadsAll.lt ds _ _ (PySem.W.alike_all_cons hal).2 h2 a ha
end
section
variable {X : Cx} {T : Tb} {W : WX} {pos : Pos} {pins : List (Addr × Obj)} {σ : L2.St} {H : Hp} {s : Shared}
theorem each_pairs {G : Hp} {K : PySem.W.Frag} : ∀ {bs : List (Value × D)}, (∀ p ∈ bs, RU K G p.1 p.2) → PySem.W.EachIs (RU K G) (bs.map (·.1)) (bs.map (·.2))
  | [], _ => .nil
  | p :: bs, h => .cons (h p List.mem_cons_self) (each_pairs fun q hq => h q (List.mem_cons_of_mem _ hq))
/-- for the kernel: rising from place to place -/
def chainB : List D → Bool
  | x :: y :: l => ltF x y && chainB (y :: l)
  | _ => true
theorem chain_lt : ∀ (l : List D) (x : D), chainB (x :: l) = true → ∀ y ∈ l, PySem.W.dataLt (toPy x) (toPy y) = true
  | [], _, _, y, hy => by cases hy
  | z :: l, x, h, y, hy => by
    have h' : (ltF x z && chainB (z :: l)) = true := h
    rw [Bool.and_eq_true, ltF_eq] at h'
    rcases List.mem_cons.mp hy with rfl | hy
    · exact h'.1
    · exact PyProof.Rows.lex_trans (O := itemOrd) _ _ _ h'.1 (chain_lt l z h'.2 y hy)
theorem chain_pair : ∀ (l : List D), chainB l = true → l.Pairwise fun x y => PySem.W.dataLt (toPy x) (toPy y) = true
  | [], _ => .nil
  | x :: l, h => by
    refine .cons (chain_lt l x h) (chain_pair l ?_)
    cases l with
    | nil => rfl
    | cons y l =>
      have h' : (ltF x y && chainB (y :: l)) = true := h
      rw [Bool.and_eq_true] at h'
      exact h'.2
theorem lt_irr (x : D) : PySem.W.dataLt (toPy x) (toPy x) = false := PyProof.Rows.lex_irrefl (O := itemOrd) _
theorem lt_asym {x y : D} (h : PySem.W.dataLt (toPy x) (toPy y) = true) : PySem.W.dataLt (toPy y) (toPy x) = false := by
  cases q : PySem.W.dataLt (toPy y) (toPy x) with
  | false => rfl
  | true =>
    have := PyProof.Rows.lex_trans (O := itemOrd) _ _ _ h q
    have e := lt_irr x
    unfold PySem.W.dataLt at e
    rw [this] at e
    cases e
theorem chain_strict {l : List D} (h : chainB l = true) : strictB l = true := by
  simp only [strictB, Bool.and_eq_true, decide_eq_true_eq, List.all_eq_true]
  refine ⟨fun x _ => by unfold leD; rw [lt_irr]; rfl, (chain_pair l h).imp fun {a b} hab => ⟨by unfold leD; rw [lt_asym hab]; rfl, by unfold leD; rw [hab]; rfl⟩⟩
mutual
def kTok : NestedKey → List (Int ⊕ List Nat)
  | .none => []
  | .num i => [.inl i]
  | .text x => [.inr x.cps.toList]
  | .tup l => kToks l
def kToks : List NestedKey → List (Int ⊕ List Nat)
  | [] => [.inl 0]
  | k :: l => .inl 1 :: (kTok k ++ kToks l)
end
mutual
theorem nk_tok : ∀ (d : D) (k : NestedKey), nkD d = some k → PySem.W.keyToks (toPy d) = kTok k
  | .non, k, e => by cases e; simp [toPy, PySem.W.keyToks, kTok]
  | .bl b, k, e => by cases e; simp [toPy, PySem.W.keyToks, kTok]
  | .int i, k, e => by cases e; simp [toPy, PySem.W.keyToks, kTok]
  | .str x, k, e => by cases e; simp [toPy, PySem.W.keyToks, kTok]
  | .tup l, k, e => by
    have e : (nkDs l).map NestedKey.tup = some k := by simpa only [nkD] using e
    cases q : nkDs l with
    | none => rw [q] at e; cases e
    | some ks =>
      rw [q] at e; cases e
      simp only [toPy, PySem.W.keyToks, kTok]
      exact nks_tok l ks q
  | .lst _, k, e => by simp [nkD] at e
  | .scr _, k, e => by simp [nkD] at e
  | .dic _ _, k, e => by simp [nkD] at e
theorem nks_tok : ∀ (l : List D) (ks : List NestedKey), nkDs l = some ks → PySem.W.keyToksAll (toPys l) = kToks ks
  | [], ks, e => by cases e; simp [toPys, PySem.W.keyToksAll, kToks]
  | d :: l, ks, e => by
    unfold nkDs at e
    cases q1 : nkD d with
    | none => rw [q1] at e; cases e
    | some k =>
      cases q2 : nkDs l with
      | none => rw [q1, q2] at e; cases e
      | some ks' =>
        rw [q1, q2] at e
        cases e
        simp only [toPys, PySem.W.keyToksAll, kToks]
        rw [nk_tok d k q1, nks_tok l ks' q2]
end
theorem ddK_nd {α : Type} {ks : List (α × NestedKey)} (h : (ks.map (·.2)).Nodup) : ddK ks = ks := by
  have : ∀ (ks L : List (α × NestedKey)), ((L ++ ks).map (·.2)).Nodup → ks.foldl ddS L = L ++ ks := by
    intro ks
    induction ks with
    | nil => intro L _; simp
    | cons p ks ih =>
      intro L h
      rw [List.foldl_cons]
      have e : ddS L p = L ++ [p] := by
        unfold ddS
        rw [if_neg]
        intro hm
        rw [List.map_append, List.map_cons, List.nodup_append] at h
        exact h.2.2 _ hm _ List.mem_cons_self rfl
      rw [e, ih (L ++ [p]) (by simpa using h)]
      simp
  simpa [ddK] using this ks [] (by simpa using h)
theorem pairsD_cons {d : D} {l : List D} {ps} (h : pairsD (d :: l) = some ps) : ∃ k ps', nkD d = some k ∧ pairsD l = some ps' ∧ ps = (d, k) :: ps' := by
  unfold pairsD at h
  cases q1 : nkD d with
  | none => rw [q1] at h; cases h
  | some k =>
    cases q2 : pairsD l with
    | none => rw [q1, q2] at h; cases h
    | some ps' => rw [q1, q2] at h; cases h; exact ⟨k, ps', rfl, rfl, rfl⟩
theorem pairs_fst : ∀ {l : List D} {ps}, pairsD l = some ps → ps.map (·.1) = l
  | [], ps, h => by cases h; rfl
  | d :: l, ps, h => by
    obtain ⟨k, ps', _, h2, rfl⟩ := pairsD_cons h
    rw [List.map_cons, pairs_fst h2]
theorem pairs_nk : ∀ {l : List D} {ps}, pairsD l = some ps → ∀ p ∈ ps, p.1 ∈ l ∧ nkD p.1 = some p.2
  | [], ps, h, p, hp => by cases h; cases hp
  | d :: l, ps, h, p, hp => by
    obtain ⟨k, ps', h1, h2, rfl⟩ := pairsD_cons h
    rcases List.mem_cons.mp hp with rfl | hp
    · exact ⟨List.mem_cons_self, h1⟩
    · exact ⟨List.mem_cons_of_mem _ (pairs_nk h2 p hp).1, (pairs_nk h2 p hp).2⟩
theorem pairs_nd : ∀ {l : List D} {ps}, pairsD l = some ps → (l.Pairwise fun x y => PySem.W.dataLt (toPy x) (toPy y) = true) → (ps.map (·.2)).Nodup
  | [], ps, h, _ => by cases h; exact .nil
  | d :: l, ps, h, hp => by
    obtain ⟨k, ps', h1, h2, rfl⟩ := pairsD_cons h
    cases hp with
    | cons a b =>
      refine .cons (fun k' hk' e => ?_) (pairs_nd h2 b)
      obtain ⟨p, hp, rfl⟩ := List.mem_map.mp hk'
      dsimp only at e
      subst e
      obtain ⟨hm, hn⟩ := pairs_nk h2 p hp
      have h3 := a _ hm
      unfold PySem.W.dataLt at h3
      rw [nk_tok _ _ h1, nk_tok _ _ hn, PyProof.Rows.lex_irrefl (O := itemOrd)] at h3
      cases h3
/-- for the kernel: a list that rises already -/
def fastS (l : List D) : Bool := sortOkF l && chainB l && (match pairsD l with | some ps => setOk ps | none => false)
def ssortL (l : List D) : Option (List D) := if fastS l then some l else match setL l with
  | some u => if sortOkF u && chainB (srt leF u) then some (srt leF u) else none
  | none => none
theorem ssortL_some {l r : List D} (h : ssortL l = some r) : ∃ u, setL l = some u ∧ sortOk u = true ∧ strictB (u.mergeSort leD) = true ∧ r = u.mergeSort leD := by
  unfold ssortL at h
  split at h
  · rename_i hf
    cases h
    simp only [fastS, Bool.and_eq_true] at hf
    obtain ⟨⟨h1, h2⟩, h3⟩ := hf
    cases q : pairsD l with
    | none => rw [q] at h3; cases h3
    | some ps =>
      rw [q] at h3
      have h3 : setOk ps = true := h3
      have hp := chain_pair l h2
      have e : setL l = some l := by
        unfold setL
        rw [q]
        show (if setOk ps = true then _ else _) = _
        rw [if_pos h3, ddK_nd (pairs_nd q hp), pairs_fst q]
      have hs : l.mergeSort leD = l := List.mergeSort_of_pairwise (hp.imp fun {a b} hab => by unfold leD; rw [lt_asym hab]; rfl)
      rw [sortOkF_eq] at h1
      exact ⟨l, e, h1, by rw [hs]; exact chain_strict h2, hs.symm⟩
  · cases q : setL l with
    | none => rw [q] at h; cases h
    | some u =>
      rw [q] at h
      dsimp only at h
      split at h
      · rename_i hc
        cases h
        rw [Bool.and_eq_true, sortOkF_eq, leF_eq, srt_eq] at hc
        exact ⟨u, rfl, hc.1, chain_strict hc.2, by rw [leF_eq, srt_eq]⟩
      · cases h
/-- sorted(set): the set at S -/
theorem call_sortedSet {G : Hp} (hG : ExtN G H) {A : Around} {E : Value → Shared → Prop} {S : Addr} {L : KL} {bs : List (Value × D)} {u : List D} {Q : Value → Shared → Prop} (I : Inv X pins σ H s) (hh : A.handled = none) (hu : A.units + 100 < cLine)
    (hL : SetObj X.w s.heap S L) (pm : (L.map (·.1)).Perm (bs.map (·.1))) (eu : bs.map (·.2) = u) (hb : ∀ p ∈ bs, RU X.K G p.1 p.2) (ok : sortOk u = true) (st : strictB (u.mergeSort leD) = true)
    (hQ : ∀ s' p ys, Inv X pins σ (upd H p (.lst ys)) s' → H p = none → Reps X.K G (u.mergeSort leD) ys → Q (.ref p) s') :
    wpAny (model X.prog X.w) A (call (.builtin "sorted") [.ref S]) Q E s := by
  obtain ⟨o, es, ep, t, ho, hex, hd, hf, hr, hl, pe, hsz⟩ := hL.ex
  refine Calls.call_function_entry kind_sorted plain_sorted entry_sorted (args_sorted1 _) ?_
  unfold Builtin.«sorted»
  refine wpAny_bind (m := checkCount "sorted" 1 1 _) (wpAny_pure ?_)
  refine wpAny_bind (collect_set (A := A.in1) hh ⟨o, ho, hex.1, hd⟩ hf hsz hr hl fun s1 vs k1 hz g1 o1 pv => ?_)
  have pvb : vs.Perm (bs.map (·.1)) := by
    refine (pv.trans ?_).trans pm
    have := pe.map (·.2)
    rw [List.map_map] at this
    exact this
  obtain ⟨cs, pc, rfl⟩ := perm_lift _ pvb
  have hlen : cs.length = u.length := by rw [pc.length_eq, ← eu, List.length_map]
  have hcl : cs.length ≤ sizeLine := by
    have h1 : cs.length = es.size := by
      have := pv.length_eq
      rw [List.length_map, List.length_map, Array.length_toList] at this
      exact this
    rw [h1]; exact fits_of_scanBound hsz
  have pcu : (cs.map (·.2)).Perm u := by rw [← eu]; exact pc.map _
  have hc : ∀ p ∈ cs, RU X.K G p.1 p.2 := fun p hp => hb p (pc.mem_iff.mp hp)
  refine wpAny_bind (wpAny_newList ?_ (by rw [List.length_map]; exact hcl))
  have hoL : (s1.heap.push (seqObj "list" (cs.map (·.1)).toArray 0)).get? s1.heap.objs.size = some (seqObj "list" (cs.map (·.1)).toArray 0) := Heap.get?_push_size _ rfl
  simp only [sortOk, Bool.and_eq_true, decide_eq_true_eq] at ok
  obtain ⟨⟨⟨c1, c2⟩, c3⟩, c4⟩ := ok
  have c3' : PySem.W.AllAlike (u.map toPy) := fun x hx y hy => by
    rw [← toPys_map] at hx hy
    exact List.all_eq_true.mp (List.all_eq_true.mp c3 x hx) y hy
  have mem_u : ∀ {d}, d ∈ cs.map (·.2) → d ∈ u := fun hd => pcu.mem_iff.mp hd
  have ker : PySem.W.EachIs (fun v d => ∃ as, Reads (s1.heap.push (seqObj "list" (cs.map (·.1)).toArray 0)) v (toPy d) as ∧ s1.heap.objs.size ∉ as) (cs.map (·.1)) (cs.map (·.2)) := by
    have : ∀ l : List (Value × D), (∀ p ∈ l, p ∈ cs) → PySem.W.EachIs (fun v d => ∃ as, Reads (s1.heap.push (seqObj "list" (cs.map (·.1)).toArray 0)) v (toPy d) as ∧ s1.heap.objs.size ∉ as) (l.map (·.1)) (l.map (·.2)) := by
      intro l
      induction l with
      | nil => intro _; exact .nil
      | cons p l ih =>
        intro hl
        refine .cons ?_ (ih fun q hq => hl q (List.mem_cons_of_mem _ hq))
        have hp := hl p List.mem_cons_self
        have hpu : p.2 ∈ u := mem_u (List.mem_map.mpr ⟨p, hp, rfl⟩)
        obtain ⟨x, rx, hx⟩ := hc p hp
        obtain ⟨as, r⟩ := Dp.reads I _ x _ (Rep.dp p.2 x (nods_mem c1 _ hpu) (Rep.ext hG _ _ hx)).1 rx
        have hal : PySem.W.alike (toPy p.2) (toPy p.2) = true := c3' _ (List.mem_map.mpr ⟨_, hpu, rfl⟩) _ (List.mem_map.mpr ⟨_, hpu, rfl⟩)
        refine ⟨as, PyProof.Rows.Reads.keeps (fun b o e => Heap.get?_push_of_some _ (k1 b o e)) r, fun hm => ?_⟩
        exact absurd hz (Nat.not_le_of_lt (Reads.lt _ _ _ hal r _ hm))
    exact this cs fun p hp => hp
  have ker2 : PySem.W.EachIs (RU X.K G) (cs.map (·.1)) (cs.map (·.2)) := each_pairs hc
  refine wpAny_bind (wpAny_holding (PySem.W.list_sort_data (s := { s1 with heap := s1.heap.push (seqObj "list" (cs.map (·.1)).toArray 0) }) (β := D) (enc := toPy) (R := RU X.K G) hoL ker2 ker ?_ ?_ (by rw [List.length_map]; exact hcl) ?_ fun out hol hout => ?_))
  · intro x hx y hy
    have h1 := (pcu.map toPy)
    exact c3' x (h1.mem_iff.mp hx) y (h1.mem_iff.mp hy)
  · have h1 := (pcu.map toPy)
    rw [Bool.or_eq_true] at c4
    rcases c4 with c4 | c4
    · refine .inl fun d hd => ?_
      have hd := h1.mem_iff.mp hd
      rw [← toPys_map] at hd
      have := List.all_eq_true.mp c4 d hd
      clear hd
      cases d with
      | tuple t =>
        cases t with
        | nil => simp [isTupNE] at this
        | cons x r => exact ⟨x, r, rfl⟩
      | _ => simp [isTupNE] at this
    · refine .inr fun d hd => ?_
      have hd := h1.mem_iff.mp hd
      rw [← toPys_map] at hd
      have := List.all_eq_true.mp c4 d hd
      cases d <;> simp [notTupN] at this ⊢
  · intro d hd
    have h1 := dep_py d
    have h2 := deps_mem (mem_u hd)
    simp only [Around.in1_units]
    omega
  · have es : (cs.map (·.2)).mergeSort (PySem.W.dataLe false toPy) = u.mergeSort leD := sort_of_perm (pcu.trans (List.mergeSort_perm u leD).symm) st
    rw [es] at hout
    obtain ⟨ys, v1, v2⟩ := each_back hout
    obtain ⟨c, hcc⟩ := sortedHeap_at (vs := cs.map (·.1)) (out := out.toArray) hoL
    have np : H s1.heap.objs.size = none := I.hok.fresh hz
    have keep : ∀ b u, s.heap.get? b = some u → (sortedHeap (s1.heap.push (seqObj "list" (cs.map (·.1)).toArray 0)) s1.heap.objs.size (cs.map (·.1)) out.toArray).get? b = some u := fun b u e => by
      have q := k1 b u e
      have hlt := Heap.lt_size q
      rw [sortedHeap_old (Nat.ne_of_lt hlt) (by rw [size_push']; exact Nat.lt_succ_of_lt hlt)]
      exact Heap.get?_push_of_some _ q
    have hyl : ys.length ≤ sizeLine := by
      rw [v2.length, List.length_mergeSort, ← hlen]; exact hcl
    have J : Inv X pins σ (upd H s1.heap.objs.size (.lst ys)) { s with heap := sortedHeap (s1.heap.push (seqObj "list" (cs.map (·.1)).toArray 0)) s1.heap.objs.size (cs.map (·.1)) out.toArray, gens := s1.gens, drawn := s1.drawn, toks := s1.toks } :=
      I.call (ch := []) (Un.laid keep hz np) (I.hok.laid keep hz ⟨hyl, out, c, v1, hcc⟩) (by rw [g1]; exact I.bare) (fun _ z => nomatch z)
    refine wpAny_pure ⟨_, rfl, ?_⟩
    have e : ({ s1 with heap := sortedHeap (s1.heap.push (seqObj "list" (cs.map (·.1)).toArray 0)) s1.heap.objs.size (cs.map (·.1)) out.toArray } : Shared) = { s with heap := sortedHeap (s1.heap.push (seqObj "list" (cs.map (·.1)).toArray 0)) s1.heap.objs.size (cs.map (·.1)) out.toArray, gens := s1.gens, drawn := s1.drawn, toks := s1.toks } := by
      cases s1
      cases s
      cases o1
      rfl
    show Q (.ref s1.heap.objs.size) { s1 with heap := sortedHeap (s1.heap.push (seqObj "list" (cs.map (·.1)).toArray 0)) s1.heap.objs.size (cs.map (·.1)) out.toArray }
    rw [e]
    exact hQ _ _ ys J np v2
end
end Py
end
section
set_option maxHeartbeats 2000000
namespace Py
open PySem PySem.Spec PyProof.Rows L2 LamX
section
variable {X : Cx} {T : Tb} {W : WX} {pos : Pos}
def ssD (d : D) : RR D := match d with
  | .lst l => (RR.of (ssortL l)) >>= fun r => .ok (.lst r)
  | .tup l => (RR.of (ssortL l)) >>= fun r => .ok (.lst r)
  | _ => .bad
def lsD (d : D) : RR D := match d with
  | .lst l => (RR.of (setL l)) >>= fun r => .ok (.int r.length)
  | .tup l => (RR.of (setL l)) >>= fun r => .ok (.int r.length)
  | _ => .bad
theorem d_sset {e : Expr} {p p2 q : Pos} {m : Md} {f : Env → RR D} (hc : X.calm = true) (hu : X.A.units + 200 < cLine) (hg : Gl X "sorted") (hm : X.mg "sorted" = none) (hg2 : Gl X "set") (hm2 : X.mg "set" = none) (hs : notStar e = true) (he : PE X e (tD X.K T W m f)) :
    PE X (.Call (.Name "sorted" p) [.Call (.Name "set" p2) [e] [] q] [] pos) (tD X.K T W .fr fun ρ => f ρ >>= ssD) := by
  refine ⟨fun pins s σ H Q I ⟨ρ, Z, st, p⟩ => ?_⟩
  refine Call_ (ld_blt I hg hm PyProof.Rows.boot_sorted ?_)
  refine PyProof.Rows.callWith_builtin1 (PyProof.Rows.args_cons ?_ rfl) rfl rfl
  refine Call_ (ld_blt I hg2 hm2 PyProof.Rows.boot_set ?_)
  have na := star_of hs [] X.env
  refine PyProof.Rows.callWith_type1 (PyProof.Rows.args_cons (thn (he.run pins s σ H _ I ⟨ρ, Z, st, Post.then p fun d v H1 _ e1 r1 p1 => (show (fun v H1 => ∃ d, Ext T H H1 ∧ RepV X.K Z H H1 m d v ∧ Post X.K T Z W σ H1 .fr Q (ssD d)) v H1 from ⟨d, e1, r1, p1⟩)⟩) fun v s1 ⟨x, H1, I1, rx, d, e1, r1, p1⟩ => PyProof.Rows.args_nil ?_) na) na rfl
  cases d with
  | lst l =>
    dsimp only [ssD] at p1
    cases q0 : ssortL l with
    | none => rw [q0] at p1; exact (show False from p1).elim
    | some r =>
      rw [q0] at p1
      have p1 : Post X.K T Z W σ H1 .fr Q (.ok (.lst r)) := p1
      obtain ⟨u, q1, ok1, ok2, rfl⟩ := ssortL_some q0
      obtain ⟨a, rfl, z, xs, ha, ra⟩ := r1.b
      cases rx
      refine call_setD (G := hide H1 Z) exUnhide I1 (I1.ok.hd hc) (by omega) ha ra q1 fun h' tk L bs hL pm eu hb kp => PyProof.Rows.args_nil ?_
      have I2 : Inv X pins σ H1 { s1 with heap := h', toks := tk } := I1.kept kp
      refine call_sortedSet (G := hide H1 Z) exUnhide I2 (I1.ok.hd hc) (by omega) hL pm eu hb ok1 ok2 fun s' p ys J np rr => ?_
      refine ⟨.ref p, _, J, rfl, p1 _ _ (ext_new e1.tabs np) ⟨p, rfl, .inl np, own_lst ?_ (.inl np) rr⟩⟩
      rw [List.length_mergeSort]
      exact Nat.le_trans (setL_len q1) z
  | tup l =>
    dsimp only [ssD] at p1
    cases q0 : ssortL l with
    | none => rw [q0] at p1; exact (show False from p1).elim
    | some r =>
      rw [q0] at p1
      have p1 : Post X.K T Z W σ H1 .fr Q (.ok (.lst r)) := p1
      obtain ⟨u, q1, ok1, ok2, rfl⟩ := ssortL_some q0
      obtain ⟨z, a, xs, rfl, ha, ra⟩ := r1.b
      cases rx
      refine call_setDT (G := hide H1 Z) exUnhide I1 (I1.ok.hd hc) (by omega) (SqT.ext exUnhide ha) ra q1 fun h' tk L bs hL pm eu hb kp => PyProof.Rows.args_nil ?_
      have I2 : Inv X pins σ H1 { s1 with heap := h', toks := tk } := I1.kept kp
      refine call_sortedSet (G := hide H1 Z) exUnhide I2 (I1.ok.hd hc) (by omega) hL pm eu hb ok1 ok2 fun s' p ys J np rr => ?_
      refine ⟨.ref p, _, J, rfl, p1 _ _ (ext_new e1.tabs np) ⟨p, rfl, .inl np, own_lst ?_ (.inl np) rr⟩⟩
      rw [List.length_mergeSort]
      exact Nat.le_trans (setL_len q1) z
  | _ => exact (show False from p1).elim
theorem d_lset {e : Expr} {p p2 q : Pos} {m : Md} {f : Env → RR D} (hc : X.calm = true) (hu : X.A.units + 200 < cLine) (hg : Gl X "len") (hm : X.mg "len" = none) (hg2 : Gl X "set") (hm2 : X.mg "set" = none) (hs : notStar e = true) (he : PE X e (tD X.K T W m f)) :
    PE X (.Call (.Name "len" p) [.Call (.Name "set" p2) [e] [] q] [] pos) (tD X.K T W .sh fun ρ => f ρ >>= lsD) := by
  refine ⟨fun pins s σ H Q I ⟨ρ, Z, st, p⟩ => ?_⟩
  refine Call_ (ld_blt I hg hm PySem.boot_len ?_)
  refine PyProof.Rows.callWith_builtin1 (PyProof.Rows.args_cons ?_ rfl) rfl rfl
  refine Call_ (ld_blt I hg2 hm2 PyProof.Rows.boot_set ?_)
  have na := star_of hs [] X.env
  refine PyProof.Rows.callWith_type1 (PyProof.Rows.args_cons (thn (he.run pins s σ H _ I ⟨ρ, Z, st, Post.then p fun d v H1 _ e1 r1 p1 => (show (fun v H1 => ∃ d, Ext T H H1 ∧ RepV X.K Z H H1 m d v ∧ Post X.K T Z W σ H1 .sh Q (lsD d)) v H1 from ⟨d, e1, r1, p1⟩)⟩) fun v s1 ⟨x, H1, I1, rx, d, e1, r1, p1⟩ => PyProof.Rows.args_nil ?_) na) na rfl
  cases d with
  | lst l =>
    unfold lsD at p1
    cases q1 : setL l with
    | none => simp only [q1] at p1; exact p1.elim
    | some u =>
      simp only [q1] at p1
      have p1 : Post X.K T Z W σ H1 .sh Q (.ok (.int u.length)) := p1
      obtain ⟨a, rfl, z, xs, ha, ra⟩ := r1.b
      cases rx
      refine call_setD (G := hide H1 Z) exUnhide I1 (I1.ok.hd hc) (by omega) ha ra q1 fun h' tk L bs hL pm eu hb kp => PyProof.Rows.args_nil ?_
      have I2 : Inv X pins σ H1 { s1 with heap := h', toks := tk } := I1.kept kp
      obtain ⟨o, es, ep, t, ho, hex, hd, hf, hr, hl, pe, hsz⟩ := hL.ex
      have hn : es.size = u.length := by
        have h1 := pe.length_eq
        have h2 := pm.length_eq
        rw [List.length_map, Array.length_toList] at h1
        rw [List.length_map, List.length_map] at h2
        rw [h1, h2, ← eu, List.length_map]
      refine call_len_set ho hex hd hf (by unfold scanBound at hsz; omega) ⟨.int u.length, H1, I2.tok _, ⟨_, by rw [hn]⟩, p1 _ H1 (Ext.refl e1.tabs) rfl⟩
  | tup l =>
    unfold lsD at p1
    cases q1 : setL l with
    | none => simp only [q1] at p1; exact p1.elim
    | some u =>
      simp only [q1] at p1
      have p1 : Post X.K T Z W σ H1 .sh Q (.ok (.int u.length)) := p1
      obtain ⟨z, a, xs, rfl, ha, ra⟩ := r1.b
      cases rx
      refine call_setDT (G := hide H1 Z) exUnhide I1 (I1.ok.hd hc) (by omega) (SqT.ext exUnhide ha) ra q1 fun h' tk L bs hL pm eu hb kp => PyProof.Rows.args_nil ?_
      have I2 : Inv X pins σ H1 { s1 with heap := h', toks := tk } := I1.kept kp
      obtain ⟨o, es, ep, t, ho, hex, hd, hf, hr, hl, pe, hsz⟩ := hL.ex
      have hn : es.size = u.length := by
        have h1 := pe.length_eq
        have h2 := pm.length_eq
        rw [List.length_map, Array.length_toList] at h1
        rw [List.length_map, List.length_map] at h2
        rw [h1, h2, ← eu, List.length_map]
      refine call_len_set ho hex hd hf (by unfold scanBound at hsz; omega) ⟨.int u.length, H1, I2.tok _, ⟨_, by rw [hn]⟩, p1 _ H1 (Ext.refl e1.tabs) rfl⟩
  | _ => exact (show False from p1).elim
end
end Py
end
section
set_option maxHeartbeats 2000000
namespace Py
open PySem PySem.Spec PyProof.Rows L2 LamX
section
variable {X : Cx} {T : Tb} {W : WX} {pos : Pos} {tg : Expr}
/-! ### zip -/
def zipL : List D → List D → List D
  | a :: l, b :: r => .tup [a, b] :: zipL l r
  | _, _ => []
theorem zipL_len : ∀ (l r : List D), (zipL l r).length = min l.length r.length
  | [], r => by simp [zipL]
  | a :: l, [] => by simp [zipL]
  | a :: l, b :: r => by simp [zipL, zipL_len l r]
theorem zipL_get : ∀ {l r : List D} {i : Nat} {a b : D}, l[i]? = some a → r[i]? = some b → (zipL l r)[i]? = some (.tup [a, b])
  | [], r, i, a, b, h, _ => by simp at h
  | _ :: l, [], i, a, b, _, h => by simp at h
  | x :: l, y :: r, 0, a, b, h1, h2 => by
    simp at h1 h2; subst h1 h2; rfl
  | x :: l, y :: r, i + 1, a, b, h1, h2 => by
    simp at h1 h2
    simpa [zipL] using zipL_get h1 h2
theorem pair_rep {K : PySem.W.Frag} {G : Hp} {l r : List D} {xs ys : List V} (hl : Reps K G l xs) (hr : Reps K G r ys) : ∀ i H x H' Z, i < min l.length r.length → ExtN G (hide H Z) → Tabs T H → (∀ a, Z a = true → ¬ FreshAt H a) → YPair (fun i => xs[i]?) (fun i => ys[i]?) i H x H' →
    ∃ d, (zipL l r)[i]? = some d ∧ Ext T H H' ∧ Rep K (hide H' Z) d x := by
  rintro i H x H' Z hi e t hz ⟨p, u, v, rfl, np, rfl, h1, h2⟩
  obtain ⟨d1, a1, a2⟩ := hl.getV h1
  obtain ⟨d2, b1, b2⟩ := hr.getV h2
  refine ⟨_, zipL_get a1 b1, ext_new t np, rep_tup t hz np (by show 2 ≤ sizeLine; decide) ⟨u, [v], rfl, Rep.ext e _ _ a2, v, [], rfl, Rep.ext e _ _ b2, rfl⟩⟩
theorem walkL {K : PySem.W.Frag} {G F : Hp} {a b : Addr} {l r : List D} {xs ys : List V} (ha : F a = some (.lst xs) ∨ G a = some (.lst xs)) (hb : F b = some (.lst ys) ∨ G b = some (.lst ys)) (hl : Reps K G l xs) (hr : Reps K G r ys) : WalkD K T G F (Itz K a b) (zipL l r) := by
  have go : ∀ {a : Addr} {xs : List V} {H : Hp} {Z : Addr → Bool}, (F a = some (.lst xs) ∨ G a = some (.lst xs)) → ExtN G (hide H Z) → ExtN F H → SqL K H a xs := fun h g f => by
    rcases h with h | h
    · exact SqL.of (f _ _ h fun ps q => by cases q)
    · exact SqL.ext exUnhide (SqL.of (g _ _ h fun ps q => by cases q))
  refine ⟨_, _, walk_zip (by rw [zipL_len, hl.length, hr.length]), fun H Z g f => ⟨go ha g f, go hb g f⟩, fun i H x H' Z hi g _ t hz y => pair_rep hl hr i H x H' Z (by rw [zipL_len] at hi; exact hi) g t hz y⟩
theorem walk_zipT {K : PySem.W.Frag} {a b : Addr} {xs ys : List V} {n : Nat} (hn : n = min xs.length ys.length) : Walk (RZ.ItzT K a b) n (fun H => SqT K H a xs ∧ SqT K H b ys) (YPair (fun i => xs[i]?) (fun i => ys[i]?)) := by
  subst hn
  refine ⟨fun i _ hi q => ?_, fun _ q => ⟨xs, ys, q.1, q.2, by omega⟩, fun i H v H' _ q y => ?_⟩
  · have h1 : i < xs.length := by omega
    have h2 : i < ys.length := by omega
    exact ⟨xs, ys, xs[i], ys[i], q.1, q.2, by simp [h1], by simp [h2]⟩
  · obtain ⟨T, x, z, h1, h2, h3, h4, h5⟩ := y
    exact ⟨T, x, z, h1, h2, h3, h4 xs q.1, h5 ys q.2⟩
theorem walkT {K : PySem.W.Frag} {G F : Hp} {a b : Addr} {l r : List D} {xs ys : List V} (ha : SqT K G a xs) (hb : SqT K G b ys) (hl : Reps K G l xs) (hr : Reps K G r ys) : WalkD K T G F (RZ.ItzT K a b) (zipL l r) :=
  ⟨_, _, walk_zipT (by rw [zipL_len, hl.length, hr.length]), fun H Z g f => ⟨SqT.ext exUnhide (SqT.ext g ha), SqT.ext exUnhide (SqT.ext g hb)⟩, fun i H x H' Z hi g _ t hz y => pair_rep hl hr i H x H' Z (by rw [zipL_len] at hi; exact hi) g t hz y⟩
/-! ### list(range(n)) -/
theorem d_lrng {e : Expr} {p p2 q : Pos} {m : Md} {f : Env → RR D} (hc : X.calm = true) (hg : Gl X "list") (hm : X.mg "list" = none) (hg2 : Gl X "range") (hm2 : X.mg "range" = none) (hs : notStar e = true) (he : PE X e (tD X.K T W m f)) :
    PE X (.Call (.Name "list" p) [.Call (.Name "range" p2) [e] [] q] [] pos) (tD X.K T W .fr fun ρ => f ρ >>= fun d => rng1D d >>= fun l => .ok (.lst l)) := by
  refine peImp (pe_listRg hc hg hm (prg_1 hg2 hm2 he (star_of hs [] X.env))) fun σ H Q ⟨ρ, Z, st, p⟩ => ⟨ρ, Z, st, Post.then p fun d v H1 _ e1 r1 p1 => ?_⟩
  cases d with
  | int b =>
    have e2 : v = .int b := r1.b
    subst e2
    have p1 : Post X.K T Z W σ H1 .fr Q ((if rngOk 0 b then RR.ok (rangeD 0 b) else .bad) >>= fun l => .ok (.lst l)) := p1
    split at p1
    · rename_i hc
      simp only [rngOk, Bool.and_eq_true, decide_eq_true_eq] at hc
      have hc2 := hc.2
      unfold lim at hc2
      refine ⟨b, rfl, ⟨by omega, by omega, by omega, by omega, hc2⟩, fun a na => p1 _ _ (ext_new e1.tabs na) ⟨a, rfl, .inl na, own_lst (by unfold rangeD; rw [List.length_map, List.length_range, lim_eq]; exact hc.2) (.inl na) ?_⟩⟩
      unfold rangeD rgV
      generalize List.range (b - 0).toNat = l
      induction l with
      | nil => rfl
      | cons i l ih => exact ⟨_, _, rfl, rfl, ih⟩
    · exact p1.elim
  | _ => exact (show False from p1).elim
end
end Py
end
section
set_option maxHeartbeats 2000000
namespace Py
open PySem PySem.Spec PyProof.Rows L2 LamX
/-! ### zip of a list and a tuple -/
/-- a tuple, a list -/
def SqK : Bool → PySem.W.Frag → Hp → Addr → List V → Prop
  | true => SqT
  | false => SqL
def IterK : Bool → Heap → Addr → Addr → Nat → Prop
  | true => fun h it a i => h.IsTupleIter it a i
  | false => fun h it a i => h.IsListIter it a i
def SeqK : Bool → Heap → Addr → Array Value → Prop
  | true => fun h a its => h.IsTuple a its
  | false => fun h a its => h.IsList a its
def itNm : Bool → String
  | true => "tuple_iterator"
  | false => "list_iterator"
theorem IterK.obj {t : Bool} {h : Heap} {it a : Addr} {i : Nat} (x : IterK t h it a i) : ∃ o, h.get? it = some o ∧ ∀ v, o.data ≠ .cell v := by
  cases t
  all_goals
    obtain ⟨o, e, _, d⟩ := x
    exact ⟨o, e, fun v q => by rw [d] at q; cases q⟩
theorem IterK.keep {t : Bool} {h h' : Heap} {it a : Addr} {i : Nat} (x : IterK t h it a i) (k : ∀ o, h.get? it = some o → h'.get? it = some o) : IterK t h' it a i := by
  cases t
  · exact (show h.IsListIter it a i from x).at k
  · exact (show h.IsTupleIter it a i from x).at k
theorem drawsK {prog : Program} {w : World} {A : Around} (hh : A.handled = none) (t : Bool) (it l : Addr) (hne : l ≠ it) (items : Array Value) :
    Draws prog w A it [it, l] items.size (fun i v => items[i]? = some v) (fun i h => IterK t h it l i ∧ SeqK t h l items) := by
  cases t
  · exact Draws.list hh it l hne items
  · exact Draws.tuple hh it l hne items
theorem beginsK (t : Bool) (a : Addr) (items : Array Value) : Begins (.ref a) { cls := .type (itNm t), data := .fields #[.ref a, .int 0 0] } fun h => SeqK t h a items := by
  cases t
  · exact begins_list a items
  · exact begins_tuple a items
theorem iterK0 {t : Bool} {h : Heap} {it a : Addr} (e : h.get? it = some { cls := .type (itNm t), data := .fields #[.ref a, .int 0 0] }) : IterK t h it a 0 := by
  cases t <;> exact ⟨_, e, rfl, rfl⟩
section
variable {X : Cx} {pins : List (Addr × Obj)} {σ : L2.St} {H : Hp} {s : Shared}
theorem seqK {t : Bool} {a : Addr} {xs : List V} (I : Inv X pins σ H s) (h : SqK t X.K H a xs) : ∃ its : List Value, Vals xs its ∧ SeqK t s.heap a its.toArray ∧ xs.length ≤ sizeLine ∧ a < s.heap.objs.size := by
  cases t
  · obtain ⟨its, r, p, hl⟩ := I.list h
    exact ⟨its, r, p.isList, hl, p.lt⟩
  · obtain ⟨its, r, p, hl⟩ := I.tuple h
    refine ⟨its, r, p, hl, ?_⟩
    obtain ⟨o, ho, _⟩ := p
    exact Heap.lt_size ho
theorem sqK_inj {t : Bool} {a : Addr} {xs ys : List V} (I : Inv X pins σ H s) (h : SqK t X.K H a xs) (h' : SqK t X.K H a ys) : xs = ys := by
  cases t
  · exact I.list_inj h h'
  · exact I.tuple_inj h h'
end
/-- both as they stand at each turn, the items in new pairs -/
def ItzK (t1 t2 : Bool) (K : PySem.W.Frag) (a b : Addr) : It :=
  ⟨fun i H => ∃ (xs ys : List V) (x y : V), SqK t1 K H a xs ∧ SqK t2 K H b ys ∧ xs[i]? = some x ∧ ys[i]? = some y,
    fun i H v H' => ∃ T x y, v = .ref T ∧ H T = none ∧ H' = upd H T (.tup [x, y]) ∧ (∀ xs, SqK t1 K H a xs → xs[i]? = some x) ∧ ∀ ys, SqK t2 K H b ys → ys[i]? = some y,
    fun i H => ∃ xs ys : List V, SqK t1 K H a xs ∧ SqK t2 K H b ys ∧ i ≤ xs.length ∧ i ≤ ys.length ∧ (i = xs.length ∨ i = ys.length)⟩
theorem turn_zipK {P : Program} {w : World} {K : PySem.W.Frag} {elts : List Expr} {kk : Nat} {tpos : Pos} {t1 t2 : Bool} {a b z TI TO i1 i2 : Addr} (D : ZipApart z TI TO i1 i2 a b) (hab1 : a ≠ i1) (hab2 : b ≠ i2) (hab3 : a ≠ i2) (hab4 : b ≠ i1) :
    Turn P w K (.Tuple elts kk tpos) (ItzK t1 t2 K a b) [z, TI, TO, i1, i2] z (fun i h => IsZip h z TI TO .none ∧ IsPair h TI (.ref i1) (.ref i2) ∧ (∃ x y, IsPair h TO x y) ∧ IterK t1 h i1 a i ∧ IterK t2 h i2 b i) where
  mem := by simp
  obj := fun i h st c hc => by
    obtain ⟨hz, hTI, ⟨x, y, hTO⟩, h1, h2⟩ := st
    have e' : c = z ∨ c = TI ∨ c = TO ∨ c = i1 ∨ c = i2 := by simpa using hc
    rcases e' with q | q | q | q | q
    · rw [q]; exact ⟨_, hz, fun v q => nomatch q⟩
    · rw [q]; exact ⟨_, hTI, fun v q => nomatch q⟩
    · rw [q]; exact ⟨_, hTO, fun v q => nomatch q⟩
    · rw [q]; exact h1.obj
    · rw [q]; exact h2.obj
  keep := fun i h h' st k => by
    obtain ⟨hz, hTI, ⟨x, y, hTO⟩, h1, h2⟩ := st
    exact ⟨k z (by simp) _ hz, k TI (by simp) _ hTI, ⟨x, y, k TO (by simp) _ hTO⟩, h1.keep fun o q => k i1 (by simp) o q, h2.keep fun o q => k i2 (by simp) o q⟩
  item := by
    intro X hP hw hK hc i pins s σ H E I hf st hg
    subst hP hw hK
    obtain ⟨hz, hTI, ⟨x0, y0, hTO⟩, h1, h2⟩ := st
    obtain ⟨xs, ys, x, y, hqx, hqy, hx, hy⟩ := hg
    obtain ⟨its, rv, p, _, _⟩ := seqK I hqx
    obtain ⟨its2, rv2, p2, _, _⟩ := seqK I hqy
    obtain ⟨u, hu, ru⟩ := rv.get hx
    obtain ⟨u2, hu2, ru2⟩ := rv2.get hy
    have hzl : z < s.heap.objs.size := Heap.lt_size hz
    have hh : X.A.in1.handled = none := I.ok.hd hc
    have S : ZipSep2 z TI TO i1 i2 [i1, a] [i2, b] := ⟨D.TIz, D.TOz, D.TITO, D.TIi1, by simp, by simp [D.i1z.symm, D.l1z.symm], by simp [D.TOi1, D.l1TO.symm], D.TIi2, by simp, by simp [D.i2z.symm, D.l2z.symm], by simp [D.TOi2, D.l2TO.symm], by simp [D.i12, hab4.symm], by simp [D.i12.symm, hab3.symm]⟩
    refine wpAny_pyNext_zipD2_item S (drawsK hh t1 i1 a hab1 its.toArray) (drawsK hh t2 i2 b hab2 its2.toArray) hz hTI hTO ⟨h1, p⟩ ⟨h2, p2⟩ (by
      have : i < its.length := (List.getElem?_eq_some_iff.mp hu).1
      simpa using this) (by
      have : i < its2.length := (List.getElem?_eq_some_iff.mp hu2).1
      simpa using this) fun x1 x2 h' tk hx1 hx2 z' TO' h1' h2' hT hsz hk => ?_
    have e1 : x1 = u := by
      have : its[i]? = some x1 := by simpa using hx1
      rw [hu] at this; exact (Option.some.inj this).symm
    have e2 : x2 = u2 := by
      have : its2[i]? = some x2 := by simpa using hx2
      rw [hu2] at this; exact (Option.some.inj this).symm
    subst e1 e2
    refine ⟨_, rfl, wpAny_letOwnedTupleGo_zip (s := { s with heap := h', toks := tk }) z' fun h'' z'' sb => ?_⟩
    have hT2 : h''.get? s.heap.objs.size = some { cls := .type "tuple", data := .seq #[x1, x2] } := (sb.2 _ (Nat.ne_of_gt hzl)).trans hT
    have new : ObjOk X.prog X.w (upd H s.heap.objs.size (.tup [x, y])) h'' s.heap.objs.size (.tup [x, y]) :=
      ⟨by show 2 ≤ sizeLine; decide, [x1, x2], .cons ru (.cons ru2 .nil), ⟨_, hT2, rfl, _, rfl⟩⟩
    have I1 : Inv X pins σ (upd H s.heap.objs.size (.tup [x, y])) { s with heap := h'', toks := tk } :=
      I.turnedNew (t' := tk) (ch := [z, TI, TO, i1, i2]) (fun c o hb q => (sb.2 c (fun q' => hb (by simp [q']))).trans (hk c o (fun q' => hb (by simp [q'])) (fun q' => hb (by simp [q'])) (fun q' => hb (by simp [q'])) (fun q' => hb (by simp [q'])) q)) hf (Nat.le_refl _) new
    refine ⟨.ref s.heap.objs.size, _, I1, rfl, ⟨_, x, y, rfl, I.hok.fresh (Nat.le_refl _), rfl, fun l hl => by rw [sqK_inj I hl hqx]; exact hx, fun l hl => by rw [sqK_inj I hl hqy]; exact hy⟩, ⟨z'', ?_, ⟨x1, x2, ?_⟩, ?_, ?_⟩, fun c hcm => ?_⟩
    · exact (sb.2 _ D.TIz).trans (hk _ _ D.TIz D.TITO D.TIi1 D.TIi2 hTI)
    · exact (sb.2 _ D.TOz).trans TO'
    · exact h1'.1.keep fun o q => (sb.2 _ D.i1z).trans q
    · exact h2'.1.keep fun o q => (sb.2 _ D.i2z).trans q
    · have hlt : c < s.heap.objs.size := by
        have e' : c = z ∨ c = TI ∨ c = TO ∨ c = i1 ∨ c = i2 := by simpa using hcm
        rcases e' with q | q | q | q | q
        · rw [q]; exact hzl
        · rw [q]; exact Heap.lt_size hTI
        · rw [q]; exact Heap.lt_size hTO
        · rw [q]; obtain ⟨_, e1, _⟩ := h1.obj; exact Heap.lt_size e1
        · rw [q]; obtain ⟨_, e2, _⟩ := h2.obj; exact Heap.lt_size e2
      rw [upd_ne (Nat.ne_of_lt hlt)]
      exact (hf c hcm).1
  done := by
    intro X hP hw hK hc i pins s σ H E I hf st hg
    subst hP hw hK
    obtain ⟨hz, hTI, ⟨x0, y0, hTO⟩, h1, h2⟩ := st
    obtain ⟨xs, ys, hqx, hqy, hle1, hle2, hend⟩ := hg
    obtain ⟨its, rv, p, _, _⟩ := seqK I hqx
    obtain ⟨its2, rv2, p2, _, _⟩ := seqK I hqy
    have l1 := rv.length
    have l2 := rv2.length
    have hh : X.A.in1.handled = none := I.ok.hd hc
    have S : ZipSep2 z TI TO i1 i2 [i1, a] [i2, b] := ⟨D.TIz, D.TOz, D.TITO, D.TIi1, by simp, by simp [D.i1z.symm, D.l1z.symm], by simp [D.TOi1, D.l1TO.symm], D.TIi2, by simp, by simp [D.i2z.symm, D.l2z.symm], by simp [D.TOi2, D.l2TO.symm], by simp [D.i12, hab4.symm], by simp [D.i12.symm, hab3.symm]⟩
    refine wpAny_pyNext_zipD2_end S (drawsK hh t1 i1 a hab1 its.toArray) (drawsK hh t2 i2 b hab2 its2.toArray) hz hTI hTO ⟨h1, p⟩ ⟨h2, p2⟩ (by simp; omega) (by simp; omega) (by simp; omega) fun h' tk hk => ⟨rfl, I.turnedL (t' := tk) (ch := [z, TI, TO, i1, i2]) (fun c o hb q =>
      hk c o (fun q' => hb (by simp [q'])) (fun q' => hb (by simp [q'])) (fun q' => hb (by simp [q'])) (fun q' => hb (by simp [q'])) q) hf⟩
  self := fun A i s Q E st h => wpAny_pyIter_zip st.1 h
def iZipK (K : PySem.W.Frag) (ta : TA) : TI := fun σ H R => ta σ H fun vs H1 => ∃ t1 t2 a b xs ys, vs = [.ref a, .ref b] ∧ SqK t1 K H1 a xs ∧ SqK t2 K H1 b ys ∧ R (ItzK t1 t2 K a b) H1
theorem pi_zipK {X : Cx} {e e2 : Expr} {ta : TA} {p pos tpos : Pos} {elts : List Expr} {kk : Nat} (hg : Gl X "zip") (hm : X.mg "zip" = none) (ha : PA X [e, e2] ta)
    (hs : starEach [e, e2] X.env = (false, eval e X.env) :: starEach [e2] X.env) (hpl : (backTo pos (starEach [e2] X.env)).any (·.1) = false) :
    PI X (.Tuple elts kk tpos) (.Call (.Name "zip" p) [e, e2] [] pos) (iZipK X.K ta) := by
  refine ⟨fun pins s σ H R I h => ?_⟩
  refine Call_ (ld_blt I hg hm PyProof.Rows.boot_zip (PyProof.Rows.callWith_type1 (thn (ha.run pos pins s σ H _ I h) fun us s1 ⟨vs, H1, I1, r1, q1⟩ => ?_) hs hpl))
  obtain ⟨t1, t2, a, b, xs, ys, rfl, hqx, hqy, q⟩ := q1
  cases r1 with
  | cons r rr =>
    cases rr with
    | cons r' rr =>
      cases rr
      cases r
      cases r'
      obtain ⟨its, rv, p1, _, la⟩ := seqK I1 hqx
      obtain ⟨its2, rv2, p2, _, lb⟩ := seqK I1 hqy
      refine zip_begins2 (beginsK t1 a its.toArray) (beginsK t2 b its2.toArray) p1 p2 fun h' hz hTI hTO h1 h2 hsz hk => wpAny_pyIter_zip hz ?_
      have I2 : Inv X pins σ H1 { s1 with heap := h' } := I1.kept (t' := s1.toks) hk
      refine ⟨s1.heap.objs.size + 4, [s1.heap.objs.size + 4, s1.heap.objs.size + 2, s1.heap.objs.size + 3, s1.heap.objs.size, s1.heap.objs.size + 1], _, _, H1, rfl, I2, turn_zipK (PySem.W.ktu_apart s1.heap.objs.size a b la lb) (Nat.ne_of_lt la) (Nat.ne_of_lt (Nat.lt_succ_of_lt lb)) (Nat.ne_of_lt (Nat.lt_succ_of_lt la)) (Nat.ne_of_lt lb), ⟨hz, hTI, ⟨_, _, hTO⟩, iterK0 h1, iterK0 h2⟩, fun c hcm => ?_, q⟩
      have e' : c = s1.heap.objs.size + 4 ∨ c = s1.heap.objs.size + 2 ∨ c = s1.heap.objs.size + 3 ∨ c = s1.heap.objs.size ∨ c = s1.heap.objs.size + 1 := by simpa using hcm
      have hle : s1.heap.objs.size ≤ c := by
        rcases e' with z | z | z | z | z
        · rw [z]; exact Nat.le_add_right _ _
        · rw [z]; exact Nat.le_add_right _ _
        · rw [z]; exact Nat.le_add_right _ _
        · rw [z]; exact Nat.le_refl _
        · rw [z]; exact Nat.le_add_right _ _
      exact I1.fpOk hle (I1.hok.fresh hle)
theorem SqK.ext {t : Bool} {K : PySem.W.Frag} {G H : Hp} {a : Addr} {xs : List V} (g : ExtN G H) (h : SqK t K G a xs) : SqK t K H a xs := by
  cases t
  · exact SqL.ext g h
  · exact SqT.ext g h
theorem walk_zipK {t1 t2 : Bool} {K : PySem.W.Frag} {a b : Addr} {xs ys : List V} {n : Nat} (hn : n = min xs.length ys.length) : Walk (ItzK t1 t2 K a b) n (fun H => SqK t1 K H a xs ∧ SqK t2 K H b ys) (YPair (fun i => xs[i]?) (fun i => ys[i]?)) := by
  subst hn
  refine ⟨fun i _ hi q => ?_, fun _ q => ⟨xs, ys, q.1, q.2, by omega, by omega, by omega⟩, fun i H v H' _ q y => ?_⟩
  · have h1 : i < xs.length := by omega
    have h2 : i < ys.length := by omega
    exact ⟨xs, ys, xs[i], ys[i], q.1, q.2, by simp [h1], by simp [h2]⟩
  · obtain ⟨T, x, z, h1, h2, h3, h4, h5⟩ := y
    exact ⟨T, x, z, h1, h2, h3, h4 xs q.1, h5 ys q.2⟩
section
variable {X : Cx} {T : Tb} {W : WX} {pos : Pos} {tg : Expr}
theorem walkK {K : PySem.W.Frag} {G F : Hp} {t1 t2 : Bool} {a b : Addr} {l r : List D} {xs ys : List V} (ha : SqK t1 K G a xs) (hb : SqK t2 K G b ys) (hl : Reps K G l xs) (hr : Reps K G r ys) : WalkD K T G F (ItzK t1 t2 K a b) (zipL l r) :=
  ⟨_, _, walk_zipK (by rw [zipL_len, hl.length, hr.length]), fun H Z g f => ⟨SqK.ext exUnhide (SqK.ext g ha), SqK.ext exUnhide (SqK.ext g hb)⟩, fun i H x H' Z hi g _ t hz y => pair_rep hl hr i H x H' Z (by rw [zipL_len] at hi; exact hi) g t hz y⟩
def zipD : D → D → RR (List D)
  | .lst a, .lst b => .ok (zipL a b)
  | .tup a, .tup b => .ok (zipL a b)
  | .lst a, .tup b => .ok (zipL a b)
  | .tup a, .lst b => .ok (zipL a b)
  | _, _ => .bad
theorem zip_end {H2 : Hp} {Z : Addr → Bool} {l r : List D} {v1 v2 : V} {t1 t2 : Bool} {a b : Addr} {xs ys : List V} {R : It → Hp → Prop} (e1 : v1 = .ref a) (e2 : v2 = .ref b) (ha : SqK t1 X.K (hide H2 Z) a xs) (hb : SqK t2 X.K (hide H2 Z) b ys) (ra : Reps X.K (hide H2 Z) l xs) (rb : Reps X.K (hide H2 Z) r ys)
    (p : ∀ J, WalkD X.K T (hide H2 Z) noHp J (zipL l r) → R J H2) : ∃ t1 t2 a b xs ys, [v1, v2] = [V.ref a, V.ref b] ∧ SqK t1 X.K H2 a xs ∧ SqK t2 X.K H2 b ys ∧ R (ItzK t1 t2 X.K a b) H2 := by
  subst e1 e2
  exact ⟨t1, t2, a, b, xs, ys, rfl, SqK.ext exUnhide ha, SqK.ext exUnhide hb, p _ (walkK ha hb ra rb)⟩
theorem src_zip {e1 e2 : Expr} {elts : List Expr} {kk : Nat} {tpos p : Pos} {m1 m2 : Md} {f1 f2 : Env → RR D} (hg : Gl X "zip") (hm : X.mg "zip" = none) (hm1 : m1 ≠ .bo) (hm2 : m2 ≠ .bo) (hs1 : notStar e1 = true) (hs2 : notStar e2 = true) (h1 : PE X e1 (tD X.K T W m1 f1)) (h2 : PE X e2 (tD X.K T W m2 f2)) :
    SrcOk X T W (.Tuple elts kk tpos) (.Call (.Name "zip" p) [e1, e2] [] pos) false (fun ρ => f1 ρ >>= fun a => f2 ρ >>= fun b => zipD a b) := by
  refine ⟨_, pi_zipK hg hm (pa_cons h1 (pa_cons h2 pa_nil (star_of hs2 [] X.env)) (star_of hs1 _ X.env)) (by rw [star_of hs1, star_of hs2]) (by rw [star_of hs2]; rfl), fun σ H R ⟨ρ, Z, st, p⟩ => ⟨ρ, Z, st, ?_⟩⟩
  cases q1 : f1 ρ with
  | ex c => rw [q1] at p; exact p
  | bad => rw [q1] at p; exact p
  | ok d1 =>
    rw [q1] at p
    intro v1 H1 x1 r1
    refine ⟨ρ, Z, st.ext x1, ?_⟩
    cases q2 : f2 ρ with
    | ex c => rw [RR.bind_ok, q2] at p; exact fun H' e' => p H' (x1.trans e')
    | bad => rw [RR.bind_ok, q2] at p; exact p
    | ok d2 =>
      rw [RR.bind_ok, q2, RR.bind_ok] at p
      intro v2 H2 x2 r2
      have hz := st.zdom
      have s1 := (r1.ext x2.ext).sh hm1 hz
      have s2 := r2.sh hm2 (st.ext x1).zdom
      cases d1 with
      | lst l =>
        obtain ⟨z1, a, xs, ev1, ha, ra⟩ := s1
        cases d2 with
        | lst r =>
          obtain ⟨z2, b, ys, ev2, hb, rb⟩ := s2
          exact zip_end (t1 := false) (t2 := false) ev1 ev2 (SqL.of ha) (SqL.of hb) ra rb fun J w => p J H2 (x1.trans x2) (by rw [zipL_len]; omega) w
        | tup r =>
          obtain ⟨z2, b, ys, ev2, hb, rb⟩ := s2
          exact zip_end (t1 := false) (t2 := true) ev1 ev2 (SqL.of ha) hb ra rb fun J w => p J H2 (x1.trans x2) (by rw [zipL_len]; omega) w
        | _ => exact (show False from p).elim
      | tup l =>
        obtain ⟨z1, a, xs, ev1, ha, ra⟩ := s1
        cases d2 with
        | lst r =>
          obtain ⟨z2, b, ys, ev2, hb, rb⟩ := s2
          exact zip_end (t1 := true) (t2 := false) ev1 ev2 ha (SqL.of hb) ra rb fun J w => p J H2 (x1.trans x2) (by rw [zipL_len]; omega) w
        | tup r =>
          obtain ⟨z2, b, ys, ev2, hb, rb⟩ := s2
          exact zip_end (t1 := true) (t2 := true) ev1 ev2 ha hb ra rb fun J w => p J H2 (x1.trans x2) (by rw [zipL_len]; omega) w
        | _ => exact (show False from p).elim
      | _ => exact (show False from p).elim
end
end Py
end
section
set_option maxHeartbeats 2000000
namespace Py
open PySem PySem.Spec PyProof.Rows L2 LamX
/-! ### sorted(d), the keys texts -/
def leS (a b : Str) : Bool := !ltCps b.cps.toList a.cps.toList
def srtS (l : List Str) : List Str := srt leS l
theorem leS_iff {a b : Str} : leS a b = true ↔ a.cps.toList ≤ b.cps.toList := by
  unfold leS
  rw [PyProof.Rows.ltCps_eq]
  simp
theorem sortedS_pair : ∀ (l : List Str), sortedS l = true → l.Pairwise fun a b => leS a b = true := by
  have rise : ∀ (l : List Str) (p : Str), risingS p l = true → (∀ x ∈ l, leS p x = true) ∧ l.Pairwise fun a b => leS a b = true := by
    intro l
    induction l with
    | nil => intro p _; exact ⟨fun x h => by (cases h), .nil⟩
    | cons x r ih =>
      intro p h
      simp only [risingS, Bool.and_eq_true] at h
      obtain ⟨h1, h2⟩ := h
      obtain ⟨h3, h4⟩ := ih x h2
      have hp : leS p x = true := h1
      refine ⟨fun y hy => ?_, .cons h3 h4⟩
      rcases List.mem_cons.mp hy with rfl | hy
      · exact hp
      · exact leS_iff.mpr (List.le_trans (leS_iff.mp hp) (leS_iff.mp (h3 y hy)))
  intro l h
  cases l with
  | nil => exact .nil
  | cons x r => exact .cons (rise r x h).1 (rise r x h).2
theorem srtS_of {ys ks : List Str} (hp : ys.Perm ks) (hs : sortedS ys = true) : ys = srtS ks := by
  unfold srtS
  rw [srt_eq]
  refine List.Perm.eq_of_pairwise (le := fun a b => leS a b = true) (fun a b _ _ h1 h2 => ?_) (sortedS_pair ys hs) (List.pairwise_mergeSort (le := leS) (fun a b c h1 h2 => leS_iff.mpr (List.le_trans (leS_iff.mp h1) (leS_iff.mp h2))) (fun a b => ?_) ks) (hp.trans (List.mergeSort_perm ks leS).symm)
  · exact PySem.W.str_of_cps (List.le_antisymm (leS_iff.mp h1) (leS_iff.mp h2))
  · rw [Bool.or_eq_true, leS_iff, leS_iff]
    exact List.le_total _ _
def strKs : List Key → Option (List Str)
  | [] => some []
  | .inr x :: r => (strKs r).map (x :: ·)
  | .inl _ :: _ => none
theorem strKs_eq : ∀ {ks : List Key} {l : List Str}, strKs ks = some l → ks = l.map Sum.inr
  | [], l, h => by cases h; rfl
  | .inr x :: r, l, h => by
    unfold strKs at h
    cases q : strKs r with
    | none => rw [q] at h; cases h
    | some m => rw [q] at h; cases h; rw [strKs_eq q]; rfl
  | .inl _ :: _, l, h => by cases h
def sortedD2 : List D → Option D
  | [.dic ks vs] => match strKs ks with
    | some l => if l.length < 64 ∧ (l.all fun x => PyData.strOk x && decide (x.length ≤ lim)) = true then some (.lst ((srtS l).map D.str)) else none
    | none => none
  | l => sortedD l
section
variable {X : Cx} {T : Tb} {W : WX} {pos : Pos}
theorem strs_rep {K : PySem.W.Frag} {G : Hp} : ∀ {l : List Str}, (∀ x ∈ l, PyData.strOk x = true ∧ x.length ≤ lim) → Reps K G (l.map D.str) (l.map V.str)
  | [], _ => rfl
  | x :: l, h => ⟨.str x, l.map V.str, rfl, ⟨(h x List.mem_cons_self).1, by rw [lim_eq]; exact (h x List.mem_cons_self).2, rfl⟩, strs_rep fun y hy => h y (List.mem_cons_of_mem _ hy)⟩
theorem cr_sortedD2 (hc : X.calm = true) (hu : X.A.units + 100 < cLine) : CallR X (.builtin "sorted") (rDL X.K T .fr sortedD2) := by
  refine callImp (CallR.or' (cr_sortedD' (T := T) hu) (call_sortedD hc)) fun xs H Q h => ?_
  obtain ⟨Z, ds, r, hz, ht, hd, hg, hq⟩ := h
  unfold sortedD2 at hg
  split at hg
  · rename_i ks vs
    obtain ⟨v, rfl, a, kvs, rfl, ha, hks, ra⟩ := repBs1 hd
    cases q : strKs ks with
    | none => rw [q] at hg; cases hg
    | some l =>
      rw [q] at hg
      dsimp only at hg
      split at hg
      · rename_i hl
        cases hg
        refine .inr ⟨a, kvs, l, rfl, ha, by rw [hks, strKs_eq q], hl.1, fun ys p hp hs np => ?_⟩
        have e := srtS_of hp hs
        subst e
        have fine : ∀ x ∈ srtS l, PyData.strOk x = true ∧ x.length ≤ lim := fun x hx => by
          have := List.all_eq_true.mp hl.2 x (hp.mem_iff.mp hx)
          simpa using this
        have hlen : (srtS l).length < 64 := by rw [hp.length_eq]; exact hl.1
        exact hq _ _ (ext_new ht np) ⟨p, rfl, .inl np, own_lst (by rw [List.length_map, lim_eq]; unfold lim; omega) (.inl np) (strs_rep fine)⟩
      · cases hg
  · exact .inl ⟨Z, ds, r, hz, ht, hd, hg, hq⟩
end
/-! ### dict(pairs), dict(d) -/
def pairsKD : List D → Option (List (Key × D))
  | [] => some []
  | .tup [k, v] :: l => match keyOfD k, pairsKD l with
    | some q, some r => some ((q, v) :: r)
    | _, _ => none
  | _ => none
def mergeD (acc : List Key × List D) (l : List (Key × D)) : List Key × List D := l.foldl (fun a p => putKs a.1 a.2 p.1 p.2) acc
def dctD : List D → Option D
  | [.lst l] => (pairsKD l).map fun ps => .dic (mergeD ([], []) ps).1 (mergeD ([], []) ps).2
  | [.dic ks vs] => some (.dic ks vs)
  | _ => none
theorem mergeD_rep {K : PySem.W.Frag} {G : Hp} : ∀ {ps : List (Key × D)} {kvs acc : List (Key × V)} {ad : List D}, ps.map (·.1) = kvs.map (·.1) → Reps K G (ps.map (·.2)) (kvs.map (·.2)) → Reps K G ad (acc.map (·.2)) →
    (mergeK acc kvs).map (·.1) = (mergeD (acc.map (·.1), ad) ps).1 ∧ Reps K G (mergeD (acc.map (·.1), ad) ps).2 ((mergeK acc kvs).map (·.2))
  | [], [], acc, ad, _, _, ra => ⟨rfl, ra⟩
  | [], _ :: _, _, _, h, _, _ => by cases h
  | _ :: _, [], _, _, h, _, _ => by cases h
  | (k, d) :: ps, (k2, v) :: kvs, acc, ad, h, r, ra => by
    injection h with h1 h2
    obtain ⟨v', r', e, rd, rr⟩ := r
    injection e with e1 e2
    dsimp only at h1 e1 e2
    subst h1 e1 e2
    obtain ⟨q1, q2⟩ := putKs_rep (j := k) rd ra
    have ih := mergeD_rep (ps := ps) (kvs := kvs) (acc := putK acc k v) (ad := (putKs (acc.map (·.1)) ad k d).2) h2 rr q2
    rw [q1] at ih
    exact ih
theorem pairsKD_rep {K : PySem.W.Frag} {G H : Hp} (hG : ExtN G H) : ∀ {l : List D} {ps : List (Key × D)} {xs : List V}, pairsKD l = some ps → Reps K G l xs → ∃ (as : List Addr) (kvs : List (Key × V)), xs = as.map V.ref ∧ Paired (fun p kv => SqT K H p [kV kv.1, kv.2]) as kvs ∧ ps.map (·.1) = kvs.map (·.1) ∧ Reps K G (ps.map (·.2)) (kvs.map (·.2))
  | [], ps, xs, h, r => by
    cases h
    rw [show xs = [] from r]
    exact ⟨[], [], rfl, .nil, rfl, rfl⟩
  | d :: l, ps, xs, h, r => by
    unfold pairsKD at h
    split at h
    · rename_i e; cases e
    · rename_i k v l' e
      cases e
      split at h
      · rename_i q r' hk hr
        cases h
        obtain ⟨u, us, rfl, h1, h2⟩ := r
        obtain ⟨_, a, ys, rfl, ha, hy⟩ := h1
        obtain ⟨y1, ys1, rfl, k1, hy1⟩ := hy
        obtain ⟨y2, ys2, rfl, k2, hy2⟩ := hy1
        have e0 : ys2 = [] := hy2
        subst e0
        have ek : y1 = kV q := keyOfD_rep (G := G) (H := G) hk (Rep.b (ExtN.refl _) k1)
        subst ek
        obtain ⟨as, kvs, rfl, hp, hks, hrs⟩ := pairsKD_rep hG hr h2
        exact ⟨a :: as, (q, y2) :: kvs, rfl, .cons (SqT.ext hG ha) hp, by simp [hks], ⟨y2, _, rfl, k2, hrs⟩⟩
      · cases h
    · cases h
section
variable {X : Cx} {T : Tb}
theorem cr_dctD (hc : X.calm = true) : CallR X (.type "dict") (rDL X.K T .fr dctD) := by
  refine callImp (CallR.or' (call_dictP hc) call_dictD) fun xs H Q h => ?_
  obtain ⟨Z, ds, r, hz, ht, hd, hg, hq⟩ := h
  match ds, hd, hg with
  | [d], hd, hg =>
    obtain ⟨v, rfl, h1⟩ := repBs1 hd
    cases d <;> simp only [dctD, Option.some.injEq, reduceCtorEq] at hg
    · rename_i l
      cases q : pairsKD l with
      | none => rw [q] at hg; cases hg
      | some ps =>
        rw [q] at hg
        cases hg
        obtain ⟨a, rfl, z, ys, ha, ra⟩ := h1
        obtain ⟨as, kvs, rfl, hp, hks, hrs⟩ := pairsKD_rep exUnhide q ra
        obtain ⟨q1, q2⟩ := mergeD_rep (acc := []) (ad := []) hks hrs rfl
        exact .inl ⟨a, as, kvs, rfl, SqL.of ha, hp, fun p np => hq _ _ (ext_new ht np) ⟨p, rfl, .inl np, own_dic (.inl np) q1 q2⟩⟩
    · subst hg
      obtain ⟨a, kvs, rfl, ha, hks, ra⟩ := h1
      exact .inr ⟨a, kvs, rfl, ha, fun p np => hq _ _ (ext_new ht np) ⟨p, rfl, .inl np, own_dic (.inl np) hks ra⟩⟩
  | [], hd, hg => cases hg
  | _ :: _ :: _, hd, hg => simp [dctD] at hg
end
end Py
end
section
set_option maxHeartbeats 2000000
namespace Py
open PySem PySem.Spec PyProof.Rows L2 LamX
/-! ### constants of the module that are tuples -/
mutual
def conB (K : PySem.W.Frag) : D → Value → Bool
  | .non, .none => true
  | .bl b, .bool c => b == c
  | .int i, .int j _ => decide (i = j)
  | .str x, .str y _ => decide (x = y) && PyData.strOk x && decide (x.length ≤ lim)
  | .tup l, .ref a => (match K.lookup a with
    | some ⟨.type c, _, .seq its _, _⟩ => decide (c = "tuple") && decide (its.size ≤ lim) && conBs K l its.toList
    | _ => false)
  | .glo x, .ref a => decide (a = He.ga K x)
  | _, _ => false
def conBs (K : PySem.W.Frag) : List D → List Value → Bool
  | [], [] => true
  | d :: ds, u :: us => conB K d u && conBs K ds us
  | _, _ => false
end
mutual
theorem conB_ok {K : PySem.W.Frag} : ∀ {d : D} {u : Value}, conB K d u = true → ∃ v, RelV v u ∧ ∀ H, Rep K H d v
  | .non, u, h => by
    cases u <;> first | (exact ⟨.non, rfl, fun _ => rfl⟩) | (simp [conB] at h)
  | .bl b, u, h => by
    cases u <;> first | (simp only [conB, beq_iff_eq] at h; subst h; exact ⟨.bl b, rfl, fun _ => rfl⟩) | (simp [conB] at h)
  | .int i, u, h => by
    cases u <;> first | (simp only [conB, decide_eq_true_eq] at h; subst h; exact ⟨.int i, ⟨_, rfl⟩, fun _ => rfl⟩) | (simp [conB] at h)
  | .str x, u, h => by
    cases u <;> first | (simp only [conB, Bool.and_eq_true, decide_eq_true_eq] at h; obtain ⟨⟨rfl, h2⟩, h3⟩ := h; exact ⟨.str x, ⟨_, rfl⟩, fun _ => ⟨h2, by rw [lim_eq]; exact h3, rfl⟩⟩) | (simp [conB] at h)
  | .glo x, u, h => by
    cases u <;> first | (simp only [conB, decide_eq_true_eq] at h; subst h; exact ⟨.ref (He.ga K x), rfl, fun _ => rfl⟩) | (simp [conB] at h)
  | .tup l, u, h => by
    cases u with
    | ref a =>
      simp only [conB] at h
      split at h
      · rename_i c od its n sl q
        simp only [Bool.and_eq_true, decide_eq_true_eq] at h
        obtain ⟨⟨rfl, h2⟩, h3⟩ := h
        obtain ⟨vs, r, hv⟩ := conBs_ok h3
        refine ⟨.ref a, rfl, fun H => ⟨?_, a, vs, rfl, .inr ⟨_, its, n, q, rfl, rfl, by rw [lim_eq]; exact h2, r⟩, hv H⟩⟩
        have e := (hv H).length
        rw [← e, r.length, lim_eq]
        simpa using h2
      · cases h
    | _ => simp [conB] at h
  | .lst l, u, h => by cases u <;> simp [conB] at h
  | .dic a b, u, h => by cases u <;> simp [conB] at h
  | .scr l, u, h => by cases u <;> simp [conB] at h
  | .obj a, u, h => by cases u <;> simp [conB] at h
theorem conBs_ok {K : PySem.W.Frag} : ∀ {ds : List D} {us : List Value}, conBs K ds us = true → ∃ vs, Vals vs us ∧ ∀ H, Reps K H ds vs
  | [], [], _ => ⟨[], .nil, fun _ => rfl⟩
  | [], _ :: _, h => by simp [conBs] at h
  | _ :: _, [], h => by simp [conBs] at h
  | d :: ds, u :: us, h => by
    simp only [conBs, Bool.and_eq_true] at h
    obtain ⟨v, r, hv⟩ := conB_ok h.1
    obtain ⟨vs, rs, hvs⟩ := conBs_ok h.2
    exact ⟨v :: vs, .cons r rs, fun H => ⟨v, vs, rfl, hv H, hvs H⟩⟩
end
/-! ### constants of the module that are dicts of texts and whole numbers -/
def entSI (e : DictEntry) : Option (Str × Int) := match e.key, e.val with
  | .str x _, .int i _ => some (x, i)
  | _, _ => none
def kdB (K : PySem.W.Frag) (a : Addr) (kvs : List (Str × Int)) : Bool := match K.lookup a with
  | some ⟨_, _, .dict es _, _⟩ => decide (es.toList.map entSI = kvs.map some)
  | _ => false
theorem kdB_ns {K : PySem.W.Frag} {a : Addr} {kvs : List (Str × Int)} (h : kdB K a kvs = true) (z : Str) : (kvs.lookup z = none → PySem.W.nsIn K a z = some none) ∧ ∀ i, kvs.lookup z = some i → ∃ t, PySem.W.nsIn K a z = some (some (.int i t)) := by
  unfold kdB at h
  unfold PySem.W.nsIn
  split at h
  · rename_i c od es n sl q
    rw [q]
    dsimp only
    have h := of_decide_eq_true h
    have key : ∀ (l : List DictEntry) (kvs : List (Str × Int)), l.map entSI = kvs.map some → (l.any (·.refKey)) = false ∧ (kvs.lookup z = none → l.find? (·.key.isStr z) = none) ∧ ∀ i, kvs.lookup z = some i → ∃ e t, l.find? (·.key.isStr z) = some e ∧ e.val = .int i t := by
      intro l
      induction l with
      | nil =>
        intro kvs h
        cases kvs with
        | nil => exact ⟨rfl, fun _ => rfl, fun i h => by cases h⟩
        | cons => cases h
      | cons e l ih =>
        intro kvs h
        cases kvs with
        | nil => cases h
        | cons p kvs =>
          injection h with h1 h2
          obtain ⟨i1, i2, i3⟩ := ih kvs h2
          unfold entSI at h1
          split at h1
          · rename_i x t i t2 ek ev
            have h1 := Option.some.inj h1
            subst h1
            have es : e.key.isStr z = (x == z) := by rw [ek]; rfl
            have er : e.refKey = false := by unfold DictEntry.refKey; rw [ek]
            rw [List.any_cons, er, i1, List.find?_cons, es, List.lookup_cons]
            by_cases hx : x = z
            · subst hx
              refine ⟨rfl, fun hn => ?_, fun j hj => ⟨e, t2, ?_, ?_⟩⟩
              · simp at hn
              · simp
              · simp at hj; rw [← hj]; exact ev
            · have e1 : (x == z) = false := by simpa using hx
              have e2 : (z == x) = false := by simpa using fun q : z = x => hx q.symm
              rw [e1, e2]
              exact ⟨rfl, i2, i3⟩
          · cases h1
    obtain ⟨k1, k2, k3⟩ := key _ _ h
    refine ⟨fun hn => ?_, fun i hi => ?_⟩
    · rw [k2 hn, k1]; rfl
    · obtain ⟨e, t, e1, e2⟩ := k3 i hi
      rw [e1]; exact ⟨t, by dsimp only; rw [e2]⟩
  · cases h
/-- a constant dict by its name -/
structure CDict (K : PySem.W.Frag) (w : World) (x : Str) (kvs : List (Str × Int)) : Prop where
  kd : ∃ es n, KDict K w (He.ga K x) es n
  ok : kdB K (He.ga K x) kvs = true
def kinB (x : Str) (kvs : List (Str × Int)) (neg : Bool) (a b : D) : Option Bool := match a, b with
  | .str z, .glo y => if y = x then some (neg != (kvs.lookup z).isSome) else none
  | _, _ => none
def kgetB (x : Str) (kvs : List (Str × Int)) (b a : D) : Option D := match a, b with
  | .str z, .glo y => if y = x then (kvs.lookup z).map D.int else none
  | _, _ => none
section
variable {X : Cx} {T : Tb} {W : WX} {pos : Pos}
theorem op_kin {x : Str} {kvs : List (Str × Int)} (c : CDict X.K X.w x kvs) : OpR X (compareOp .In) (rDC X.K T (kinB x kvs false)) := by
  obtain ⟨es, n, kd⟩ := c.kd
  refine opImp (op_in_kd kd) fun a b H Q ⟨G, d, e, k, hG, ht, hd, he, hg, hq⟩ => ?_
  unfold kinB at hg
  split at hg
  · rename_i z y
    split at hg
    · rename_i hy
      subst hy
      cases hg
      obtain ⟨_, _, rfl⟩ := hd
      obtain rfl := he
      obtain ⟨k1, k2⟩ := kdB_ns c.ok z
      cases q : kvs.lookup z with
      | none => rw [q] at hq; exact ⟨z, none, rfl, rfl, k1 q, hq⟩
      | some i => rw [q] at hq; obtain ⟨t, e⟩ := k2 i q; exact ⟨z, _, rfl, rfl, e, hq⟩
    · cases hg
  · cases hg
theorem op_knin {x : Str} {kvs : List (Str × Int)} (c : CDict X.K X.w x kvs) : OpR X (compareOp .NotIn) (rDC X.K T (kinB x kvs true)) := by
  obtain ⟨es, n, kd⟩ := c.kd
  refine opImp (op_notIn_kd kd) fun a b H Q ⟨G, d, e, k, hG, ht, hd, he, hg, hq⟩ => ?_
  unfold kinB at hg
  split at hg
  · rename_i z y
    split at hg
    · rename_i hy
      subst hy
      cases hg
      obtain ⟨_, _, rfl⟩ := hd
      obtain rfl := he
      obtain ⟨k1, k2⟩ := kdB_ns c.ok z
      cases q : kvs.lookup z with
      | none => rw [q] at hq; exact ⟨z, none, rfl, rfl, k1 q, hq⟩
      | some i => rw [q] at hq; obtain ⟨t, e⟩ := k2 i q; exact ⟨z, _, rfl, rfl, e, hq⟩
    · cases hg
  · cases hg
theorem ix_kget {x : Str} {kvs : List (Str × Int)} (c : CDict X.K X.w x kvs) : IxR X (rD2 X.K T .sh (kgetB x kvs)) := by
  obtain ⟨es, n, kd⟩ := c.kd
  intro value slice pins s σ H a b v u Q I rx ry h hs
  refine ix_kdict value slice pins s σ H a b v u Q I rx ry ?_ hs
  obtain ⟨Z, d, e, r, hz, ht, hd, he, hg, hq⟩ := h
  unfold kgetB at hg
  split at hg
  · rename_i z y
    split at hg
    · rename_i hy
      subst hy
      obtain ⟨_, _, rfl⟩ := he
      obtain rfl := hd
      cases q : kvs.lookup z with
      | none => rw [q] at hg; cases hg
      | some i =>
        rw [q] at hg
        cases hg
        obtain ⟨t, e⟩ := (kdB_ns c.ok z).2 i q
        exact ⟨_, z, .int i, rfl, rfl, ⟨es, n, _, kd.at_, kd.lit, e, ⟨t, rfl⟩⟩, hq _ H (Ext.refl ht) rfl⟩
    · cases hg
  · cases hg
/-! ### {k: v, ..} -/
theorem ext_growD {H0 H : Hp} {a : Addr} {ks ls : List (Key × V)} (e : Ext T H0 H) (n : H0 a = none) (hD : H a = some (.dK ks)) : Ext T H0 (upd H a (.dK ls)) := by
  have k : ∀ b u, H b = some u → b ≠ a → upd H a (.dK ls) b = some u := fun b u h nb => by rw [upd_ne nb]; exact h
  refine ⟨fun b u h nt => k b u (e.ext b u h nt) (ne_of_none h n), fun p hp => ?_⟩
  obtain ⟨ps, h1, h2, h3⟩ := e.tabs p hp
  refine ⟨ps, k _ _ h1 fun q => ?_, h2, fun pos cv hc => ?_⟩
  · rw [q, hD] at h1; cases h1
  · obtain ⟨c, e1, e2⟩ := h3 pos cv hc
    refine ⟨c, e1, k _ _ e2 fun q => ?_⟩
    rw [q, hD] at e2
    unfold CodeO at e2
    cases e2
/-- the pairs of a display as readings: keys by themselves, values as arguments -/
structure DpOk (X : Cx) (T : Tb) (W : WX) (pos : Pos) (keys : List (Option Expr)) (values : List Expr) (ks : List Key) (f : Env → RR (List D)) : Prop where
  ex : ∃ trs, PPs X pos keys values trs ∧ ∀ σ H Q, tDA X.K T W true f σ H (fun vs H' => Q ((ks.zip vs).map fun p => (kV p.1, p.2)) H') → tPairs trs σ H Q
  len : ∀ ρ ds, f ρ = .ok ds → ds.length = ks.length
theorem dp_nil : DpOk X T W pos [] [] [] (fun _ => .ok []) := ⟨⟨_, pps_nil, fun σ H Q ⟨ρ, Z, st, p⟩ => p [] H (Ext.refl st.tabs) RpL.nil⟩, fun ρ ds h => by cases h; rfl⟩
theorem dp_cons {k : Key} {ke e : Expr} {keys : List (Option Expr)} {values : List Expr} {ks : List Key} {m : Md} {f : Env → RR D} {g : Env → RR (List D)} (hk : PE X ke (tC (kV k))) (hm : m ≠ .bo) (h : PE X e (tD X.K T W m f)) (r : DpOk X T W pos keys values ks g) :
    DpOk X T W pos (some ke :: keys) (e :: values) (k :: ks) (fun ρ => do let x ← f ρ; let xs ← g ρ; .ok (x :: xs)) := by
  obtain ⟨trs, ht, hr⟩ := r.ex
  refine ⟨⟨_, pps_cons hk h ht, fun σ H Q ⟨ρ, Z, st, p⟩ => ?_⟩, fun ρ ds h => ?_⟩
  · show tC (kV k) σ H _
    refine ⟨ρ, Z, st, Post.thenA p fun d v H1 _ e1 r1 p1 => hr σ H1 _ ⟨ρ, Z, st.ext e1, PostA.thenA p1 fun ds vs H2 _ e2 r2 p2 => ?_⟩⟩
    exact p2 (v :: vs) H2 (Ext.refl e2.tabs) (RpL.cons (fun _ => hm) st.zdom (r1.ext e2.ext) r2)
  · cases q1 : f ρ with
    | ok x =>
      rw [q1] at h
      simp only [RR.bind_ok] at h
      cases q2 : g ρ with
      | ok xs => rw [q2] at h; cases h; rw [List.length_cons, List.length_cons, r.len ρ xs q2]
      | ex c => rw [q2] at h; cases h
      | bad => rw [q2] at h; cases h
    | ex c => rw [q1] at h; cases h
    | bad => rw [q1] at h; cases h
def dspD (ks : List Key) (xs : List D) : D := .dic (mergeD ([], []) (ks.zip xs)).1 (mergeD ([], []) (ks.zip xs)).2
theorem d_dsp {keys : List (Option Expr)} {values : List Expr} {ks : List Key} {f : Env → RR (List D)} (h : DpOk X T W pos keys values ks f) (hall : keys.all (·.isSome) = true) (hl : keys.length = values.length) (h0 : keys ≠ []) (h15 : keys.length ≤ 15) (hk : ks.length ≤ 15) :
    PE X (.Dict keys values pos) (tD X.K T W .fr fun ρ => f ρ >>= fun xs => .ok (dspD ks xs)) := by
  obtain ⟨trs, ht, hr⟩ := h.ex
  refine peImp (pe_disp ht hall hl h0 h15) fun σ H Q ⟨ρ, Z, st, p⟩ => fun a na => hr σ _ _ ?_
  have x0 : Ext T H (upd H a (.dK [])) := ext_new st.tabs na
  refine ⟨ρ, Zs Z a, st.more (.inl na) (fun ps q => by cases q) x0, ?_⟩
  dsimp only at p
  cases q : f ρ with
  | ex c => rw [q] at p; exact fun H' e => p H' (x0.trans e)
  | bad => rw [q] at p; exact p
  | ok ds =>
    rw [q] at p
    intro vs H2 e2 r2
    have r2 : Reps X.K (hide H2 (Zs Z a)) ds vs := r2
    have h2 : H2 a = some (.dK []) := e2.ext a _ upd_same fun ps q => by cases q
    have hlen := h.len ρ ds q
    have hlv := r2.length
    have m1 : (ks.zip ds).map (·.1) = (ks.zip vs).map (·.1) := by
      rw [List.map_fst_zip (by omega), List.map_fst_zip (by omega)]
    have m2 : (ks.zip ds).map (·.2) = ds := List.map_snd_zip (by omega)
    have m3 : (ks.zip vs).map (·.2) = vs := List.map_snd_zip (by omega)
    obtain ⟨q1, q2⟩ := mergeD_rep (K := X.K) (G := hide H2 (Zs Z a)) (ps := ks.zip ds) (kvs := ks.zip vs) (acc := []) (ad := []) m1 (by rw [m2, m3]; exact r2) rfl
    refine ⟨h2, ks.zip vs, rfl, by rw [List.length_zip]; omega, p _ _ (ext_growD (x0.trans e2) na h2) ⟨a, rfl, .inl na, _, upd_same, q1, ?_⟩⟩
    rw [hide_zs]
    exact q2
end
end Py
end
section
set_option maxHeartbeats 4000000
namespace Py
open PySem PySem.Spec PyProof.Rows L2 LamX
/-- the names of a lambda's body, what is raised there told with its context -/
abbrev lamN (X : Cx) (A : Around) (outer : List PySem.Env) (s : Shared) (H : Hp) (E : XK) (scope : Scope) (f c' : Addr) : Cx :=
  (lamCx X A outer s H E scope f c').tr [] (fun e s' => wpAny (model X.prog X.w) (A.deeper (lamEnv X scope s.heap.objs.size f c')) (leaving (lamEnv X scope s.heap.objs.size f c') e) (fun _ s'' => L2N.CX X.prog X.w outer H s E e s'') (fun e' s'' => L2N.CX X.prog X.w outer H s E e' s'') s')
def toldR (cls : List (Str × Str)) (r : RR D) : RR D := match r with
  | .ok d => .ok d
  | .ex c => match cls.lookup c with
    | some wd => .ok (.str wd)
    | none => .bad
  | .bad => .bad
end Py
end
section
set_option maxHeartbeats 2000000
namespace Py
open PySem PySem.Spec PyProof.Rows L2 LamX

/-! ### l.index(x) -/
def indexD (l x : D) : Option D := match l with
  | .lst l => if nods l && nod x && decide (deps l ≤ 60) && decide (dep x ≤ 60) then (idxOf x l 0).map fun i => D.int (i : Nat) else none
  | _ => none
theorem idxOf_spec {x : D} : ∀ {l : List D} {i j : Nat}, idxOf x l i = some j → ∃ k, j = i + k ∧ ∃ z, (toPys l)[k]? = some z ∧ PyData.eqv z (toPy x) = true ∧ ∀ (m : Nat) (z' : PyData), m < k → (toPys l)[m]? = some z' → PyData.eqv z' (toPy x) = false
  | [], i, j, h => by cases h
  | d :: l, i, j, h => by
    unfold idxOf at h
    split at h
    · rename_i e
      cases h
      exact ⟨0, rfl, toPy d, rfl, e, fun m z hm => absurd hm (Nat.not_lt_zero _)⟩
    · rename_i e
      obtain ⟨k, rfl, z, h1, h2, h3⟩ := idxOf_spec h
      refine ⟨k + 1, by omega, z, by simpa [toPys] using h1, h2, fun m z' hm hz => ?_⟩
      cases m with
      | zero =>
        simp only [toPys, List.getElem?_cons_zero, Option.some.injEq] at hz
        subst hz
        exact Bool.eq_false_iff.mpr e
      | succ m => exact h3 m z' (by omega) (by simpa [toPys] using hz)
section
variable {X : Cx} {T : Tb} {W : WX} {pos : Pos}
theorem shaped_of {d : PyData} (h : PyData.canLay0 d = true) (hd : d.depth ≤ 64) : SeqAt.shaped d = true := by
  unfold SeqAt.shaped
  rw [h, decide_eq_true hd]; rfl
theorem d_idx {a b : Expr} {p2 cpos : Pos} {ma mb : Md} {fa fb : Env → RR D} (hu : X.A.units + 65 < cLine) (hb : notCallee a = true) (hs : notStar b = true) (hline : (p2.endLine == cpos.line) = true) (ha : PE X a (tD X.K T W ma fa)) (hbb : PE X b (tD X.K T W mb fb)) :
    PE X (.Call (.Attribute a "index" p2) [b] [] cpos) (tD X.K T W .sh fun ρ => fa ρ >>= fun l => match l with | .lst l => fb ρ >>= fun x => RR.of (indexD (.lst l) x) | _ => .bad) := by
  have hcall := pe_bm (T := "list") PySem.F.plainAttrs_list PySem.F.slot_list_index PySem.F.type_list_index (mt_indexD hu) ha (pa_cons hbb pa_nil (star_of hs [] X.env)) (base_of hb _ _ _) (few_of (by simp [hs]) (by rfl)) hline (star_of hs [] X.env) (by rfl) (apos := p2) (cpos := cpos)
  refine peImp hcall fun σ H Q ⟨ρ, Z, st, p⟩ => ⟨ρ, Z, st, Post.then p fun d v H1 _ e1 r1 p1 => ?_⟩
  cases d with
  | lst l =>
    obtain ⟨a, rfl, z, xs, h1, h2⟩ := r1.b
    refine ⟨.inl ⟨rfl, xs, SqL.of h1⟩, ρ, Z, st.ext e1, Post.then p1 fun d2 v2 H2 _ e2 r2 p2 => ?_⟩
    cases q : indexD (.lst l) d2 with
    | none => rw [q] at p2; exact p2.elim
    | some r =>
      rw [q] at p2
      have q : (if (nods l && nod d2 && decide (deps l ≤ 60) && decide (dep d2 ≤ 60)) = true then (idxOf d2 l 0).map fun i => D.int (i : Nat) else none) = some r := q
      by_cases hc : (nods l && nod d2 && decide (deps l ≤ 60) && decide (dep d2 ≤ 60)) = true
      · rw [if_pos hc] at q
        simp only [Bool.and_eq_true, decide_eq_true_eq] at hc
        cases q3 : idxOf d2 l 0 with
        | none => rw [q3] at q; cases q
        | some j =>
          rw [q3] at q
          cases q
          obtain ⟨k, hk, z', g1, g2, g3⟩ := idxOf_spec q3
          have hk : j = k := by omega
          subst hk
          have rl : Rep X.K H2 (.lst l) (.ref a) := by
            refine ⟨z, a, xs, rfl, e2.ext a _ h1 (fun ps q => by cases q), Reps.ext (exUnhide.trans e2.ext) _ _ h2⟩
          obtain ⟨q1, q2⟩ := Rep.dp (.lst l) (.ref a) hc.1.1.1 rl
          obtain ⟨q4, q5⟩ := Rep.dp d2 v2 hc.1.1.2 (r2.b.rep exUnhide)
          have d1 := dep_py (.lst l)
          have d2' := dep_py d2
          have e3 : dep (.lst l) = deps l + 1 := by simp [dep]
          exact ⟨a, v2, toPy d2, toPys l, j, z', rfl, rfl, q1, q4, shaped_of q2 (show (toPy (.lst l)).depth ≤ 64 by omega), shaped_of q5 (by omega), g1, g2, g3, p2 _ H2 (Ext.refl e2.tabs) rfl⟩
      · rw [if_neg hc] at q; cases q
  | _ => exact (show False from p1).elim
end

/-! ### an own syntax -/
inductive Blt where | len | int | abs | sum | all | any | max | min | sorted | list | tuple | dict
  deriving DecidableEq
inductive Iop where | iss | isnt
  deriving DecidableEq
mutual
inductive E where
  | nop | non | bl (b : Bool) | int (i : Int) | str (x : Str) | v (i : Nat) | o (i : Nat) | con (i : Nat)
  | bin (o : Bop) (a b : E) | cmp (o : Cop) (a b : E) | isx (o : Iop) (a b : E) | chn (o o2 : Cop) (a b c : E)
  | ix (a b : E) | sl (a lo hi : E) | nt (a : E) | neg (a : E) | and (l : Es) | or (l : Es) | ite (c a b : E)
  | tup (l : Es) | lst (l : Es) | blt (f : Blt) (l : Es) | isi (t : Ty) (a : E) | sset (a : E) | lset (a : E) | lrng (a : E)
  | idx (a b : E) | dnew | shr (a : E) | comp (t : Tg) (vs : List Nat) (s : Sr) (c e : E) | call (f : Nat) (l : Es)
  | told (cls : List (Str × Str)) (e : E) | kin (neg : Bool) (i : Nat) (a : E) | kget (i : Nat) (a : E) | ddsp (ks : List Key) (l : Es)
inductive Es where
  | n | c (e : E) (l : Es)
inductive Sr where
  | seq (e : E) | rng1 (a : E) | rng2 (a b : E) | zip (a b : E)
end
def Blt.md : Blt → Md
  | .sorted => .fr | .list => .fr | .dict => .fr | _ => .sh
def Blt.g : Blt → List D → Option D
  | .len => lenD | .int => intD | .abs => absD | .sum => sumD | .all => allD | .any => anyD | .max => maxD' | .min => minD' | .sorted => sortedD2 | .list => listD | .tuple => tupleD | .dict => dctD
def Iop.op : Iop → CmpOp
  | .iss => .Is | .isnt => .IsNot
def Iop.g : Iop → D → D → Option Bool
  | .iss => isG | .isnt => isntG
/-- what the defs do, by level: the head: what is called now -/
abbrev GT := List (Nat → List D → RR D)
def callG (G : GT) (f : Nat) (l : List D) : RR D := match G with
  | g :: _ => g f l
  | [] => .bad
section
variable (fm : List Md)
def mjoin (a b : Md) : Md := match a, b with
  | .fr, .fr => .fr
  | _, _ => .sh
def E.md : E → Md
  | .o _ => .bo
  | .ite _ a b => mjoin a.md b.md
  | .lst _ => .fr
  | .blt f _ => f.md
  | .sset _ => .fr
  | .lrng _ => .fr
  | .dnew => .fr
  | .ddsp .. => .fr
  | .comp .. => .fr
  | .call f _ => fm.getD f .sh
  | .and (.c e .n) => e.md
  | .or (.c e .n) => e.md
  | _ => .sh
def Es.one : Es → Bool
  | .c _ .n => true
  | _ => false
end
def isNop : E → Bool
  | .nop => true
  | _ => false
/-- what is raised is told -/
def keysStr (l : List (Str × Int)) : List Key := l.map fun p => .inr p.1
def dicOf (l : List (Str × Int)) : D := .dic (keysStr l) (l.map fun p => .int p.2)
def kinD (neg : Bool) (c : Option D) (x : D) : RR D := match c, x with
  | some (.dic ks _), .str z => .ok (.bl (neg != keyIn ks (.inr z)))
  | _, _ => .bad
def kgetD (c : Option D) (x : D) : RR D := match c, x with
  | some (.dic ks vs), .str z => RR.of (lookD ks vs (.inr z))
  | _, _ => .bad
mutual
def ev (C : List D) (G : GT) : E → Env → RR D
  | .nop, _ => .bad
  | .non, _ => .ok .non
  | .bl b, _ => .ok (.bl b)
  | .int i, _ => .ok (.int i)
  | .str x, _ => .ok (.str x)
  | .v i, ρ => varD i ρ
  | .o i, ρ => ownD i ρ
  | .con i, _ => RR.of C[i]?
  | .bin o a b, ρ => do let x ← ev C G a ρ; let y ← ev C G b ρ; RR.of (binD o x y)
  | .cmp o a b, ρ => do let x ← ev C G a ρ; let y ← ev C G b ρ; RR.of ((cmpB o x y).map D.bl)
  | .isx o a b, ρ => do let x ← ev C G a ρ; let y ← ev C G b ρ; RR.of ((o.g x y).map D.bl)
  | .chn o o2 a b c, ρ => do let x ← ev C G a ρ; let y ← ev C G b ρ; let k ← RR.of (cmpB o x y); if k then (do let z ← ev C G c ρ; RR.of ((cmpB o2 y z).map D.bl)) else .ok (.bl false)
  | .ix a b, ρ => do let x ← ev C G a ρ; let y ← ev C G b ρ; RR.of (ixD x y)
  | .sl a lo hi, ρ => do let x ← ev C G a ρ; let l ← (if isNop lo then .ok none else ev C G lo ρ >>= intO); let h ← (if isNop hi then .ok none else ev C G hi ρ >>= intO); RR.of (slD x l h)
  | .nt a, ρ => do let x ← ev C G a ρ; let k ← truR x; .ok (.bl (!k))
  | .neg a, ρ => ev C G a ρ >>= fun d => RR.of (negD d)
  | .and l, ρ => evA C G l ρ
  | .or l, ρ => evR C G l ρ
  | .ite c a b, ρ => do let x ← ev C G c ρ; let k ← truR x; if k then ev C G a ρ else ev C G b ρ
  | .tup l, ρ => do let xs ← evs C G l ρ; let xs ← limL xs; .ok (.tup xs)
  | .lst l, ρ => do let xs ← evs C G l ρ; let xs ← limL xs; .ok (.lst xs)
  | .blt f l, ρ => do let xs ← evs C G l ρ; RR.of (f.g xs)
  | .isi t a, ρ => do let x ← ev C G a ρ; isiR t x
  | .sset a, ρ => ev C G a ρ >>= ssD
  | .lset a, ρ => ev C G a ρ >>= lsD
  | .lrng a, ρ => ev C G a ρ >>= fun d => rng1D d >>= fun l => .ok (.lst l)
  | .idx a b, ρ => ev C G a ρ >>= fun l => match l with | .lst l => ev C G b ρ >>= fun x => RR.of (indexD (.lst l) x) | _ => .bad
  | .dnew, _ => .ok (.dic [] [])
  | .shr a, ρ => ev C G a ρ
  | .comp t vs s c e, ρ => compF t vs (fun ρ => evr C G s ρ) (fun ρ => if isNop c then .ok true else ev C G c ρ >>= truR) (fun ρ => ev C G e ρ) ρ
  | .told cls e, ρ => if 2 ≤ G.length then toldR cls (ev C (G.drop 2) e ρ) else .bad
  | .kin neg i a, ρ => ev C G a ρ >>= kinD neg C[i]?
  | .kget i a, ρ => ev C G a ρ >>= kgetD C[i]?
  | .ddsp ks l, ρ => evs C G l ρ >>= fun xs => if xs.length = ks.length then .ok (dspD ks xs) else .bad
  | .call f l, ρ => do let xs ← evs C G l ρ; callG G f xs
def evA (C : List D) (G : GT) : Es → Env → RR D
  | .n, _ => .bad
  | .c e l, ρ => if l matches .n then ev C G e ρ else do let x ← ev C G e ρ; let k ← truR x; if k then evA C G l ρ else .ok x
def evR (C : List D) (G : GT) : Es → Env → RR D
  | .n, _ => .bad
  | .c e l, ρ => if l matches .n then ev C G e ρ else do let x ← ev C G e ρ; let k ← truR x; if k then .ok x else evR C G l ρ
def evs (C : List D) (G : GT) : Es → Env → RR (List D)
  | .n, _ => .ok []
  | .c e l, ρ => do let x ← ev C G e ρ; let xs ← evs C G l ρ; .ok (x :: xs)
def evr (C : List D) (G : GT) : Sr → Env → RR (List D)
  | .seq e, ρ => ev C G e ρ >>= seqD
  | .rng1 a, ρ => ev C G a ρ >>= rng1D
  | .rng2 a b, ρ => do let x ← ev C G a ρ; let y ← ev C G b ρ; rng2D x y
  | .zip a b, ρ => ev C G a ρ >>= fun x => ev C G b ρ >>= fun y => zipD x y
end
end Py
end
section
set_option maxHeartbeats 2000000
namespace Py
open PySem PySem.Spec PyProof.Rows L2 LamX

/-! ### the checker -/
structure Tbl where
  fns : List (Nat × Str × Md × Nat)
  fm : List Md
  free : List Str
  cons : List (Nat × Str)
  excs : List Str
  dcs : List (Nat × Str × List (Str × Int)) := []
  told : Option (Str × List (Str × Str)) := none
structure Cfg where
  N : List Str
  sc : Scope
  fn : Str → Bool
  t : Tbl
  lam : Bool := false
def Cfg.fm (c : Cfg) : List Md := c.t.fm
def visB (sc : Scope) (x : Str) : Bool := match sc.names.lookup x with
  | some .local => true | some .cell => true | some .free => true | _ => false
def gloB (sc : Scope) (x : Str) : Bool := match sc.names.lookup x with
  | some .globalImplicit => true | _ => false
def localB (sc : Scope) (x : Str) : Bool := match sc.names.lookup x with
  | some .local => true | _ => false
def locB (sc : Scope) (x : Str) : Bool := match sc.names.lookup x with
  | some .local => true | some .cell => true | _ => false
def plainN (x : Str) : Bool := !(x == ("__debug__" : Str)) && !(x == ("__classdict__" : Str)) && decide (x ≠ "__name__")
def Cfg.var (c : Cfg) (i : Nat) (x : Str) : Bool := decide (c.N[i]? = some x) && visB c.sc x && plainN x
/-- a built-in's name -/
def Cfg.bname (c : Cfg) (x : Str) (s : String) : Bool := decide (x = Str.ofString s) && gloB c.sc (Str.ofString s) && decide (Str.ofString s ∈ c.t.free)
def Blt.nm : Blt → String
  | .len => "len" | .int => "int" | .abs => "abs" | .sum => "sum" | .all => "all" | .any => "any" | .max => "max" | .min => "min" | .sorted => "sorted" | .list => "list" | .tuple => "tuple" | .dict => "dict"
def Cfg.tgOk (c : Cfg) (i : Nat) (x : Str) : Bool := decide (c.N[i]? = some x) && locB c.sc x && (c.fn x || localB c.sc x)
def tgsB (c : Cfg) : List Nat → List Expr → Bool
  | [], [] => true
  | i :: is, .Name x _ :: es => c.tgOk i x && tgsB c is es
  | _, _ => false
def tgB (c : Cfg) : Tg → Expr → Bool
  | .v i, .Name x _ => c.tgOk i x
  | .t is, .Tuple es _ _ => tgsB c is es
  | _, _ => false
def ownOf (N : List Str) (vs : List Nat) : List (Str × Nat) := vs.map fun i => (N.getD i default, i)
def Cfg.blk (c : Cfg) (scope : Scope) : Cfg := { c with sc := relS scope c.sc, fn := fun x => scope.names.lookup x == some .cell, lam := false }
def Cfg.lmb (c : Cfg) (scope : Scope) : Cfg := { c with sc := scope, fn := fun _ => false, lam := false }
def Es.len : Es → Nat
  | .n => 0
  | .c _ l => l.len + 1
def isTup : Expr → Bool
  | .Tuple _ _ _ => true
  | _ => false
/-! shapes -/
def asConst : Expr → Option Const
  | .Constant v _ _ => some v
  | _ => none
def asName : Expr → Option Str
  | .Name x _ => some x
  | _ => none
def asBin : Expr → Option (Expr × Operator × Expr)
  | .BinOp a o b _ => some (a, o, b)
  | _ => none
def asCmp : Expr → Option (Expr × CmpOp × Expr)
  | .Compare a [o] [b] _ => some (a, o, b)
  | _ => none
def asChn : Expr → Option (Expr × CmpOp × CmpOp × Expr × Expr)
  | .Compare a [o, o2] [b, d] _ => some (a, o, o2, b, d)
  | _ => none
def asIx : Expr → Option (Expr × Expr)
  | .Subscript a b _ => some (a, b)
  | _ => none
def asSl : Expr → Option (Expr × Option Expr × Option Expr)
  | .Subscript a (.Slice l h none _) _ => some (a, l, h)
  | _ => none
def asNot : Expr → Option Expr
  | .UnaryOp .Not a _ => some a
  | _ => none
def asNeg : Expr → Option Expr
  | .UnaryOp .USub a _ => some a
  | _ => none
def asAnd : Expr → Option (List Expr)
  | .BoolOp .And l _ => some l
  | _ => none
def asOr : Expr → Option (List Expr)
  | .BoolOp .Or l _ => some l
  | _ => none
def asIf : Expr → Option (Expr × Expr × Expr)
  | .IfExp a b d _ => some (a, b, d)
  | _ => none
def asTup : Expr → Option (List Expr)
  | .Tuple l _ _ => some l
  | _ => none
def asLst : Expr → Option (List Expr)
  | .List l _ => some l
  | _ => none
def asCall : Expr → Option (Str × List Expr)
  | .Call (.Name x _) l [] _ => some (x, l)
  | _ => none
def asMeth : Expr → Option (Expr × Str × Pos × List Expr × Pos)
  | .Call (.Attribute a m p) l [] q => some (a, m, p, l, q)
  | _ => none
def asDnew : Expr → Option Unit
  | .Dict [] [] _ => some ()
  | _ => none
def asComp : Expr → Option (Expr × Expr × Expr × Option Expr × Scope)
  | .ListComp elt [⟨tg, iter, [], 0⟩] scope _ => some (elt, tg, iter, none, scope)
  | .ListComp elt [⟨tg, iter, [k], 0⟩] scope _ => some (elt, tg, iter, some k, scope)
  | _ => none
def asTl : Expr → Option (Str × Arguments × Expr × Scope)
  | .Call (.Name x _) [.Lambda ps body scope _] [] _ => some (x, ps, body, scope)
  | _ => none
def asDisp : Expr → Option (List (Option Expr) × List Expr)
  | .Dict ks vs _ => some (ks, vs)
  | _ => none
/-- arguments of none -/
def noArgs : Arguments → Bool
  | ⟨[], [], none, [], [], none, []⟩ => true
  | _ => false
/-- the keys of a display: constants -/
def keysB : List Key → List (Option Expr) → Bool
  | [], [] => true
  | k :: ks, some e :: es => (match k, asConst e with | .inl i, some (.int j) => decide (i = j) | .inr x, some (.str y) => decide (x = y) && strFine x | _, _ => false) && keysB ks es
  | _, _ => false
theorem asConst_of {e : Expr} {v} (h : asConst e = some v) : ∃ j p, e = .Constant v j p := by cases e <;> simp only [asConst, reduceCtorEq, Option.some.injEq] at h; subst h; exact ⟨_, _, rfl⟩
theorem asTl_of {e : Expr} {x ps body scope} (h : asTl e = some (x, ps, body, scope)) : ∃ p q r, e = .Call (.Name x p) [.Lambda ps body scope q] [] r := by unfold asTl at h; split at h <;> cases h; exact ⟨_, _, _, rfl⟩
theorem asDisp_of {e : Expr} {ks vs} (h : asDisp e = some (ks, vs)) : ∃ p, e = .Dict ks vs p := by unfold asDisp at h; split at h <;> cases h; exact ⟨_, rfl⟩
theorem asName_of {e : Expr} {v} (h : asName e = some v) : ∃ p, e = .Name v p := by cases e <;> simp only [asName, reduceCtorEq, Option.some.injEq] at h; subst h; exact ⟨_, rfl⟩
theorem asBin_of {e : Expr} {a o b} (h : asBin e = some (a, o, b)) : ∃ p, e = .BinOp a o b p := by unfold asBin at h; split at h <;> cases h; exact ⟨_, rfl⟩
theorem asCmp_of {e : Expr} {a o b} (h : asCmp e = some (a, o, b)) : ∃ p, e = .Compare a [o] [b] p := by unfold asCmp at h; split at h <;> cases h; exact ⟨_, rfl⟩
theorem asChn_of {e : Expr} {a o o2 b d} (h : asChn e = some (a, o, o2, b, d)) : ∃ p, e = .Compare a [o, o2] [b, d] p := by unfold asChn at h; split at h <;> cases h; exact ⟨_, rfl⟩
theorem asIx_of {e : Expr} {a b} (h : asIx e = some (a, b)) : ∃ p, e = .Subscript a b p := by unfold asIx at h; split at h <;> cases h; exact ⟨_, rfl⟩
theorem asSl_of {e : Expr} {a l d} (h : asSl e = some (a, l, d)) : ∃ p q, e = .Subscript a (.Slice l d none p) q := by unfold asSl at h; split at h <;> cases h; exact ⟨_, _, rfl⟩
theorem asNot_of {e : Expr} {a} (h : asNot e = some a) : ∃ p, e = .UnaryOp .Not a p := by unfold asNot at h; split at h <;> cases h; exact ⟨_, rfl⟩
theorem asNeg_of {e : Expr} {a} (h : asNeg e = some a) : ∃ p, e = .UnaryOp .USub a p := by unfold asNeg at h; split at h <;> cases h; exact ⟨_, rfl⟩
theorem asAnd_of {e : Expr} {a} (h : asAnd e = some a) : ∃ p, e = .BoolOp .And a p := by unfold asAnd at h; split at h <;> cases h; exact ⟨_, rfl⟩
theorem asOr_of {e : Expr} {a} (h : asOr e = some a) : ∃ p, e = .BoolOp .Or a p := by unfold asOr at h; split at h <;> cases h; exact ⟨_, rfl⟩
theorem asIf_of {e : Expr} {a b d} (h : asIf e = some (a, b, d)) : ∃ p, e = .IfExp a b d p := by unfold asIf at h; split at h <;> cases h; exact ⟨_, rfl⟩
theorem asTup_of {e : Expr} {l} (h : asTup e = some l) : ∃ p q, e = .Tuple l p q := by unfold asTup at h; split at h <;> cases h; exact ⟨_, _, rfl⟩
theorem asLst_of {e : Expr} {l} (h : asLst e = some l) : ∃ p, e = .List l p := by unfold asLst at h; split at h <;> cases h; exact ⟨_, rfl⟩
theorem asCall_of {e : Expr} {x l} (h : asCall e = some (x, l)) : ∃ p q, e = .Call (.Name x p) l [] q := by unfold asCall at h; split at h <;> cases h; exact ⟨_, _, rfl⟩
theorem asMeth_of {e : Expr} {a m p l q} (h : asMeth e = some (a, m, p, l, q)) : e = .Call (.Attribute a m p) l [] q := by unfold asMeth at h; split at h <;> cases h; rfl
theorem asDnew_of {e : Expr} {a} (h : asDnew e = some a) : ∃ p, e = .Dict [] [] p := by unfold asDnew at h; split at h <;> cases h; exact ⟨_, rfl⟩
theorem asComp_of {e : Expr} {elt tg iter k scope} (h : asComp e = some (elt, tg, iter, k, scope)) : ∃ p, e = .ListComp elt [⟨tg, iter, k.toList, 0⟩] scope p := by unfold asComp at h; split at h <;> cases h <;> exact ⟨_, rfl⟩
def isShr : E → Bool
  | .shr _ => true
  | _ => false
mutual
def chkE (c : Cfg) : E → Expr → Bool
  | .nop, _ => false
  | .non, x => match asConst x with | some .none => true | _ => false
  | .bl b, x => match asConst x with | some (.bool b') => decide (b = b') | _ => false
  | .int i, x => match asConst x with | some (.int i') => decide (i = i') | _ => false
  | .str s, x => match asConst x with | some (.str y) => decide (s = y) && strFine s | _ => false
  | .v i, x => match asName x with | some x => c.var i x | _ => false
  | .o i, x => match asName x with | some x => c.var i x | _ => false
  | .con i, x => match asName x with | some x => decide (c.t.cons.lookup i = some x) && gloB c.sc x && plainN x | _ => false
  | .bin o a b, x => match asBin x with | some (x, op, y) => decide (op = o.op) && chkE c a x && chkE c b y | _ => false
  | .cmp o a b, x => match asCmp x with | some (x, op, y) => decide (op = o.op) && chkE c a x && chkE c b y && notSet y | _ => false
  | .isx o a b, x => match asCmp x with | some (x, op, y) => decide (op = o.op) && chkE c a x && chkE c b y && notSet y | _ => false
  | .chn o o2 a b d, x => match asChn x with | some (x, op, op2, y, z) => decide (op = o.op) && decide (op2 = o2.op) && chkE c a x && chkE c b y && chkE c d z && notSet z | _ => false
  | .ix a b, x => match asIx x with | some (x, y) => chkE c a x && chkE c b y && notSlice y | _ => false
  | .sl a lo hi, x => match asSl x with | some (x, l, h) => chkE c a x && (match l with | none => isNop lo | some e => !isNop lo && chkE c lo e) && (match h with | none => isNop hi | some e => !isNop hi && chkE c hi e) | _ => false
  | .nt a, x => match asNot x with | some x => chkE c a x | _ => false
  | .neg a, x => match asNeg x with | some x => chkE c a x | _ => false
  | .and l, x => match asAnd x with | some vs => chkA c l vs | _ => false
  | .or l, x => match asOr x with | some vs => chkA c l vs | _ => false
  | .ite k a b, x => match asIf x with | some (x, y, z) => chkE c k x && chkE c a y && chkE c b z && decide (a.md c.fm ≠ .bo) && decide (b.md c.fm ≠ .bo) | _ => false
  | .tup l, x => match asTup x with | some es => chkEs c true l es | _ => false
  | .lst l, x => match asLst x with | some es => chkEs c true l es | _ => false
  | .blt f l, x => match asCall x with | some (x, e :: es) => c.bname x f.nm && chkEs c false l (e :: es) | _ => false
  | .isi t a, x => match asCall x with | some (x, [y, z]) => c.bname x "isinstance" && (match asName z with | some z => c.bname z t.nm | _ => false) && notStar y && chkE c a y | _ => false
  | .sset a, x => match asCall x with | some (x, [y]) => c.bname x "sorted" && (match asCall y with | some (z, [y]) => c.bname z "set" && notStar y && chkE c a y | _ => false) | _ => false
  | .lset a, x => match asCall x with | some (x, [y]) => c.bname x "len" && (match asCall y with | some (z, [y]) => c.bname z "set" && notStar y && chkE c a y | _ => false) | _ => false
  | .lrng a, x => match asCall x with | some (x, [y]) => c.bname x "list" && (match asCall y with | some (z, [y]) => c.bname z "range" && notStar y && chkE c a y | _ => false) | _ => false
  | .idx a b, x => match asMeth x with | some (x, m, p, [y], q) => decide (m = "index") && (p.endLine == q.line) && notCallee x && notStar y && chkE c a x && chkE c b y | _ => false
  | .dnew, x => match asDnew x with | some _ => true | _ => false
  | .shr a, x => chkE c a x && decide (a.md c.fm ≠ .bo) && !isShr a
  | .comp t vs s k e, x => match asComp x with
    | some (elt, tg, iter, cnd, scope) => (match cnd with | none => isNop k | some cnd => !isNop k && chkE (c.blk scope) k cnd) && blkC c.N c.sc scope (ownOf c.N vs) && t.slots.all (fun i => decide (i ∈ vs)) && tgB (c.blk scope) t tg && chkSr c s tg iter && notSet iter && chkE (c.blk scope) e elt && decide (e.md c.fm ≠ .bo)
    | _ => false
  | .told cls a, x => match asTl x with
    | some (x, ps, body, scope) => c.lam && noArgs ps && lamSB c.sc scope && gloB c.sc x && plainN x && (match c.t.told with | some (tn, tc) => decide (tn = x) && decide (tc = cls) | none => false) && chkE (c.lmb scope) a body && decide (a.md c.fm ≠ .bo)
    | none => false
  | .kin neg i a, x => match asCmp x with
    | some (y, op, z) => decide (op = if neg then .NotIn else .In) && chkE c a y && (match asName z with
      | some z => (match c.t.dcs.lookup i with | some (z', _) => decide (z' = z) | none => false) && gloB c.sc z && plainN z
      | none => false)
    | none => false
  | .kget i a, x => match asIx x with
    | some (z, y) => chkE c a y && notSlice y && (match asName z with
      | some z => (match c.t.dcs.lookup i with | some (z', _) => decide (z' = z) | none => false) && gloB c.sc z && plainN z
      | none => false)
    | none => false
  | .ddsp ks l, x => match asDisp x with
    | some (es, vs) => keysB ks es && chkEs c true l vs && decide (es.length = vs.length) && decide (ks.length ≤ 15) && !ks.isEmpty
    | none => false
  | .call f l, x => match asCall x with
    | some (x, es) => (match c.t.fns.lookup f with
      | some (y, m, n) => decide (y = x) && decide (es.length = n) && decide (c.t.fm.getD f .sh = m)
      | none => false) && gloB c.sc x && plainN x && chkEs c true l es
    | _ => false
def chkA (c : Cfg) : Es → List Expr → Bool
  | .n, _ => false
  | .c e l, xs => match xs with
    | [] => false
    | [x] => (l matches .n) && chkE c e x
    | x :: y :: r => chkE c e x && chkA c l (y :: r) && decide (e.md c.fm ≠ .bo) && decide ((E.and l).md c.fm ≠ .bo)
def chkEs (c : Cfg) (sh : Bool) : Es → List Expr → Bool
  | .n, xs => xs.isEmpty
  | .c e l, xs => match xs with
    | [] => false
    | x :: r => chkE c e x && notStar x && (!sh || decide (e.md c.fm ≠ .bo)) && chkEs c sh l r
def chkSr (c : Cfg) : Sr → Expr → Expr → Bool
  | .seq e, _, iter => chkE c e iter
  | .rng1 a, _, iter => match asCall iter with | some (x, [y]) => c.bname x "range" && notStar y && chkE c a y | _ => false
  | .rng2 a b, _, iter => match asCall iter with | some (x, [y, z]) => c.bname x "range" && notStar y && notStar z && chkE c a y && chkE c b z | _ => false
  | .zip a b, tg, iter => match asCall iter with | some (x, [y, z]) => isTup tg && c.bname x "zip" && notStar y && notStar z && chkE c a y && chkE c b z && decide (a.md c.fm ≠ .bo) && decide (b.md c.fm ≠ .bo) | _ => false
end
def Sr.bo (fm : List Md) : Sr → Bool
  | .seq e => decide (e.md fm = .bo)
  | _ => false
theorem plainN_of {x : Str} (h : plainN x = true) : (x == ("__debug__" : Str)) = false ∧ (x == ("__classdict__" : Str)) = false ∧ x ≠ "__name__" := by
  simp only [plainN, Bool.and_eq_true, Bool.not_eq_true', decide_eq_true_eq] at h
  exact ⟨h.1.1, h.1.2, h.2⟩
theorem locB_of {sc : Scope} {x : Str} (h : locB sc x = true) : sc.names.lookup x = some .local ∨ sc.names.lookup x = some .cell := by
  unfold locB at h
  split at h <;> first | exact .inl (by assumption) | exact .inr (by assumption) | cases h
theorem localB_of {sc : Scope} {x : Str} (h : localB sc x = true) : sc.names.lookup x = some .local := by
  unfold localB at h
  split at h <;> first | assumption | cases h
end Py
end
section
set_option maxHeartbeats 4000000
namespace Py
open PySem PySem.Spec PyProof.Rows L2 LamX

/-- told(lambda: ..), as a rule -/
def ToldR (X : Cx) (T : Tb) (tn : Str) (cls : List (Str × Str)) (k : Nat) : Prop :=
  ∀ {W : WX} {ps : Arguments} {lbody : Expr} {scope : Scope} {lpos pos p : Pos} {m : Md} {fe : Env → RR D}, noArgs ps = true → Gl X tn → (tn == ("__debug__" : Str)) = false → LamS X.env.scope scope →
    (∀ (A : Around) (outer : List PySem.Env) (s : Shared) (H : Hp) (E : XK) (f c' : Addr), Room k (A.deeper (lamEnv X scope s.heap.objs.size f c')) → PE (lamN X A outer s H E scope f c') lbody (tD X.K T (fun cls d _ H' => E cls d H') m fe)) → m ≠ .bo →
    PE X (.Call (.Name tn p) [.Lambda ps lbody scope lpos] [] pos) (tD X.K T W .sh fun ρ => toldR cls (fe ρ))
structure CtxOk (X : Cx) (c : Cfg) (T : Tb) (W : WX) (C : List D) (G : GT) (lev : Nat) : Prop where
  N : X.N = c.N
  sc : X.env.scope = c.sc
  fn : X.fn = c.fn
  calm : X.calm = true
  nd : X.N.Nodup
  room : Room lev X.A
  tk : L2N.Takes X W
  free : ∀ x ∈ c.t.free, X.mg x = none
  fns : ∀ (i : Nat) (x : Str) (m : Md) (n : Nat), c.t.fns.lookup i = some (x, m, n) → FnAt X T lev x m n (callG G i)
  cons : ∀ (i : Nat) (x : Str), c.t.cons.lookup i = some x → ∃ d v u, C[i]? = some d ∧ X.mg x = some u ∧ RelV v u ∧ ∀ H, Rep X.K H d v
  dcs : ∀ (i : Nat) (x : Str) (kvs : List (Str × Int)), c.t.dcs.lookup i = some (x, kvs) → CDict X.K X.w x kvs ∧ X.mg x = some (.ref (He.ga X.K x)) ∧ C[i]? = some (dicOf kvs)
  lamb : c.lam = true → 2 ≤ G.length → 2 ≤ lev ∧ (∀ (i : Nat) (x : Str) (m : Md) (n : Nat), c.t.fns.lookup i = some (x, m, n) → FnAt X T (lev - 2) x m n (callG (G.drop 2) i)) ∧ ∀ (tn : Str) (cls : List (Str × Str)), c.t.told = some (tn, cls) → ToldR X T tn cls (lev - 2)
section
variable {X : Cx} {c : Cfg} {T : Tb} {W : WX} {C : List D} {G : GT} {lev : Nat}
theorem CtxOk.gl (k : CtxOk X c T W C G lev) {x : Str} (h : gloB c.sc x = true) : Gl X x := by
  unfold gloB at h
  show X.env.scope.names.lookup x = _
  rw [k.sc]
  split at h
  · assumption
  · cases h
theorem CtxOk.var (k : CtxOk X c T W C G lev) {i : Nat} {x : Str} (h : c.var i x = true) : X.N[i]? = some x ∧ Vis X.env.scope x ∧ (x == ("__debug__" : Str)) = false ∧ (x == ("__classdict__" : Str)) = false := by
  simp only [Cfg.var, Bool.and_eq_true, decide_eq_true_eq] at h
  obtain ⟨⟨h1, h2⟩, h3⟩ := h
  obtain ⟨h4, h5, _⟩ := plainN_of h3
  refine ⟨by rw [k.N]; exact h1, ?_, h4, h5⟩
  unfold visB at h2
  unfold Vis
  rw [k.sc]
  split at h2 <;> first | exact .inl (by assumption) | exact .inr (.inl (by assumption)) | exact .inr (.inr (by assumption)) | cases h2
theorem CtxOk.bname (k : CtxOk X c T W C G lev) {x : Str} {s : String} (h : c.bname x s = true) : x = Str.ofString s ∧ Gl X (Str.ofString s) ∧ X.mg (Str.ofString s) = none := by
  simp only [Cfg.bname, Bool.and_eq_true, decide_eq_true_eq] at h
  exact ⟨h.1.1, k.gl h.1.2, k.free _ h.2⟩
theorem CtxOk.unit (k : CtxOk X c T W C G lev) : X.A.units + 200 < cLine := by
  have := k.room.un
  omega
/-- what targets need of a context -/
structure TgCtx (X : Cx) (c : Cfg) : Prop where
  N : X.N = c.N
  sc : X.env.scope = c.sc
  fn : X.fn = c.fn
  calm : X.calm = true
  nd : X.N.Nodup
theorem CtxOk.tg (k : CtxOk X c T W C G lev) : TgCtx X c := ⟨k.N, k.sc, k.fn, k.calm, k.nd⟩
theorem TgCtx.ok (k : TgCtx X c) {i : Nat} {x : Str} (h : c.tgOk i x = true) : X.N[i]? = some x ∧ L2.Loc X.env.scope x ∧ (X.fn x = true ∨ X.env.scope.names.lookup x = some .local) := by
  simp only [Cfg.tgOk, Bool.and_eq_true, decide_eq_true_eq, Bool.or_eq_true] at h
  refine ⟨by rw [k.N]; exact h.1.1, ?_, ?_⟩
  · unfold L2.Loc; rw [k.sc]; exact locB_of h.1.2
  · rw [k.fn, k.sc]
    exact h.2.imp id localB_of
theorem tgs_ok (k : TgCtx X c) : ∀ {is : List Nat} {es : List Expr}, tgsB c is es = true → TgsOk X es is
  | [], [], _ => tgs_nil
  | [], _ :: _, h => by cases h
  | i :: is, [], h => by cases h
  | i :: is, e :: es, h => by
    cases e <;> first
      | (cases h; done)
      | (simp only [tgsB, Bool.and_eq_true] at h
         obtain ⟨h1, h2, h3⟩ := k.ok h.1
         exact tgs_cons k.nd h1 h2 h3 (tgs_ok k h.2))
theorem tg_ok (k : TgCtx X c) {t : Tg} {e : Expr} (h : tgB c t e = true) : PG X e (gOf X.K t) := by
  unfold tgB at h
  split at h
  · obtain ⟨h1, h2, h3⟩ := k.ok h
    exact tg_v k.nd h1 h2 h3
  · exact tg_t k.calm (tgs_ok k h)
  · cases h
/-- built-ins -/
theorem blt_ok (k : CtxOk X c T W C G lev) {f : Blt} {x : Str} {p pos : Pos} {e : Expr} {es : List Expr} {g : Env → RR (List D)} (hb : c.bname x f.nm = true) (ha : PA X (e :: es) (tDA X.K T W false g)) (hs : (e :: es).all notStar = true) :
    PE X (.Call (.Name x p) (e :: es) [] pos) (tD X.K T W f.md fun ρ => do let xs ← g ρ; RR.of (f.g xs)) := by
  obtain ⟨rfl, hg, hm⟩ := k.bname hb
  have hu := k.unit
  cases f
  · exact d_bltB cr_len hg hm PySem.boot_len ha hs (by decide +kernel) (by decide +kernel)
  · exact d_bltT cr_int hg hm (by decide +kernel) ha hs (by decide +kernel) (by decide +kernel)
  · exact d_bltB cr_abs hg hm (by decide +kernel) ha hs (by decide +kernel) (by decide +kernel)
  · exact d_bltB (cr_sumD k.calm) hg hm (by decide +kernel) ha hs (by decide +kernel) (by decide +kernel)
  · exact d_bltB (cr_allD k.calm) hg hm (by decide +kernel) ha hs (by decide +kernel) (by decide +kernel)
  · exact d_bltB (cr_anyD k.calm) hg hm (by decide +kernel) ha hs (by decide +kernel) (by decide +kernel)
  · exact d_bltB (cr_maxD k.calm (by omega)) hg hm (by decide +kernel) ha hs (by decide +kernel) (by decide +kernel)
  · exact d_bltB (cr_minD k.calm) hg hm (by decide +kernel) ha hs (by decide +kernel) (by decide +kernel)
  · exact d_bltB (cr_sortedD2 k.calm (by omega)) hg hm (by decide +kernel) ha hs (by decide +kernel) (by decide +kernel)
  · exact d_bltT cr_listD hg hm (by decide +kernel) ha hs (by decide +kernel) (by decide +kernel)
  · exact d_bltT cr_tupleD hg hm (by decide +kernel) ha hs (by decide +kernel) (by decide +kernel)
  · exact d_bltT (cr_dctD k.calm) hg hm (by decide +kernel) ha hs (by decide +kernel) (by decide +kernel)
/-- the context of a comprehension's block -/
theorem CtxOk.blk (k : CtxOk X c T W C G lev) (scope : Scope) (s : Shared) (H : Hp) (A : Addr) (cl : List (Str × Addr)) (fp : List Addr) : CtxOk (X.blk s H scope (compEnvC scope cl A X.env) fp) (c.blk scope) T noW C G lev where
  N := k.N
  sc := by
    show relS scope X.env.scope = relS scope c.sc
    rw [k.sc]
  fn := rfl
  calm := k.calm
  nd := k.nd
  room := k.room
  tk := takes_blk
  free := k.free
  fns := fun i x m n h => ⟨(k.fns i x m n h).ex⟩
  cons := k.cons
  dcs := k.dcs
  lamb := fun h => nomatch h
/-- the context of a lambda's body -/
theorem CtxOk.lmb (k : CtxOk X c T W C G lev) (hl : c.lam = true) (h2 : 2 ≤ G.length) {scope : Scope} {A : Around} {outer : List PySem.Env} {s : Shared} {H : Hp} {E : XK} {f c' : Addr} (hr : Room (lev - 2) (A.deeper (lamEnv X scope s.heap.objs.size f c'))) :
    CtxOk (lamN X A outer s H E scope f c') (c.lmb scope) T (fun cls d _ H' => E cls d H') C (G.drop 2) (lev - 2) where
  N := k.N
  sc := rfl
  fn := rfl
  calm := rfl
  nd := k.nd
  room := hr
  tk := L2N.takes_of rfl rfl rfl rfl
  free := k.free
  fns := fun i x m n h => ⟨((k.lamb hl h2).2.1 i x m n h).ex⟩
  cons := k.cons
  dcs := k.dcs
  lamb := fun h => nomatch h
theorem key_lk {z : Str} : ∀ {kvs : List (Str × Int)}, keyIn (keysStr kvs) (.inr z) = (kvs.lookup z).isSome ∧ lookD (keysStr kvs) (kvs.map fun p => D.int p.2) (.inr z) = (kvs.lookup z).map D.int
  | [] => ⟨rfl, rfl⟩
  | (x, i) :: kvs => by
    obtain ⟨h1, h2⟩ := key_lk (z := z) (kvs := kvs)
    have hk : keysStr ((x, i) :: kvs) = .inr x :: keysStr kvs := rfl
    rw [hk, List.lookup_cons]
    by_cases e : z = x
    · subst e
      have : (z == z) = true := beq_self_eq_true z
      rw [this]
      constructor
      · simp [keyIn]
      · simp [lookD]
    · have e1 : (z == x) = false := by simpa using e
      rw [e1]
      have ne : ¬ ((Sum.inr x : Key) = .inr z) := fun q => e (Sum.inr.inj q).symm
      constructor
      · have : keyIn (.inr x :: keysStr kvs) (.inr z) = keyIn (keysStr kvs) (.inr z) := by
          unfold keyIn
          rw [List.any_cons, decide_eq_false ne, Bool.false_or]
        rw [this, h1]
      · rw [List.map_cons]
        unfold lookD
        rw [if_neg ne]
        exact h2
theorem kin_eq {x : Str} {kvs : List (Str × Int)} {neg : Bool} {d : D} : kinD neg (some (dicOf kvs)) d = RR.of ((kinB x kvs neg d (.glo x)).map D.bl) := by
  cases d <;> first
    | rfl
    | (rename_i z
       show RR.ok _ = RR.of (Option.map D.bl (if x = x then some (neg != (kvs.lookup z).isSome) else none))
       rw [if_pos rfl, key_lk.1]; rfl)
theorem kget_eq {x : Str} {kvs : List (Str × Int)} {d : D} : kgetD (some (dicOf kvs)) d = RR.of (kgetB x kvs (.glo x) d) := by
  cases d <;> first
    | rfl
    | (rename_i z
       show RR.of (lookD _ _ _) = RR.of (if x = x then (kvs.lookup z).map D.int else none)
       rw [if_pos rfl, key_lk.2])
theorem op_kinB {x : Str} {kvs : List (Str × Int)} (neg : Bool) (d : CDict X.K X.w x kvs) : OpR X (compareOp (if neg = true then CmpOp.NotIn else CmpOp.In)) (rDC X.K T (kinB x kvs neg)) := by
  cases neg
  · exact op_kin d
  · exact op_knin d
theorem noArgs_of {a : Arguments} (h : noArgs a = true) : a = ⟨[], [], none, [], [], none, []⟩ := by
  unfold noArgs at h
  split at h
  · rfl
  · cases h
theorem keysB_len : ∀ {ks : List Key} {es : List (Option Expr)}, keysB ks es = true → ks.length = es.length ∧ es.all (·.isSome) = true
  | [], [], _ => ⟨rfl, rfl⟩
  | [], _ :: _, h => by simp [keysB] at h
  | _ :: _, [], h => by simp [keysB] at h
  | _ :: _, none :: _, h => by simp [keysB] at h
  | k :: ks, some e :: es, h => by
    simp only [keysB, Bool.and_eq_true] at h
    obtain ⟨h1, h2⟩ := keysB_len h.2
    exact ⟨congrArg (· + 1) h1, by rw [List.all_cons, h2]; rfl⟩
theorem key_ok {kk : Key} {ke : Expr} (h : (match kk, asConst ke with | .inl i, some (.int j) => decide (i = j) | .inr x, some (.str y) => decide (x = y) && strFine x | _, _ => false) = true) : PE X ke (tC (kV kk)) := by
  split at h
  · rename_i q
    obtain ⟨j, p, rfl⟩ := asConst_of q
    obtain rfl := of_decide_eq_true h
    exact pe_int
  · rename_i q
    obtain ⟨j, p, rfl⟩ := asConst_of q
    rw [Bool.and_eq_true] at h
    obtain rfl := of_decide_eq_true h.1
    exact pe_str
  · cases h
theorem len_evs : ∀ {l : Es} {ρ : Env} {xs : List D}, evs C G l ρ = .ok xs → xs.length = l.len
  | .n, ρ, xs, h => by cases h; rfl
  | .c e l, ρ, xs, h => by
    unfold evs at h
    cases q : ev C G e ρ with
    | ok d =>
      rw [q] at h
      simp only [RR.bind_ok] at h
      cases q2 : evs C G l ρ with
      | ok ys => rw [q2] at h; cases h; rw [List.length_cons, len_evs q2]; rfl
      | ex c => rw [q2] at h; cases h
      | bad => rw [q2] at h; cases h
    | ex c => rw [q] at h; cases h
    | bad => rw [q] at h; cases h
theorem len_chk : ∀ {l : Es} {sh : Bool} {xs : List Expr}, chkEs c sh l xs = true → xs.length = l.len ∧ xs.all notStar = true
  | .n, sh, xs, h => by
    simp only [chkEs, List.isEmpty_iff] at h
    subst h; exact ⟨rfl, rfl⟩
  | .c e l, sh, [], h => by simp [chkEs] at h
  | .c e l, sh, x :: r, h => by
    simp only [chkEs, Bool.and_eq_true] at h
    obtain ⟨h1, h2⟩ := len_chk h.2
    exact ⟨by rw [List.length_cons, h1]; rfl, by rw [List.all_cons, h.1.1.2, h2]; rfl⟩
theorem d_mj {e : Expr} {a b : Md} {f : Env → RR D} (ha : a ≠ .bo) (h : PE X e (tD X.K T W a f)) : PE X e (tD X.K T W (mjoin a b) f) := by
  cases a
  · cases b <;> exact h
  · cases b
    · exact d_sh (by decide) h
    · exact h
    · exact d_sh (by decide) h
  · exact (ha rfl).elim
theorem mjoin_comm (a b : Md) : mjoin a b = mjoin b a := by cases a <;> cases b <;> rfl
theorem ownOf_map {N : List Str} : ∀ vs : List Nat, (ownOf N vs).map (·.2) = vs
  | [] => rfl
  | v :: vs => by
    have := ownOf_map (N := N) vs
    unfold ownOf at this ⊢
    rw [List.map_cons, List.map_cons, this]
theorem md_or (l : Es) : (E.or l).md c.fm = (E.and l).md c.fm := by
  cases l with
  | n => rfl
  | c e l => cases l <;> rfl
theorem isNop_of {e : E} (h : isNop e = true) : e = .nop := by cases e <;> first | rfl | cases h
def Both (X : Cx) (T : Tb) (W : WX) (m : Md) (f : Env → RR D) (x : Expr) : Prop := PE X x (tD X.K T W m f) ∧ PT X x (tDT X.K T W fun ρ => f ρ >>= truR)
theorem both_val {m : Md} {f : Env → RR D} {x : Expr} (h : PE X x (tD X.K T W m f)) (hp : plainTest x = true) : Both X T W m f x := ⟨h, t_val h hp⟩
theorem t_neg {a : Expr} {pos : Pos} {m : Md} {f : Env → RR D} (h : PE X (.UnaryOp .USub a pos) (tD X.K T W m f)) : PT X (.UnaryOp .USub a pos) (tDT X.K T W fun ρ => f ρ >>= truR) := by
  refine ptImp (pt_truth h fun _ => rfl) fun σ H Q ⟨ρ, Z, st, p⟩ => ⟨ρ, Z, st, Post.thenX p fun d v H1 _ e1 r1 p1 => ?_⟩
  cases q : truD d with
  | none => unfold truR at p1; rw [q] at p1; exact p1.elim
  | some k =>
    unfold truR at p1; rw [q] at p1
    exact ⟨k, truV_of exUnhide r1.b q, p1 H1 (Ext.refl e1.tabs)⟩
theorem cop_op (o : Cop) (hu : X.A.units + 200 < cLine) : OpR X (compareOp o.op) (rDC X.K T (cmpB o)) := op_cmpB (by omega) o
theorem iop_op (o : Iop) : OpR X (compareOp o.op) (rDC X.K T o.g) := by
  cases o
  · exact op_isG
  · exact op_isntG
theorem evA_one {e : E} : evA C G (.c e .n) = ev C G e := by
  funext ρ
  simp only [evA]
  rw [if_pos trivial]
theorem evA_more {e e' : E} {l : Es} : evA C G (.c e (.c e' l)) = (fun ρ => do let x ← ev C G e ρ; let k ← truR x; if k then evA C G (.c e' l) ρ else .ok x) := by
  funext ρ
  conv => lhs; unfold evA
  rw [if_neg Bool.false_ne_true]
theorem evR_one {e : E} : evR C G (.c e .n) = ev C G e := by
  funext ρ
  simp only [evR]
  rw [if_pos trivial]
theorem evR_more {e e' : E} {l : Es} : evR C G (.c e (.c e' l)) = (fun ρ => do let x ← ev C G e ρ; let k ← truR x; if k then .ok x else evR C G (.c e' l) ρ) := by
  funext ρ
  conv => lhs; unfold evR
  rw [if_neg Bool.false_ne_true]
mutual
theorem sE : ∀ (e : E) {G : GT} {lev : Nat} {X : Cx} {c : Cfg} {W : WX} {x : Expr}, CtxOk X c T W C G lev → chkE c e x = true → Both X T W (e.md c.fm) (ev C G e) x
  | .nop, G, lev, X, c, W, x, k, h => by simp [chkE] at h
  | .non, G, lev, X, c, W, x, k, h => by
    simp only [chkE] at h
    split at h
    · rename_i q
      obtain ⟨j, p, rfl⟩ := asConst_of q
      exact both_val d_non rfl
    · cases h
  | .bl b, G, lev, X, c, W, x, k, h => by
    simp only [chkE] at h
    split at h
    · rename_i q
      obtain ⟨j, p, rfl⟩ := asConst_of q
      obtain rfl := of_decide_eq_true h
      exact both_val d_bl rfl
    · cases h
  | .int i, G, lev, X, c, W, x, k, h => by
    simp only [chkE] at h
    split at h
    · rename_i q
      obtain ⟨j, p, rfl⟩ := asConst_of q
      obtain rfl := of_decide_eq_true h
      exact both_val d_int rfl
    · cases h
  | .str i, G, lev, X, c, W, x, k, h => by
    simp only [chkE] at h
    split at h
    · rename_i q
      obtain ⟨j, p, rfl⟩ := asConst_of q
      rw [Bool.and_eq_true] at h
      obtain rfl := of_decide_eq_true h.1
      exact both_val (d_str h.2) rfl
    · cases h
  | .v i, G, lev, X, c, W, x, k, h => by
    simp only [chkE] at h
    split at h
    · rename_i q
      obtain ⟨p, rfl⟩ := asName_of q
      obtain ⟨h1, h2, h3, h4⟩ := k.var h
      exact both_val (d_var h1 h2 h3 h4) rfl
    · cases h
  | .o i, G, lev, X, c, W, x, k, h => by
    simp only [chkE] at h
    split at h
    · rename_i q
      obtain ⟨p, rfl⟩ := asName_of q
      obtain ⟨h1, h2, h3, h4⟩ := k.var h
      exact both_val (d_own h1 h2 h3 h4) rfl
    · cases h
  | .con i, G, lev, X, c, W, x, k, h => by
    simp only [chkE] at h
    split at h
    · rename_i q
      obtain ⟨p, rfl⟩ := asName_of q
      simp only [Bool.and_eq_true, decide_eq_true_eq] at h
      obtain ⟨h4, h5, _⟩ := plainN_of h.2
      obtain ⟨d, v, u, e1, e2, e3, e4⟩ := k.cons i _ h.1.1
      refine both_val ?_ rfl
      refine peImp (d_con (T := T) (W := W) (k.gl h.1.2) e2 e3 e4 h4) fun σ H Q hq => ?_
      obtain ⟨ρ, Z, st, p⟩ := hq
      refine ⟨ρ, Z, st, ?_⟩
      simp only [ev, e1, RR.of] at p
      exact p
    · cases h
  | .bin o a b, G, lev, X, c, W, x, k, h => by
    simp only [chkE] at h
    split at h
    · rename_i q
      obtain ⟨p, rfl⟩ := asBin_of q
      simp only [Bool.and_eq_true, decide_eq_true_eq] at h
      obtain rfl := h.1.1
      refine both_val (m := .sh) ?_ rfl
      have := d_bin (pos := p) (op_binD o) (sE a k h.1.2).1 (sE b k h.2).1
      simpa only [ev] using this
    · cases h
  | .cmp o a b, G, lev, X, c, W, x, k, h => by
    simp only [chkE] at h
    split at h
    · rename_i q
      obtain ⟨p, rfl⟩ := asCmp_of q
      simp only [Bool.and_eq_true, decide_eq_true_eq] at h
      obtain rfl := h.1.1.1
      have h1 := (sE a k h.1.1.2).1
      have h2 := (sE b k h.1.2).1
      refine (show Both X T W .sh (ev C G (.cmp o a b)) _ from ⟨?_, ?_⟩)
      · have := d_cmp (pos := p) (cop_op o k.unit) h1 h2 h.2
        simpa only [ev] using this
      · have := t_cmp (pos := p) (cop_op o k.unit) h1 h2 h.2
        simpa only [ev] using this
    · cases h
  | .isx o a b, G, lev, X, c, W, x, k, h => by
    simp only [chkE] at h
    split at h
    · rename_i q
      obtain ⟨p, rfl⟩ := asCmp_of q
      simp only [Bool.and_eq_true, decide_eq_true_eq] at h
      obtain rfl := h.1.1.1
      have h1 := (sE a k h.1.1.2).1
      have h2 := (sE b k h.1.2).1
      refine (show Both X T W .sh (ev C G (.isx o a b)) _ from ⟨?_, ?_⟩)
      · have := d_cmp (pos := p) (iop_op o) h1 h2 h.2
        simpa only [ev] using this
      · have := t_cmp (pos := p) (iop_op o) h1 h2 h.2
        simpa only [ev] using this
    · cases h
  | .chn o o2 a b d, G, lev, X, c, W, x, k, h => by
    simp only [chkE] at h
    split at h
    · rename_i q
      obtain ⟨p, rfl⟩ := asChn_of q
      simp only [Bool.and_eq_true, decide_eq_true_eq] at h
      obtain ⟨⟨⟨⟨⟨e1, e2⟩, ha⟩, hb⟩, hd⟩, hn⟩ := h
      subst e1 e2
      have h1 := (sE a k ha).1
      have h2 := (sE b k hb).1
      have h3 := (sE d k hd).1
      refine (show Both X T W .sh (ev C G (.chn o o2 a b d)) _ from ⟨?_, ?_⟩)
      · have := d_chn (pos := p) (cop_op o k.unit) (cop_op o2 k.unit) h1 h2 h3 hn
        simpa only [ev] using this
      · have := t_chn (pos := p) (cop_op o k.unit) (cop_op o2 k.unit) h1 h2 h3 hn
        simpa only [ev] using this
    · cases h
  | .ix a b, G, lev, X, c, W, x, k, h => by
    simp only [chkE] at h
    split at h
    · rename_i q
      obtain ⟨p, rfl⟩ := asIx_of q
      simp only [Bool.and_eq_true] at h
      have hu := k.unit
      refine both_val (m := .sh) ?_ rfl
      have := d_ix (pos := p) (ix_D (T := T) (by omega)) (sE a k h.1.1).1 (sE b k h.1.2).1 h.2
      simpa only [ev] using this
    · cases h
  | .sl a lo hi, G, lev, X, c, W, x, k, h => by
    simp only [chkE] at h
    split at h
    · rename_i l hh q
      obtain ⟨p, p2, rfl⟩ := asSl_of q
      simp only [Bool.and_eq_true] at h
      refine both_val (m := .sh) ?_ rfl
      have part : ∀ (e : E) (o : Option Expr), (∀ (y : Expr), chkE c e y = true → Both X T W (e.md c.fm) (ev C G e) y) → (match o with | none => isNop e | some y => !isNop e && chkE c e y) = true → PartOk X T W o (fun ρ => if isNop e then .ok none else ev C G e ρ >>= intO) := by
        intro e o ih ho
        cases o with
        | none =>
          have ho : isNop e = true := ho
          rw [ho]; exact part_none
        | some y =>
          have ho : (!isNop e && chkE c e y) = true := ho
          rw [Bool.and_eq_true, Bool.not_eq_true'] at ho
          rw [ho.1]
          exact part_some (ih y ho.2).1
      have p1 := part lo _ (fun y hy => sE lo k hy) h.1.2
      have p3 := part hi _ (fun y hy => sE hi k hy) h.2
      have := d_sl (pos := p2) (p2 := p) (sE a k h.1.1).1 p1 p3
      simpa only [ev] using this
    · cases h
  | .nt a, G, lev, X, c, W, x, k, h => by
    simp only [chkE] at h
    split at h
    · rename_i q
      obtain ⟨p, rfl⟩ := asNot_of q
      have h1 := sE a k h
      refine (show Both X T W .sh (ev C G (.nt a)) _ from ⟨?_, ?_⟩)
      · have := d_not (pos := p) h1.1
        simpa only [ev] using this
      · have := t_not (pos := p) h1.2
        simpa only [ev] using this
    · cases h
  | .neg a, G, lev, X, c, W, x, k, h => by
    simp only [chkE] at h
    split at h
    · rename_i q
      obtain ⟨p, rfl⟩ := asNeg_of q
      have h1 := sE a k h
      have h2 := d_neg (pos := p) h1.1
      refine (show Both X T W .sh (ev C G (.neg a)) _ from ⟨by simpa only [ev] using h2, ?_⟩)
      have := t_neg h2
      simpa only [ev] using this
    · cases h
  | .and l, G, lev, X, c, W, x, k, h => by
    simp only [chkE] at h
    split at h
    · rename_i q
      obtain ⟨p, rfl⟩ := asAnd_of q
      obtain ⟨h1, h2⟩ := sA l (pos := p) k h
      refine ⟨by simpa only [ev] using h1, ?_⟩
      have := h2.pt
      simpa only [ev] using this
    · cases h
  | .or l, G, lev, X, c, W, x, k, h => by
    simp only [chkE] at h
    split at h
    · rename_i q
      obtain ⟨p, rfl⟩ := asOr_of q
      obtain ⟨h1, h2⟩ := sR l (pos := p) k h
      refine ⟨by rw [md_or]; simpa only [ev] using h1, ?_⟩
      have := h2.pt
      simpa only [ev] using this
    · cases h
  | .ite q a b, G, lev, X, c, W, x, k, h => by
    simp only [chkE] at h
    split at h
    · rename_i q0
      obtain ⟨p, rfl⟩ := asIf_of q0
      simp only [Bool.and_eq_true, decide_eq_true_eq] at h
      obtain ⟨⟨⟨⟨hq, ha⟩, hb⟩, ma⟩, mb⟩ := h
      have h1 := sE q k hq
      have h2 := sE a k ha
      have h3 := sE b k hb
      refine ⟨?_, ?_⟩
      · have h4 := d_mj (b := a.md c.fm) mb h3.1
        rw [mjoin_comm] at h4
        have := d_ite (pos := p) h1.2 (d_mj (b := b.md c.fm) ma h2.1) h4
        show PE X _ (tD X.K T W (mjoin (a.md c.fm) (b.md c.fm)) _)
        simpa only [ev] using this
      · have := t_ite (pos := p) h1.2 h2.2 h3.2
        simpa only [ev] using this
    · cases h
  | .tup l, G, lev, X, c, W, x, k, h => by
    simp only [chkE] at h
    split at h
    · rename_i q
      obtain ⟨p, p2, rfl⟩ := asTup_of q
      refine both_val (m := .sh) ?_ rfl
      have := d_tup (pos := p2) (x1 := p) (sEs l k h)
      simpa only [ev] using this
    · cases h
  | .lst l, G, lev, X, c, W, x, k, h => by
    simp only [chkE] at h
    split at h
    · rename_i q
      obtain ⟨p, rfl⟩ := asLst_of q
      refine both_val (m := .fr) ?_ rfl
      have := d_lst (pos := p) (sEs l k h)
      simpa only [ev] using this
    · cases h
  | .blt f l, G, lev, X, c, W, x, k, h => by
    simp only [chkE] at h
    split at h
    · rename_i q
      obtain ⟨p, p2, rfl⟩ := asCall_of q
      rw [Bool.and_eq_true] at h
      refine both_val (m := f.md) ?_ rfl
      have := blt_ok (pos := p2) (p := p) k h.1 (sEs l k h.2) (len_chk h.2).2
      simpa only [ev] using this
    · cases h
  | .isi t a, G, lev, X, c, W, x, k, h => by
    simp only [chkE] at h
    split at h
    · rename_i q
      obtain ⟨p, p2, rfl⟩ := asCall_of q
      simp only [Bool.and_eq_true] at h
      obtain ⟨⟨⟨h1, h2⟩, h3⟩, h4⟩ := h
      split at h2
      · rename_i q2
        obtain ⟨p3, rfl⟩ := asName_of q2
        obtain ⟨rfl, g1, g2⟩ := k.bname h1
        obtain ⟨rfl, g3, g4⟩ := k.bname h2
        refine both_val (m := .sh) ?_ rfl
        have := d_isi (pos := p2) (p := p) (p2 := p3) g1 g2 g3 g4 h3 (sE a k h4).1
        simpa only [ev] using this
      · cases h2
    · cases h
  | .sset a, G, lev, X, c, W, x, k, h => by
    simp only [chkE] at h
    split at h
    · rename_i q
      obtain ⟨p, p2, rfl⟩ := asCall_of q
      rw [Bool.and_eq_true] at h
      obtain ⟨h1, h2⟩ := h
      split at h2
      · rename_i q2
        obtain ⟨p3, p4, rfl⟩ := asCall_of q2
        simp only [Bool.and_eq_true] at h2
        obtain ⟨rfl, g1, g2⟩ := k.bname h1
        obtain ⟨rfl, g3, g4⟩ := k.bname h2.1.1
        refine both_val (m := .fr) ?_ rfl
        have := d_sset (pos := p2) (p := p) (p2 := p3) (q := p4) k.calm k.unit g1 g2 g3 g4 h2.1.2 (sE a k h2.2).1
        simpa only [ev] using this
      · cases h2
    · cases h
  | .lset a, G, lev, X, c, W, x, k, h => by
    simp only [chkE] at h
    split at h
    · rename_i q
      obtain ⟨p, p2, rfl⟩ := asCall_of q
      rw [Bool.and_eq_true] at h
      obtain ⟨h1, h2⟩ := h
      split at h2
      · rename_i q2
        obtain ⟨p3, p4, rfl⟩ := asCall_of q2
        simp only [Bool.and_eq_true] at h2
        obtain ⟨rfl, g1, g2⟩ := k.bname h1
        obtain ⟨rfl, g3, g4⟩ := k.bname h2.1.1
        refine both_val (m := .sh) ?_ rfl
        have := d_lset (pos := p2) (p := p) (p2 := p3) (q := p4) k.calm k.unit g1 g2 g3 g4 h2.1.2 (sE a k h2.2).1
        simpa only [ev] using this
      · cases h2
    · cases h
  | .lrng a, G, lev, X, c, W, x, k, h => by
    simp only [chkE] at h
    split at h
    · rename_i q
      obtain ⟨p, p2, rfl⟩ := asCall_of q
      rw [Bool.and_eq_true] at h
      obtain ⟨h1, h2⟩ := h
      split at h2
      · rename_i q2
        obtain ⟨p3, p4, rfl⟩ := asCall_of q2
        simp only [Bool.and_eq_true] at h2
        obtain ⟨rfl, g1, g2⟩ := k.bname h1
        obtain ⟨rfl, g3, g4⟩ := k.bname h2.1.1
        refine both_val (m := .fr) ?_ rfl
        have := d_lrng (pos := p2) (p := p) (p2 := p3) (q := p4) k.calm g1 g2 g3 g4 h2.1.2 (sE a k h2.2).1
        simpa only [ev] using this
      · cases h2
    · cases h
  | .idx a b, G, lev, X, c, W, x, k, h => by
    simp only [chkE] at h
    split at h
    · rename_i q
      have e0 := asMeth_of q
      subst e0
      simp only [Bool.and_eq_true, decide_eq_true_eq] at h
      obtain ⟨⟨⟨⟨⟨rfl, h2⟩, h3⟩, h4⟩, h5⟩, h6⟩ := h
      have hu := k.unit
      refine both_val (m := .sh) ?_ rfl
      have := d_idx (by omega) h3 h4 h2 (sE a k h5).1 (sE b k h6).1
      simpa only [ev] using this
    · cases h
  | .dnew, G, lev, X, c, W, x, k, h => by
    simp only [chkE] at h
    split at h
    · rename_i q
      obtain ⟨p, rfl⟩ := asDnew_of q
      refine both_val (m := .fr) ?_ rfl
      have := d_dnew (X := X) (T := T) (W := W) (pos := p)
      simpa only [ev] using this
    · cases h
  | .shr a, G, lev, X, c, W, x, k, h => by
    simp only [chkE, Bool.and_eq_true, decide_eq_true_eq] at h
    obtain ⟨h1, h2⟩ := sE a k h.1.1
    refine (show Both X T W .sh (ev C G (.shr a)) _ from ⟨?_, ?_⟩)
    · have := d_sh h.1.2 h1
      simpa only [ev] using this
    · simpa only [ev] using h2
  | .comp t vs s q e, G, lev, X, c, W, x, k, h => by
    simp only [chkE] at h
    split at h
    · rename_i elt tg iter cnd scope q0
      obtain ⟨p, rfl⟩ := asComp_of q0
      simp only [Bool.and_eq_true, decide_eq_true_eq, List.all_eq_true] at h
      obtain ⟨⟨⟨⟨⟨⟨⟨hk, hb⟩, hv⟩, ht⟩, hs⟩, hn⟩, he⟩, hm⟩ := h
      refine both_val (m := .fr) ?_ rfl
      have hsl : ∀ i ∈ t.slots, i ∈ (ownOf c.N vs).map (·.2) := by rw [ownOf_map]; exact hv
      have hbk : BlkOk X.N X.env.scope scope (ownOf c.N vs) := by rw [k.N, k.sc]; exact blkOk_by hb
      cases cnd with
      | none =>
        have hk : isNop q = true := hk
        have := d_comp (pos := p) (t := t) k.calm k.nd (sSr s k hs) hbk (fun s H A cl fp => tg_ok (k.blk scope s H A cl fp).tg ht) (fun s H A cl fp => (sE e (k.blk scope s H A cl fp) he).1) hn hsl hm
        rw [ownOf_map] at this
        refine peImp this fun σ H Q hq => ?_
        simp only [ev, hk] at hq
        exact hq
      | some y =>
        have hk : (!isNop q && chkE (c.blk scope) q y) = true := hk
        rw [Bool.and_eq_true, Bool.not_eq_true'] at hk
        have := d_compIf (pos := p) (t := t) k.calm k.nd (sSr s k hs) hbk (fun s H A cl fp => tg_ok (k.blk scope s H A cl fp).tg ht) (fun s H A cl fp => (sE q (k.blk scope s H A cl fp) hk.2).2) (fun s H A cl fp => (sE e (k.blk scope s H A cl fp) he).1) hn hsl hm
        rw [ownOf_map] at this
        refine peImp this fun σ H Q hq => ?_
        simp only [ev, hk.1] at hq
        exact hq
    · cases h
  | .told cls a, G, lev, X, c, W, x, k, h => by
    simp only [chkE] at h
    split at h
    · rename_i x ps body scope q
      obtain ⟨p, p2, p3, rfl⟩ := asTl_of q
      simp only [Bool.and_eq_true, decide_eq_true_eq] at h
      obtain ⟨⟨⟨⟨⟨⟨⟨h1, h2⟩, h3⟩, h4⟩, h5⟩, h6⟩, h7⟩, h8⟩ := h
      split at h6
      · rename_i tn tc q2
        simp only [Bool.and_eq_true, decide_eq_true_eq] at h6
        obtain ⟨rfl, rfl⟩ := h6
        obtain ⟨h9, _, _⟩ := plainN_of h5
        refine both_val (m := .sh) ?_ rfl
        by_cases hG : 2 ≤ G.length
        · have := (k.lamb h1 hG).2.2 _ _ q2 (W := W) (pos := p3) (p := p) (lpos := p2) h2 (k.gl h4) h9 (lamS_by (by rw [k.sc]; exact h3)) (fun A outer s H E f c' hr => (sE (G := G.drop 2) (lev := lev - 2) a (k.lmb h1 hG hr) h7).1) h8
          refine peImp this fun σ H Q ⟨ρ, Z, st, hp⟩ => ⟨ρ, Z, st, ?_⟩
          simp only [ev, if_pos hG] at hp
          exact hp
        · refine ⟨fun pins s σ H Q I ⟨ρ, Z, st, hp⟩ => ?_⟩
          simp only [ev, if_neg hG] at hp
          exact hp.elim
      · cases h6
    · cases h
  | .kin neg i a, G, lev, X, c, W, x, k, h => by
    simp only [chkE] at h
    split at h
    · rename_i y op z q
      obtain ⟨p, rfl⟩ := asCmp_of q
      simp only [Bool.and_eq_true, decide_eq_true_eq] at h
      obtain ⟨⟨h1, h2⟩, h3⟩ := h
      split at h3
      · rename_i z' q2
        obtain ⟨p2, rfl⟩ := asName_of q2
        simp only [Bool.and_eq_true] at h3
        obtain ⟨⟨h4, h5⟩, h6⟩ := h3
        split at h4
        · rename_i z'' kvs q3
          obtain rfl := of_decide_eq_true h4
          obtain ⟨d1, d2, d3⟩ := k.dcs _ _ _ q3
          obtain ⟨h7, _, _⟩ := plainN_of h6
          have hz := d_con (T := T) (W := W) (pos := p2) (k.gl h5) d2 (v := .ref (He.ga X.K z'')) rfl (d := .glo z'') (fun _ => rfl) h7
          subst h1
          have hf : ev C G (.kin neg i a) = fun ρ => (do let x ← ev C G a ρ; let y ← RR.ok (D.glo z''); RR.of ((kinB z'' kvs neg x y).map D.bl)) := by
            funext ρ
            simp only [ev, d3, RR.bind_ok]
            congr 1
            funext d
            exact kin_eq
          show Both X T W .sh _ _
          rw [hf]
          exact ⟨d_cmp (pos := p) (op_kinB (T := T) neg d1) (sE a k h2).1 hz rfl, t_cmp (pos := p) (op_kinB (T := T) neg d1) (sE a k h2).1 hz rfl⟩
        · cases h4
      · cases h3
    · cases h
  | .kget i a, G, lev, X, c, W, x, k, h => by
    simp only [chkE] at h
    split at h
    · rename_i z y q
      obtain ⟨p, rfl⟩ := asIx_of q
      simp only [Bool.and_eq_true, decide_eq_true_eq] at h
      obtain ⟨⟨h1, h2⟩, h3⟩ := h
      split at h3
      · rename_i z' q2
        obtain ⟨p2, rfl⟩ := asName_of q2
        simp only [Bool.and_eq_true] at h3
        obtain ⟨⟨h4, h5⟩, h6⟩ := h3
        split at h4
        · rename_i z'' kvs q3
          obtain rfl := of_decide_eq_true h4
          obtain ⟨d1, d2, d3⟩ := k.dcs _ _ _ q3
          obtain ⟨h7, _, _⟩ := plainN_of h6
          have hz := d_con (T := T) (W := W) (pos := p2) (k.gl h5) d2 (v := .ref (He.ga X.K z'')) rfl (d := .glo z'') (fun _ => rfl) h7
          have key := d_ix (pos := p) (ix_kget (T := T) d1) hz (sE a k h1).1 h2
          refine both_val (m := .sh) ?_ rfl
          refine peImp key fun σ H Q ⟨ρ, Z, st, hp⟩ => ⟨ρ, Z, st, ?_⟩
          simp only [ev, d3] at hp
          simp only [RR.bind_ok]
          cases qa : ev C G a ρ with
          | ok d => rw [qa] at hp; simp only [RR.bind_ok] at hp ⊢; rw [← kget_eq]; exact hp
          | ex cc => rw [qa] at hp; exact hp
          | bad => rw [qa] at hp; exact hp
        · cases h4
      · cases h3
    · cases h
  | .ddsp ks l, G, lev, X, c, W, x, k, h => by
    simp only [chkE] at h
    split at h
    · rename_i es vs q
      obtain ⟨p, rfl⟩ := asDisp_of q
      simp only [Bool.and_eq_true, decide_eq_true_eq, Bool.not_eq_true', List.isEmpty_eq_false_iff] at h
      obtain ⟨⟨⟨⟨h1, h2⟩, h3⟩, h4⟩, h5⟩ := h
      have hk := keysB_len h1
      refine both_val (m := .fr) ?_ rfl
      have key := d_dsp (pos := p) (sDp l k h1 (hk.1.trans h3) h2) hk.2 h3 (fun e => by subst e; simp at hk; exact h5 hk) (by omega) h4
      refine peImp key fun σ H Q ⟨ρ, Z, st, hp⟩ => ⟨ρ, Z, st, ?_⟩
      simp only [ev] at hp
      dsimp only
      cases qa : evs C G l ρ with
      | ok xs =>
        rw [qa] at hp; simp only [RR.bind_ok] at hp ⊢
        have := len_evs qa
        have l2 := (len_chk h2).1
        rw [if_pos (by omega)] at hp
        exact hp
      | ex cc => rw [qa] at hp; exact hp
      | bad => rw [qa] at hp; exact hp
    · cases h
  | .call f l, G, lev, X, c, W, x, k, h => by
    simp only [chkE] at h
    split at h
    · rename_i x es q
      obtain ⟨p, p2, rfl⟩ := asCall_of q
      simp only [Bool.and_eq_true] at h
      obtain ⟨⟨⟨h1, h2⟩, h3⟩, h4⟩ := h
      split at h1
      · rename_i y m n q2
        simp only [Bool.and_eq_true, decide_eq_true_eq] at h1
        obtain ⟨⟨rfl, hl⟩, hmd⟩ := h1
        obtain ⟨h5, h6, _⟩ := plainN_of h3
        have F := k.fns f _ _ _ q2
        have emd : (E.call f l).md c.fm = m := hmd
        obtain ⟨l1, l2⟩ := len_chk h4
        refine both_val (m := m) ?_ rfl |> fun z => by rw [emd]; exact z
        cases es with
        | nil =>
          have n0 : n = 0 := hl.symm
          subst n0
          refine peImp (d_call0 (p := p) (pos := p2) F k.room k.tk (k.gl h2) h5) fun σ H Q hq => ?_
          obtain ⟨ρ, Z, st, hp⟩ := hq
          refine ⟨ρ, Z, st, ?_⟩
          cases l with
          | n => exact hp
          | c e l => simp [Es.len] at l1
        | cons e es =>
          refine peImp (d_call (p := p) (pos := p2) F k.room k.tk (k.gl h2) (sEs l k h4) l2 h5) fun σ H Q hq => ?_
          obtain ⟨ρ, Z, st, hp⟩ := hq
          refine ⟨ρ, Z, st, ?_⟩
          simp only [ev] at hp
          dsimp only
          cases q3 : evs C G l ρ with
          | ok xs =>
            rw [q3] at hp
            have := len_evs q3
            simp only [RR.bind_ok]
            rw [if_pos (by omega)]
            exact hp
          | ex c => rw [q3] at hp; exact hp
          | bad => rw [q3] at hp; exact hp
      · cases h1
    · cases h
theorem sA : ∀ (l : Es) {G : GT} {lev : Nat} {X : Cx} {c : Cfg} {W : WX} {xs : List Expr} {pos : Pos}, CtxOk X c T W C G lev → chkA c l xs = true → PE X (.BoolOp .And xs pos) (tD X.K T W ((E.and l).md c.fm) (evA C G l)) ∧ PW X (.BoolOp .And xs pos) (tDT X.K T W fun ρ => evA C G l ρ >>= truR)
  | .n, G, lev, X, c, W, xs, pos, k, h => by simp [chkA] at h
  | .c e l, G, lev, X, c, W, xs, pos, k, h => by
    simp only [chkA] at h
    split at h
    · cases h
    · rename_i y
      rw [Bool.and_eq_true] at h
      cases l with
      | c _ _ => cases h.1
      | n =>
        have h1 := sE e k h.2
        rw [evA_one]
        exact ⟨d_and1 (pos := pos) (op := .And) h1.1, t_and1 (pos := pos) h1.2⟩
    · rename_i y z r
      simp only [Bool.and_eq_true, decide_eq_true_eq] at h
      obtain ⟨⟨⟨h1, h2⟩, h3⟩, h4⟩ := h
      cases l with
      | n => simp [chkA] at h2
      | c e' l' =>
        have i1 := sE e k h1
        obtain ⟨i2, i3⟩ := sA (.c e' l') (pos := pos) k h2
        rw [evA_more]
        exact ⟨d_and (pos := pos) h3 h4 i1.1 i2, t_and (pos := pos) i1.2 i3⟩
theorem sR : ∀ (l : Es) {G : GT} {lev : Nat} {X : Cx} {c : Cfg} {W : WX} {xs : List Expr} {pos : Pos}, CtxOk X c T W C G lev → chkA c l xs = true → PE X (.BoolOp .Or xs pos) (tD X.K T W ((E.and l).md c.fm) (evR C G l)) ∧ PW X (.BoolOp .Or xs pos) (tDT X.K T W fun ρ => evR C G l ρ >>= truR)
  | .n, G, lev, X, c, W, xs, pos, k, h => by simp [chkA] at h
  | .c e l, G, lev, X, c, W, xs, pos, k, h => by
    simp only [chkA] at h
    split at h
    · cases h
    · rename_i y
      rw [Bool.and_eq_true] at h
      cases l with
      | c _ _ => cases h.1
      | n =>
        have h1 := sE e k h.2
        rw [evR_one]
        exact ⟨d_and1 (pos := pos) (op := .Or) h1.1, t_or1 (pos := pos) h1.2⟩
    · rename_i y z r
      simp only [Bool.and_eq_true, decide_eq_true_eq] at h
      obtain ⟨⟨⟨h1, h2⟩, h3⟩, h4⟩ := h
      cases l with
      | n => simp [chkA] at h2
      | c e' l' =>
        have i1 := sE e k h1
        obtain ⟨i2, i3⟩ := sR (.c e' l') (pos := pos) k h2
        rw [evR_more]
        exact ⟨d_or (pos := pos) h3 h4 i1.1 i2, t_or (pos := pos) i1.2 i3⟩
theorem sEs : ∀ (l : Es) {G : GT} {lev : Nat} {X : Cx} {c : Cfg} {W : WX} {sh : Bool} {xs : List Expr}, CtxOk X c T W C G lev → chkEs c sh l xs = true → PA X xs (tDA X.K T W sh (evs C G l))
  | .n, G, lev, X, c, W, sh, xs, k, h => by
    simp only [chkEs, List.isEmpty_iff] at h
    subst h
    have := a_nil (X := X) (T := T) (W := W) (sh := sh)
    simpa only [evs] using this
  | .c e l, G, lev, X, c, W, sh, xs, k, h => by
    simp only [chkEs] at h
    split at h
    · cases h
    · simp only [Bool.and_eq_true, Bool.or_eq_true, Bool.not_eq_true', decide_eq_true_eq] at h
      obtain ⟨⟨⟨h1, h2⟩, h3⟩, h4⟩ := h
      have := a_cons (sh := sh) (fun hs => h3.elim (fun z => by rw [hs] at z; cases z) id) h2 (sE e k h1).1 (sEs l k h4)
      simpa only [evs] using this
theorem sDp : ∀ (l : Es) {G : GT} {lev : Nat} {ks : List Key} {X : Cx} {c : Cfg} {W : WX} {pos : Pos} {es : List (Option Expr)} {vs : List Expr}, CtxOk X c T W C G lev → keysB ks es = true → ks.length = vs.length → chkEs c true l vs = true → DpOk X T W pos es vs ks (evs C G l)
  | .n, G, lev, ks, X, c, W, pos, es, vs, k, h, hl, h2 => by
    simp only [chkEs, List.isEmpty_iff] at h2
    subst h2
    obtain rfl := List.length_eq_zero_iff.mp hl
    obtain rfl := List.length_eq_zero_iff.mp (keysB_len h).1.symm
    have := dp_nil (X := X) (T := T) (W := W) (pos := pos); simpa only [evs] using this
  | .c e l, G, lev, ks, X, c, W, pos, es, vs, k, h, hl, h2 => by
    cases vs with
    | nil => simp [chkEs] at h2
    | cons v vs =>
      cases ks with
      | nil => cases hl
      | cons kk ks =>
        cases es with
        | nil => simp [keysB] at h
        | cons ke es =>
          cases ke with
          | none => simp [keysB] at h
          | some ke =>
            simp only [keysB, Bool.and_eq_true] at h
            obtain ⟨h0, h1⟩ := h
            simp only [chkEs, Bool.and_eq_true, Bool.or_eq_true, Bool.not_eq_true', decide_eq_true_eq] at h2
            obtain ⟨⟨⟨a1, a2⟩, a3⟩, a4⟩ := h2
            have := dp_cons (pos := pos) (key_ok h0) (a3.elim (fun z => by cases z) id) (sE e k a1).1 (sDp l (pos := pos) k h1 (Nat.succ.inj hl) a4)
            simpa only [evs] using this
theorem sSr : ∀ (s : Sr) {G : GT} {lev : Nat} {X : Cx} {c : Cfg} {W : WX} {tg iter : Expr}, CtxOk X c T W C G lev → chkSr c s tg iter = true → SrcOk X T W tg iter (s.bo c.fm) (evr C G s)
  | .seq e, G, lev, X, c, W, tg, iter, k, h => by
    simp only [chkSr] at h
    have := src_seq (tg := tg) (sE e k h).1
    show SrcOk X T W tg iter (decide (e.md c.fm = .bo)) _
    simpa only [evr] using this
  | .rng1 a, G, lev, X, c, W, tg, iter, k, h => by
    simp only [chkSr] at h
    split at h
    · rename_i q
      obtain ⟨p, p2, rfl⟩ := asCall_of q
      simp only [Bool.and_eq_true] at h
      obtain ⟨rfl, g1, g2⟩ := k.bname h.1.1
      have := src_rng1 (tg := tg) (p := p) (pos := p2) g1 g2 h.1.2 (sE a k h.2).1
      show SrcOk X T W tg _ false _
      simpa only [evr] using this
    · cases h
  | .rng2 a b, G, lev, X, c, W, tg, iter, k, h => by
    simp only [chkSr] at h
    split at h
    · rename_i q
      obtain ⟨p, p2, rfl⟩ := asCall_of q
      simp only [Bool.and_eq_true] at h
      obtain ⟨⟨⟨⟨h1, h2⟩, h3⟩, h4⟩, h5⟩ := h
      obtain ⟨rfl, g1, g2⟩ := k.bname h1
      have := src_rng2 (tg := tg) (p := p) (pos := p2) g1 g2 h2 h3 (sE a k h4).1 (sE b k h5).1
      show SrcOk X T W tg _ false _
      simpa only [evr] using this
    · cases h
  | .zip a b, G, lev, X, c, W, tg, iter, k, h => by
    simp only [chkSr] at h
    split at h
    · rename_i q
      obtain ⟨p, p2, rfl⟩ := asCall_of q
      simp only [Bool.and_eq_true, decide_eq_true_eq] at h
      obtain ⟨⟨⟨⟨⟨⟨⟨h0, h1⟩, h2⟩, h3⟩, h4⟩, h5⟩, h6⟩, h7⟩ := h
      obtain ⟨rfl, g1, g2⟩ := k.bname h1
      obtain ⟨es, kk, tp, rfl⟩ : ∃ es kk tp, tg = .Tuple es kk tp := by
        unfold isTup at h0
        split at h0
        · exact ⟨_, _, _, rfl⟩
        · cases h0
      have := src_zip (elts := es) (kk := kk) (tpos := tp) (p := p) (pos := p2) g1 g2 h6 h7 h2 h3 (sE a k h4).1 (sE b k h5).1
      show SrcOk X T W _ _ false _
      simpa only [evr] using this
    · cases h
end
end
end Py
end
section
set_option maxHeartbeats 4000000
namespace Py
open PySem PySem.Spec PyProof.Rows L2 LamX

/-! ### statements -/
mutual
inductive S where
  | set (i : Nat) (e : E) | tset (is : List Nat) (e : E) | tpar (i j : Nat) (l : Es) | app (i : Nat) (e : E) | ext (i : Nat) (e : E) | put (i : Nat) (k e : E)
  | ret (e : E) | retN | retO (i : Nat) | ifs (e : E) (a b : Ss) | exp (e : E) | raise (c : Str) | frz (i : Nat) (s : S) | forr (t : Tg) (r : Sr) (b : Ss) | whl (n : Nat) (c : E) (b : Ss) | cont | brk | pass
inductive Ss where
  | n | c (s : S) (l : Ss)
end
section
variable (fm : List Md) (C : List D) (G : GT)
mutual
def ex : S → Env → RR Out
  | .set i e, ρ => ev C G e ρ >>= fun d => .ok (.nx (ρ.set i (some (mkV (e.md fm) d))))
  | .tset is e, ρ => ev C G e ρ >>= fun d => unpD is d ρ
  | .tpar i j l, ρ => evs C G l ρ >>= fun l => if l.length = 2 then .ok (.nx (setD [i, j] l ρ)) else .bad
  | .app i e, ρ => appO i (ev C G e) ρ
  | .ext i e, ρ => extO i (ev C G e) ρ
  | .put i k e, ρ => putO i (ev C G k) (ev C G e) ρ
  | .ret e, ρ => ev C G e ρ >>= fun d => .ok (.rt d)
  | .retN, _ => .ok (.rt .non)
  | .retO i, ρ => match ρ[i]? with | some (some (true, d)) => .ok (.rt d) | _ => .bad
  | .ifs e a b, ρ => (ev C G e ρ >>= truR) >>= fun k => if k then exs a ρ else exs b ρ
  | .exp e, ρ => ev C G e ρ >>= fun _ => .ok (.nx ρ)
  | .raise c, _ => .ex c
  | .frz i s, ρ => frzD i ρ >>= fun ρ => ex s ρ
  | .forr t r b, ρ => evr C G r ρ >>= fun l => execFor t (fun ρ => exs b ρ) l ρ
  | .whl n c b, ρ => execWhile (fun ρ => ev C G c ρ >>= truR) (fun ρ => exs b ρ) n ρ
  | .cont, ρ => .ok (.ct ρ)
  | .brk, ρ => .ok (.br ρ)
  | .pass, ρ => .ok (.nx ρ)
def exs : Ss → Env → RR Out
  | .n, ρ => .ok (.nx ρ)
  | .c s l, ρ => seqO (ex s ρ) fun ρ => exs l ρ
end
end
/-! shapes -/
def compSc : Expr → Option (Scope × Pos)
  | .ListComp _ _ s p => some (s, p)
  | .SetComp _ _ s p => some (s, p)
  | .DictComp _ _ _ s p => some (s, p)
  | _ => none
/-- x = e swaps -/
def swapB (sc : Scope) (x : Str) (xp : Pos) (e : Expr) : Bool := match compSc e with
  | some (s, p) => localB sc x && (xp.line == p.line) && !(s.names.any fun (n, k) => n == x && (k == .local || k == .cell))
  | none => false
theorem swapB_of {sc : Scope} {x : Str} {xp : Pos} {e : Expr} {l : Nat} {env : PySem.Env} (h : env.scope = sc) (hk : env.blockKind = .function) : swapsWith e (some (.Name x xp)) l env = pure (swapB sc x xp e) := by
  have hl : (env.kindOf x == some .local) = localB sc x := by
    unfold Env.kindOf localB
    rw [h]
    cases sc.names.lookup x with
    | none => rfl
    | some k => cases k <;> rfl
  cases e <;> first
    | rfl
    | (simp only [swapsWith, swapB, compSc, hk, hl, Expr.pos]; rfl)
/-- a, b = e -/
def nmF (sc : Scope) (line : Nat) : Expr → Option Str
  | .Name id pos => if localB sc id && pos.line == line then some id else none
  | _ => none
def lineOf (ts : List Expr) : Nat := (ts.head?.map (·.pos.line)).getD 0
def swpB (sc : Scope) (ts vs : List Expr) : Option (Option (List Str)) :=
  if (!(ts.length == 2 || ts.length == 3) || vs.length != ts.length) = true then some none
  else if vs.all notStar = false then some none
  else if ((ts.filterMap (nmF sc (lineOf ts))).length != ts.length || (ts.filterMap (nmF sc (lineOf ts))).eraseDups.length != (ts.filterMap (nmF sc (lineOf ts))).length) = true then some none
    else if vs.all (foldedForSure 8) = true then some none
    else if vs.all (constantsAlone 8) = true then none
    else some (some (ts.filterMap (nmF sc (lineOf ts))))
theorem swpB_of {sc : Scope} {ts vs : List Expr} {k k2 : Nat} {p p2 : Pos} {env : PySem.Env} {r : Option (List Str)} (h : env.scope = sc) (hk : env.blockKind = .function) (e : swpB sc ts vs = some r) : swappedStores [.Tuple ts k p] (.Tuple vs k2 p2) env = pure r := by
  have hl : ∀ x, (env.kindOf x == some .local) = localB sc x := fun x => by
    unfold Env.kindOf localB
    rw [h]
    cases sc.names.lookup x with
    | none => rfl
    | some k => cases k <;> rfl
  have hst : ∀ vs : List Expr, (vs.any fun | .Starred .. => true | _ => false) = !(vs.all notStar) := fun vs => by
    induction vs with
    | nil => rfl
    | cons v vs ih =>
      rw [List.any_cons, List.all_cons, ih]
      cases v <;> rfl
  unfold swappedStores
  dsimp only
  simp only [hl, hk]
  have hb : (ScopeKind.function != ScopeKind.function) = false := by decide
  rw [hb, Bool.or_false]
  generalize hnm : List.filterMap (nmF sc (lineOf ts)) ts = nms at e
  unfold swpB at e
  rw [hnm] at e
  have key : (if (!(ts.length == 2 || ts.length == 3) || vs.length != ts.length) = true then (pure none : Sem (Option (List Str))) else
      if (vs.any fun | .Starred .. => true | _ => false) = true then pure none else
      if (nms.length != ts.length || nms.eraseDups.length != nms.length) = true then pure none else
      if vs.all (foldedForSure 8) = true then pure none else
      if vs.all (constantsAlone 8) = true then (do unsupported "assign.tuple-of-constant-expressions:order-of-the-stores"; pure (some nms)) else pure (some nms)) = pure r := by
    rw [hst]
    by_cases c1 : (!(ts.length == 2 || ts.length == 3) || vs.length != ts.length) = true
    · rw [if_pos c1] at e ⊢
      cases e; rfl
    · rw [if_neg c1] at e ⊢
      by_cases c2 : vs.all notStar = false
      · rw [if_pos c2] at e
        rw [c2]
        cases e; rfl
      · rw [if_neg c2] at e
        have c2' : vs.all notStar = true := by
          cases q : vs.all notStar with
          | true => rfl
          | false => exact (c2 q).elim
        rw [c2', if_neg (by decide)]
        by_cases c3 : (nms.length != ts.length || nms.eraseDups.length != nms.length) = true
        · rw [if_pos c3] at e ⊢
          cases e; rfl
        · rw [if_neg c3] at e ⊢
          by_cases c4 : vs.all (foldedForSure 8) = true
          · rw [if_pos c4] at e ⊢
            cases e; rfl
          · rw [if_neg c4] at e ⊢
            by_cases c5 : vs.all (constantsAlone 8) = true
            · rw [if_pos c5] at e; cases e
            · rw [if_neg c5] at e ⊢
              cases e; rfl
  rw [← hnm] at key
  exact key
end Py
end
section
set_option maxHeartbeats 4000000
namespace Py
open PySem PySem.Spec PyProof.Rows L2 LamX

/-! ### statements: the checker -/
def asSet : Stmt → Option (Str × Pos × Expr)
  | .Assign [.Name x p] v _ => some (x, p, v)
  | _ => none
def asTset : Stmt → Option (List Expr × Expr)
  | .Assign [.Tuple ts _ _] v _ => some (ts, v)
  | _ => none
def asPar : Stmt → Option (Str × Str × List Expr × Expr × Expr)
  | .Assign [.Tuple [.Name x px, .Name y py] _ _] (.Tuple [a, b] _ _) _ => some (x, y, [.Name x px, .Name y py], a, b)
  | _ => none
def asMS : Stmt → Option (Str × Str × Pos × Expr × Pos)
  | .Expr (.Call (.Attribute (.Name x _) m p) [e] [] q) _ => some (x, m, p, e, q)
  | _ => none
def asPut : Stmt → Option (Str × Expr × Expr)
  | .Assign [.Subscript (.Name x _) k _] v _ => some (x, k, v)
  | _ => none
def asRet : Stmt → Option Expr
  | .Return (some e) _ => some e
  | _ => none
def asRetN : Stmt → Option Unit
  | .Return none _ => some ()
  | _ => none
def asIfS : Stmt → Option (Expr × List Stmt × List Stmt)
  | .If c a b _ => some (c, a, b)
  | _ => none
def asExpS : Stmt → Option Expr
  | .Expr e _ => some e
  | _ => none
def asRaise : Stmt → Option (Str × Str)
  | .Raise (some (.Call (.Name x _) [.Constant (.str m) _ _] [] _)) none _ => some (x, m)
  | _ => none
def asFor : Stmt → Option (Expr × Expr × List Stmt)
  | .For t i b [] _ => some (t, i, b)
  | _ => none
def asWhl : Stmt → Option (Expr × List Stmt)
  | .While c b [] _ => some (c, b)
  | _ => none
def asKw : Stmt → Option Nat
  | .Pass _ => some 0 | .Break _ => some 1 | .Continue _ => some 2 | _ => none
theorem asSet_of {s : Stmt} {x p v} (h : asSet s = some (x, p, v)) : ∃ q, s = .Assign [.Name x p] v q := by unfold asSet at h; split at h <;> cases h; exact ⟨_, rfl⟩
theorem asTset_of {s : Stmt} {ts v} (h : asTset s = some (ts, v)) : ∃ k p q, s = .Assign [.Tuple ts k p] v q := by unfold asTset at h; split at h <;> cases h; exact ⟨_, _, _, rfl⟩
theorem asPar_of {s : Stmt} {x y ts a b} (h : asPar s = some (x, y, ts, a, b)) : ∃ px py k p k2 p2 q, ts = [.Name x px, .Name y py] ∧ s = .Assign [.Tuple [.Name x px, .Name y py] k p] (.Tuple [a, b] k2 p2) q := by unfold asPar at h; split at h <;> cases h; exact ⟨_, _, _, _, _, _, _, rfl, rfl⟩
theorem asMS_of {s : Stmt} {x m p e q} (h : asMS s = some (x, m, p, e, q)) : ∃ p1 p2, s = .Expr (.Call (.Attribute (.Name x p1) m p) [e] [] q) p2 := by unfold asMS at h; split at h <;> cases h; exact ⟨_, _, rfl⟩
theorem asPut_of {s : Stmt} {x k v} (h : asPut s = some (x, k, v)) : ∃ p1 p2 q, s = .Assign [.Subscript (.Name x p1) k p2] v q := by unfold asPut at h; split at h <;> cases h; exact ⟨_, _, _, rfl⟩
theorem asRet_of {s : Stmt} {e} (h : asRet s = some e) : ∃ q, s = .Return (some e) q := by unfold asRet at h; split at h <;> cases h; exact ⟨_, rfl⟩
theorem asRetN_of {s : Stmt} {e} (h : asRetN s = some e) : ∃ q, s = .Return none q := by unfold asRetN at h; split at h <;> cases h; exact ⟨_, rfl⟩
theorem asIfS_of {s : Stmt} {c a b} (h : asIfS s = some (c, a, b)) : ∃ q, s = .If c a b q := by unfold asIfS at h; split at h <;> cases h; exact ⟨_, rfl⟩
theorem asExpS_of {s : Stmt} {e} (h : asExpS s = some e) : ∃ q, s = .Expr e q := by unfold asExpS at h; split at h <;> cases h; exact ⟨_, rfl⟩
theorem asRaise_of {s : Stmt} {x m} (h : asRaise s = some (x, m)) : ∃ p j p2 p3 q, s = .Raise (some (.Call (.Name x p) [.Constant (.str m) j p2] [] p3)) none q := by unfold asRaise at h; split at h <;> cases h; exact ⟨_, _, _, _, _, rfl⟩
theorem asFor_of {s : Stmt} {t i b} (h : asFor s = some (t, i, b)) : ∃ q, s = .For t i b [] q := by unfold asFor at h; split at h <;> cases h; exact ⟨_, rfl⟩
theorem asWhl_of {s : Stmt} {c b} (h : asWhl s = some (c, b)) : ∃ q, s = .While c b [] q := by unfold asWhl at h; split at h <;> cases h; exact ⟨_, rfl⟩
mutual
def chkS (c : Cfg) (mr : Md) : S → Stmt → Bool
  | .set i e, s => match asSet s with | some (x, p, v) => c.tgOk i x && chkE c e v && decide (e.md c.fm ≠ .bo) && (!swapB c.sc x p v || localB c.sc x) | _ => false
  | .tset is e, s => match asTset s with | some (ts, v) => tgsB c is ts && chkE c e v && decide (e.md c.fm ≠ .bo) && notComp v && (match asTup v with | none => notTuple v | some vs => decide (swpB c.sc ts vs = some none)) | _ => false
  | .tpar i j l, s => match asPar s with | some (x, y, ts, a, b) => decide (c.N[i]? = some x) && decide (c.N[j]? = some y) && decide (i ≠ j) && localB c.sc x && localB c.sc y && chkEs c true l [a, b] && decide (swpB c.sc ts [a, b] = some (some [x, y])) | _ => false
  | .app i e, s => match asMS s with | some (x, m, p, v, q) => c.var i x && decide (m = "append") && (p.endLine == q.line) && notStar v && chkE c e v && decide (e.md c.fm ≠ .bo) | _ => false
  | .ext i e, s => match asMS s with | some (x, m, p, v, q) => c.var i x && decide (m = "extend") && (p.endLine == q.line) && notStar v && chkE c e v | _ => false
  | .put i k e, s => match asPut s with | some (x, y, v) => c.var i x && notComp v && chkE c k y && chkE c e v && decide (e.md c.fm ≠ .bo) | _ => false
  | .ret e, s => match asRet s with | some x => chkE c e x && decide (e.md c.fm ≠ .bo) && (decide (mr = .sh) || (decide (mr = .fr) && decide (e.md c.fm = .fr))) | _ => false
  | .retN, s => match asRetN s with | some _ => decide (mr = .sh) | _ => false
  | .retO i, s => match asRet s with | some v => (match asName v with | some x => c.var i x | _ => false) && decide (mr ≠ .bo) | _ => false
  | .ifs e a b, s => match asIfS s with | some (x, y, z) => chkE c e x && chkSs c mr a y && chkSs c mr b z | _ => false
  | .exp e, s => match asExpS s with | some x => notComp x && chkE c e x | _ => false
  | .raise n, s => match asRaise s with | some (x, _) => decide (x = n) && decide (x ∈ c.t.excs) && gloB c.sc x && plainN x | _ => false
  | .frz _ s', s => chkS c mr s' s
  | .forr t r b, s => match asFor s with | some (x, y, z) => tgB c t x && chkSr c r x y && !r.bo c.fm && notSet y && chkSs c mr b z | _ => false
  | .whl _ e b, s => match asWhl s with | some (x, y) => chkE c e x && chkSs c mr b y | _ => false
  | .cont, s => decide (asKw s = some 2)
  | .brk, s => decide (asKw s = some 1)
  | .pass, s => decide (asKw s = some 0)
def chkSs (c : Cfg) (mr : Md) : Ss → List Stmt → Bool
  | .n, l => l.isEmpty
  | .c s l, xs => match xs with | [] => false | x :: r => chkS c mr s x && chkSs c mr l r
end
structure StOk (X : Cx) (c : Cfg) (T : Tb) (W : WX) (C : List D) (G : GT) (lev : Nat) : Prop where
  k : CtxOk X c T W C G lev
  kind : X.env.scope.kind = .function
  own : PassesOwn (model X.prog X.w) X.A X.env X.xe
  exc : ∀ x ∈ c.t.excs, X.mg x = some (.ref (He.ga X.K x)) ∧ (He.Fa.exc x).ok X.K = true
theorem StOk.bk {X : Cx} {c : Cfg} {T : Tb} {W : WX} {C : List D} {G : GT} {lev : Nat} (h : StOk X c T W C G lev) : X.env.blockKind = .function := by
  unfold Env.blockKind
  rw [h.kind]; rfl
section
variable {T : Tb} {C : List D} {G : GT} {lev : Nat} {X : Cx} {c : Cfg} {W : WX} {mr : Md}
theorem s_setFrz {i : Nat} {st : Stmt} {g : Env → RR D} (h : PS X st (tS X.K T W mr fun ρ => g ρ >>= fun d => .ok (.nx (ρ.set i (some (true, d)))))) : PS X st (tS X.K T W mr fun ρ => g ρ >>= fun d => .ok (.nx (ρ.set i (some (false, d))))) := by
  refine psImp h fun D σ H ⟨H0, Z0, G0, Z, ρ, hz, s, p⟩ => ⟨H0, Z0, G0, Z, ρ, hz, s, ?_⟩
  dsimp only at p ⊢
  cases q : g ρ with
  | ex c => rw [q] at p; exact p
  | bad => rw [q] at p; exact p
  | ok d =>
    rw [q] at p
    intro Z' σ' H' s'
    by_cases hi : i < ρ.length
    · have e : (ρ.set i (some (true, d)))[i]? = some (some (true, d)) := by rw [List.getElem?_set_self hi]
      obtain ⟨v, e1, a, rfl, za, oa⟩ := s'.e.slot i _ e
      have := s'.frz hz e e1
      rw [List.set_set] at this
      exact p _ _ _ this
    · have e : ∀ o, ρ.set i o = ρ := fun o => List.set_eq_of_length_le (by omega)
      rw [e] at s'
      refine p Z' σ' H' ?_
      rw [e]; exact s'
theorem comp_not {e : E} {v : Expr} {x : Str} {px : Pos} (h1 : ∀ t vs s q e', e ≠ .comp t vs s q e') (h2 : ∀ a, e ≠ .shr a) (h : chkE c e v = true) (hsw : swapB c.sc x px v = true) : False := by
  cases e <;> first
    | (exact h1 _ _ _ _ _ rfl)
    | (exact h2 _ rfl)
    | (cases v <;> first | (simp [chkE, asConst, asName, asBin, asCmp, asChn, asIx, asSl, asNot, asNeg, asAnd, asOr, asIf, asTup, asLst, asCall, asMeth, asDnew, asTl, asDisp] at h; done) | (simp [swapB, compSc] at hsw; done))
theorem comp_set {i : Nat} {x : Str} {px : Pos} {v : Expr} {pos : Pos} {e : E} (k : StOk X c T W C G lev) (ht : c.tgOk i x = true) (hl : localB c.sc x = true) (hsw : swapB c.sc x px v = true) (h0 : chkE c e v = true) :
    PS X (.Assign [.Name x px] v pos) (tS X.K T W mr fun ρ => ev C G e ρ >>= fun d => .ok (.nx (ρ.set i (some (mkV (e.md c.fm) d))))) := by
  have hsw2 : swapsWith v (some (.Name x px)) pos.line X.env = pure true := by rw [swapB_of k.k.sc k.bk, hsw]
  obtain ⟨hN, _, _⟩ := k.k.tg.ok ht
  have hyl : X.env.scope.names.lookup x = some .local := by rw [k.k.sc]; exact localB_of hl
  have main : ∀ e : E, (∃ t vs s q e', e = .comp t vs s q e') → chkE c e v = true → PS X (.Assign [.Name x px] v pos) (tS X.K T W mr fun ρ => ev C G e ρ >>= fun d => .ok (.nx (ρ.set i (some (true, d))))) := ?_
  · cases e with
    | comp t vs s q e' => exact main _ ⟨_, _, _, _, _, rfl⟩ h0
    | shr a =>
      have h := h0
      simp only [chkE, Bool.and_eq_true] at h
      cases a with
      | comp t vs s q e' =>
        have := s_setFrz (main _ ⟨_, _, _, _, _, rfl⟩ h.1.1)
        refine psImp this fun D σ H hq => ?_
        simp only [ev] at hq ⊢
        exact hq
      | shr _ => simp [isShr] at h
      | _ => exact (comp_not (by intro t vs s q e h; cases h) (by intro a h; cases h) h.1.1 hsw).elim
    | _ => exact (comp_not (by intro t vs s q e h; cases h) (by intro a h; cases h) h0 hsw).elim
  clear h0
  rintro _ ⟨t, vs, s, q, e', rfl⟩ h
  simp only [chkE] at h
  split at h
  · rename_i elt tg iter cnd scope q0
    obtain ⟨p, rfl⟩ := asComp_of q0
    simp only [Bool.and_eq_true, decide_eq_true_eq, List.all_eq_true] at h
    obtain ⟨⟨⟨⟨⟨⟨⟨hk, hb⟩, hv⟩, ht⟩, hs⟩, hn⟩, he⟩, hm⟩ := h
    have hsl : ∀ i ∈ t.slots, i ∈ (ownOf c.N vs).map (·.2) := by rw [ownOf_map]; exact hv
    have hbk : BlkOk X.N X.env.scope scope (ownOf c.N vs) := by rw [k.k.N, k.k.sc]; exact blkOk_by hb
    cases cnd with
    | none =>
      have hk : isNop q = true := hk
      have := s_setLc (mr := mr) (spos := pos) (pos := p) (t := t) k.k.calm k.k.nd hN hyl hsw2 (sSr s k.k hs) hbk (fun s H A cl fp => tg_ok (k.k.blk scope s H A cl fp).tg ht) (fun s H A cl fp => (sE e' (k.k.blk scope s H A cl fp) he).1) hn hsl hm
      rw [ownOf_map] at this
      refine psImp this fun D σ H hq => ?_
      simp only [ev, hk] at hq
      exact hq
    | some y =>
      have hk : (!isNop q && chkE (c.blk scope) q y) = true := hk
      rw [Bool.and_eq_true, Bool.not_eq_true'] at hk
      have := s_setLcIf (mr := mr) (spos := pos) (pos := p) (t := t) k.k.calm k.k.nd hN hyl hsw2 (sSr s k.k hs) hbk (fun s H A cl fp => tg_ok (k.k.blk scope s H A cl fp).tg ht) (fun s H A cl fp => (sE q (k.k.blk scope s H A cl fp) hk.2).2) (fun s H A cl fp => (sE e' (k.k.blk scope s H A cl fp) he).1) hn hsl hm
      rw [ownOf_map] at this
      refine psImp this fun D σ H hq => ?_
      simp only [ev, hk.1] at hq
      exact hq
  · cases h
mutual
theorem sS : ∀ (s : S) {X : Cx} {c : Cfg} {W : WX} {mr : Md} {st : Stmt}, StOk X c T W C G lev → chkS c mr s st = true → PS X st (tS X.K T W mr (ex c.fm C G s))
  | .set i e, X, c, W, mr, st, k, h => by
    simp only [chkS] at h
    split at h
    · rename_i x p v q
      obtain ⟨pos, rfl⟩ := asSet_of q
      simp only [Bool.and_eq_true, decide_eq_true_eq, Bool.or_eq_true, Bool.not_eq_true'] at h
      obtain ⟨⟨⟨h1, h2⟩, h3⟩, h4⟩ := h
      obtain ⟨g1, g2, g3⟩ := k.k.tg.ok h1
      cases hsw : swapB c.sc x p v with
      | false =>
        have := s_set (mr := mr) (pos := pos) (px := p) h3 k.k.nd g1 g2 g3 (by rw [swapB_of k.k.sc k.bk, hsw]) (sE e k.k h2).1
        simpa only [ex] using this
      | true =>
        have h4 : localB c.sc x = true := h4.elim (fun z => by rw [hsw] at z; cases z) id
        have := comp_set (mr := mr) (pos := pos) k h1 h4 hsw h2
        simpa only [ex] using this
    · cases h
  | .tset is e, X, c, W, mr, st, k, h => by
    simp only [chkS] at h
    split at h
    · rename_i ts v q
      obtain ⟨kt, pt, pos, rfl⟩ := asTset_of q
      simp only [Bool.and_eq_true, decide_eq_true_eq] at h
      obtain ⟨⟨⟨⟨h1, h2⟩, h3⟩, h4⟩, h5⟩ := h
      have hw : swappedStores [.Tuple ts kt pt] v X.env = pure none := by
        split at h5
        · exact stores_of h5 _
        · rename_i vs q2
          obtain ⟨k2, p2, rfl⟩ := asTup_of q2
          exact swpB_of k.k.sc k.bk (of_decide_eq_true h5)
      have := s_tset (mr := mr) (pos := pos) h3 k.k.calm (tgs_ok k.k.tg h1) h4 hw (sE e k.k h2).1
      simpa only [ex] using this
    · cases h
  | .tpar i j l, X, c, W, mr, st, k, h => by
    simp only [chkS] at h
    split at h
    · rename_i x y ts a b q
      obtain ⟨px, py, kt, pt, k2, p2, pos, rfl, rfl⟩ := asPar_of q
      simp only [Bool.and_eq_true, decide_eq_true_eq] at h
      obtain ⟨⟨⟨⟨⟨⟨h1, h2⟩, h3⟩, h4⟩, h5⟩, h6⟩, h7⟩ := h
      have := s_tpar (mr := mr) (pos := pos) (pt := pt) (pt2 := p2) (kt := kt) (k2 := k2) k.k.calm k.k.nd (by rw [k.k.N]; exact h1) (by rw [k.k.N]; exact h2) h3 (by rw [k.k.sc]; exact localB_of h4) (by rw [k.k.sc]; exact localB_of h5) (sEs l k.k h6) (swpB_of k.k.sc k.bk h7)
      simpa only [ex] using this
    · cases h
  | .app i e, X, c, W, mr, st, k, h => by
    simp only [chkS] at h
    split at h
    · rename_i x m p v q0 q
      obtain ⟨p1, p2, rfl⟩ := asMS_of q
      simp only [Bool.and_eq_true, decide_eq_true_eq] at h
      obtain ⟨⟨⟨⟨⟨h1, rfl⟩, h3⟩, h4⟩, h5⟩, h6⟩ := h
      obtain ⟨g1, g2, g3, g4⟩ := k.k.var h1
      have := s_app (mr := mr) (pos := p2) (p1 := p1) h6 g1 g2 g3 g4 h4 h3 (sE e k.k h5).1
      exact psImp this fun D σ H hq => by simpa only [ex] using hq
    · cases h
  | .ext i e, X, c, W, mr, st, k, h => by
    simp only [chkS] at h
    split at h
    · rename_i x m p v q0 q
      obtain ⟨p1, p2, rfl⟩ := asMS_of q
      simp only [Bool.and_eq_true, decide_eq_true_eq] at h
      obtain ⟨⟨⟨⟨h1, rfl⟩, h3⟩, h4⟩, h5⟩ := h
      obtain ⟨g1, g2, g3, g4⟩ := k.k.var h1
      have := s_ext (mr := mr) (pos := p2) (p1 := p1) g1 g2 g3 g4 h4 h3 (sE e k.k h5).1
      exact psImp this fun D σ H hq => by simpa only [ex] using hq
    · cases h
  | .put i y e, X, c, W, mr, st, k, h => by
    simp only [chkS] at h
    split at h
    · rename_i x z v q
      obtain ⟨p1, p2, p3, rfl⟩ := asPut_of q
      simp only [Bool.and_eq_true, decide_eq_true_eq] at h
      obtain ⟨⟨⟨⟨h1, h2⟩, h3⟩, h4⟩, h5⟩ := h
      obtain ⟨g1, g2, g3, g4⟩ := k.k.var h1
      have hu := k.k.unit
      have := s_put (mr := mr) (pos := p3) (p1 := p1) (p2 := p2) (by omega) h5 g1 g2 g3 g4 h2 (sE y k.k h3).1 (sE e k.k h4).1
      exact psImp this fun D σ H hq => by simpa only [ex] using hq
    · cases h
  | .ret e, X, c, W, mr, st, k, h => by
    simp only [chkS] at h
    split at h
    · rename_i x q
      obtain ⟨pos, rfl⟩ := asRet_of q
      simp only [Bool.and_eq_true, decide_eq_true_eq, Bool.or_eq_true] at h
      have := s_ret (pos := pos) h.1.2 h.2 (sE e k.k h.1.1).1
      simpa only [ex] using this
    · cases h
  | .retN, X, c, W, mr, st, k, h => by
    simp only [chkS] at h
    split at h
    · rename_i q
      obtain ⟨pos, rfl⟩ := asRetN_of q
      obtain rfl := of_decide_eq_true h
      have := s_retN (X := X) (T := T) (W := W) (pos := pos)
      simpa only [ex] using this
    · cases h
  | .retO i, X, c, W, mr, st, k, h => by
    simp only [chkS] at h
    split at h
    · rename_i v q
      obtain ⟨pos, rfl⟩ := asRet_of q
      rw [Bool.and_eq_true] at h
      obtain ⟨h1, h2⟩ := h
      split at h1
      · rename_i x q2
        obtain ⟨p1, rfl⟩ := asName_of q2
        obtain ⟨g1, g2, g3, g4⟩ := k.k.var h1
        have := s_retO (T := T) (W := W) (mr := mr) (pos := pos) (p1 := p1) (of_decide_eq_true h2) g1 g2 g3 g4
        exact this
      · cases h1
    · cases h
  | .ifs e a b, X, c, W, mr, st, k, h => by
    simp only [chkS] at h
    split at h
    · rename_i x y z q
      obtain ⟨pos, rfl⟩ := asIfS_of q
      simp only [Bool.and_eq_true] at h
      have := s_if (mr := mr) (pos := pos) (sE e k.k h.1.1).2 (sSs a k h.1.2) (sSs b k h.2)
      simpa only [ex] using this
    · cases h
  | .exp e, X, c, W, mr, st, k, h => by
    simp only [chkS] at h
    split at h
    · rename_i x q
      obtain ⟨pos, rfl⟩ := asExpS_of q
      rw [Bool.and_eq_true] at h
      have := s_exp (mr := mr) (pos := pos) h.1 (sE e k.k h.2).1
      simpa only [ex] using this
    · cases h
  | .raise n, X, c, W, mr, st, k, h => by
    simp only [chkS] at h
    split at h
    · rename_i x m q
      obtain ⟨p, j, p2, p3, pos, rfl⟩ := asRaise_of q
      simp only [Bool.and_eq_true, decide_eq_true_eq] at h
      obtain ⟨⟨⟨rfl, h2⟩, h3⟩, h4⟩ := h
      obtain ⟨h5, _, _⟩ := plainN_of h4
      obtain ⟨e1, e2⟩ := k.exc _ h2
      obtain ⟨a1, a2, a3, a4⟩ := He.exc_ok e2
      have := s_raise (T := T) (mr := mr) (pos := pos) k.k.calm k.k.tk (L2N.pmk_own (m := m) (j := j) (p := p) (p2 := p2) (pos := p3) PySem.F.excBase_ValueError a1 e1 a2 (raises_own a3 a4) (k.k.gl h3) h5)
      simpa only [ex] using this
    · cases h
  | .frz i s', X, c, W, mr, st, k, h => by
    simp only [chkS] at h
    have := s_frz (i := i) (sS s' k h)
    exact psImp this fun D σ H hq => by simpa only [ex] using hq
  | .forr t r b, X, c, W, mr, st, k, h => by
    simp only [chkS] at h
    split at h
    · rename_i x y z q
      obtain ⟨pos, rfl⟩ := asFor_of q
      simp only [Bool.and_eq_true, Bool.not_eq_true'] at h
      obtain ⟨⟨⟨⟨h1, h2⟩, h3⟩, h4⟩, h5⟩ := h
      have hs := sSr r k.k h2
      rw [h3] at hs
      have := s_for (mr := mr) (pos := pos) k.own k.k.calm hs (tg_ok k.k.tg h1) (sSs b k h5) h4
      simpa only [ex] using this
    · cases h
  | .whl n e b, X, c, W, mr, st, k, h => by
    simp only [chkS] at h
    split at h
    · rename_i x y q
      obtain ⟨pos, rfl⟩ := asWhl_of q
      rw [Bool.and_eq_true] at h
      have := s_while (mr := mr) (pos := pos) (n := n) k.own (sE e k.k h.1).2 (sSs b k h.2)
      simpa only [ex] using this
    · cases h
  | .cont, X, c, W, mr, st, k, h => by
    simp only [chkS, decide_eq_true_eq] at h
    obtain ⟨pos, rfl⟩ : ∃ p, st = .Continue p := by
      cases st <;> simp [asKw] at h ⊢
    have := s_cont (X := X) (T := T) (W := W) (mr := mr) (pos := pos)
    exact this
  | .brk, X, c, W, mr, st, k, h => by
    simp only [chkS, decide_eq_true_eq] at h
    obtain ⟨pos, rfl⟩ : ∃ p, st = .Break p := by
      cases st <;> simp [asKw] at h ⊢
    have := s_brk (X := X) (T := T) (W := W) (mr := mr) (pos := pos)
    exact this
  | .pass, X, c, W, mr, st, k, h => by
    simp only [chkS, decide_eq_true_eq] at h
    obtain ⟨pos, rfl⟩ : ∃ p, st = .Pass p := by
      cases st <;> simp [asKw] at h ⊢
    have := s_pass (X := X) (T := T) (W := W) (mr := mr) (pos := pos)
    exact this
theorem sSs : ∀ (l : Ss) {X : Cx} {c : Cfg} {W : WX} {mr : Md} {xs : List Stmt}, StOk X c T W C G lev → chkSs c mr l xs = true → PSs X xs (tS X.K T W mr (exs c.fm C G l))
  | .n, X, c, W, mr, xs, k, h => by
    simp only [chkSs, List.isEmpty_iff] at h
    subst h
    have := s_nil (X := X) (T := T) (W := W) (mr := mr)
    simpa only [exs] using this
  | .c s l, X, c, W, mr, xs, k, h => by
    simp only [chkSs] at h
    split at h
    · cases h
    · rw [Bool.and_eq_true] at h
      have := s_cons (sS s k h.1) (sSs l k h.2)
      simpa only [exs] using this
end
end
end Py
end
section
set_option maxHeartbeats 4000000
namespace Py
open PySem PySem.Spec PyProof.Rows L2 LamX
/-! ### parameters are bound -/
def plainArgs (a : Arguments) (ps : List Str) : Bool := a.posonlyargs.isEmpty && decide (a.args.map (·.arg) = ps) && a.vararg.isNone && a.kwonlyargs.isEmpty && a.kwarg.isNone && decide ps.Nodup
theorem look_zip : ∀ {ps : List Str} {us : List Value}, us.length = ps.length → ∀ x ∈ ps, ((ps.zip us).lookup x).isSome = true
  | [], us, h, x, hx => by cases hx
  | p :: ps, [], h, x, hx => by simp at h
  | p :: ps, u :: us, h, x, hx => by
    rw [List.zip_cons_cons, List.lookup_cons]
    by_cases e : x == p
    · rw [e]; rfl
    · rw [show (x == p) = false by simpa using e]
      rcases List.mem_cons.mp hx with rfl | hx
      · simp at e
      · exact look_zip (by simpa using h) x hx
theorem filt_zip : ∀ {ps : List Str} {us : List Value}, ps.Nodup → us.length = ps.length → ps.filterMap (fun n => ((ps.zip us).lookup n).map (n, ·)) = ps.zip us
  | [], us, _, h => by simp
  | p :: ps, [], _, h => by simp at h
  | p :: ps, u :: us, nd, h => by
    obtain ⟨n1, n2⟩ := List.nodup_cons.mp nd
    rw [List.zip_cons_cons, List.filterMap_cons, List.lookup_cons_self]
    simp only [Option.map_some]
    congr 1
    have e : ∀ x ∈ ps, List.lookup x ((p, u) :: ps.zip us) = List.lookup x (ps.zip us) := fun x hx => by
      rw [List.lookup_cons]
      have : (x == p) = false := by
        cases q : x == p with
        | false => rfl
        | true => exact (n1 (beq_iff_eq.mp q ▸ hx)).elim
      rw [this]
    have cong : ∀ (l : List Str) (f g : Str → Option (Str × Value)), (∀ x ∈ l, f x = g x) → l.filterMap f = l.filterMap g := by
      intro l f g
      induction l with
      | nil => intro _; rfl
      | cons a l ih =>
        intro hh
        rw [List.filterMap_cons, List.filterMap_cons, hh a List.mem_cons_self, ih fun x hx => hh x (List.mem_cons_of_mem _ hx)]
    refine (cong ps _ (fun n => ((ps.zip us).lookup n).map (n, ·)) fun x hx => by rw [e x hx]).trans (filt_zip n2 (by simpa using h))
theorem bind_all {x qual : Str} {params : Arguments} {body : List Stmt} {scope : Scope} {kV doc pm : Value} {an : Option Addr} {cdv ct : Value} {ps : List Str} {us : List Value} (h : plainArgs params ps = true) (hl : us.length = ps.length) :
    bindArgs (PySem.W.fnOf x qual params body scope .none kV doc pm an cdv ct) ⟨us, []⟩ = pure (ps.zip us) := by
  simp only [plainArgs, Bool.and_eq_true, decide_eq_true_eq, List.isEmpty_iff, Option.isNone_iff_eq_none] at h
  obtain ⟨⟨⟨⟨⟨h1, h2⟩, h3⟩, h4⟩, h5⟩, h6⟩ := h
  obtain ⟨po, ar, va, ko, kd, kw, df⟩ := params
  simp only at h1 h2 h3 h4 h5
  subst h1 h3 h4 h5
  have e1 : List.filter (fun n => (List.lookup n (ps.zip us)).isNone) ps = [] := by
    rw [List.filter_eq_nil_iff]
    intro a ha
    have := look_zip (us := us) hl a ha
    cases q : List.lookup a (ps.zip us) with
    | none => rw [q] at this; cases this
    | some v => simp
  have e0 : seqItems? Value.none = pure none := rfl
  have e2 := filt_zip h6 hl
  unfold bindArgs
  dsimp only [PySem.W.fnOf]
  simp only [e0, h2, List.map_nil, List.nil_append, pure_bind, List.forIn_nil, hl]
  simp [e1, e2]

def startD (n : Nat) (l : List D) : Env := l.map (fun d => some (false, d)) ++ List.replicate (n - l.length) none
theorem stE_start {K : PySem.W.Frag} {T : Tb} {Z : Addr → Bool} {H : Hp} {N : List Str} {ds : List D} {vs : List V} (hz : ∀ a, Z a = true → ¬ FreshAt H a) (t : Tabs T H) (r : Reps K (hide H Z) ds vs) : StE K T Z (L2.start N vs) H (startD N.length ds) := by
  have hl := r.length
  refine ⟨fun i s e => ?_, fun i j a d e q1 => ?_, hz, t, ?_⟩
  · unfold startD at e
    by_cases hi : i < ds.length
    · rw [List.getElem?_append_left (by simpa using hi), List.getElem?_map] at e
      cases q : ds[i]? with
      | none => rw [q] at e; cases e
      | some d =>
        rw [q] at e
        cases e
        obtain ⟨v, q1, q2⟩ := r.get q
        refine ⟨v, ?_, q2⟩
        unfold L2.start
        rw [List.getElem?_append_left (by rw [List.length_map, hl]; exact hi), List.getElem?_map, q1]; rfl
    · rw [List.getElem?_append_right (by simpa using Nat.le_of_not_lt hi)] at e
      rw [List.getElem?_replicate] at e
      split at e <;> cases e
  · exfalso
    unfold startD at q1
    by_cases hi : i < ds.length
    · rw [List.getElem?_append_left (by simpa using hi), List.getElem?_map] at q1
      cases q : ds[i]? with
      | none => rw [q] at q1; cases q1
      | some d => rw [q] at q1; cases q1
    · rw [List.getElem?_append_right (by simpa using Nat.le_of_not_lt hi)] at q1
      rw [List.getElem?_replicate] at q1
      split at q1 <;> cases q1
  · unfold startD L2.start
    rw [List.length_append, List.length_append, List.length_map, List.length_map, List.length_replicate, List.length_replicate, hl]
end Py
end
section
set_option maxHeartbeats 2000000
namespace Py
open PySem PySem.Spec PyProof.Rows L2
/-! ### lists walked while an exception is handled -/
section
variable {prog : Program} {w : World} {A : Around} {E : Value → Shared → Prop} {s : Shared}
theorem list_end_hot {it l x1 : Addr} {i : Nat} {items : Array Value} {Q : Option Value → Shared → Prop} (hot : HotX.HotAt A x1 s.heap) (hne : x1 ≠ it) (hit : s.heap.IsListIter it l i) (hl : s.heap.IsList l items) (hx : items[i]? = none)
    (hQ : ∀ h', Heap.ExtBut it s.heap h' → Q none { s with heap := h' }) : wpAny (model prog w) A (pyNext (.ref it)) Q E s := by
  obtain ⟨o, ho, hc, hd⟩ := id hit
  obtain ⟨ol, hol, _, nl, hdl⟩ := hl
  obtain ⟨hh, o1, vs1, h1, d1, c1⟩ := hot
  unfold pyNext
  refine wpAny_bind (wpAny_attempt (wpAny_callSpecial?_slot (name := Str.ofString "__next__") hit.typeIs slot_listiter_next
    (wpAny_call_entry slot_listiter_next hit.typeIs entry_listiter_next ?_ (args_listiter_next _))))
  show wpAny _ _ (field (.ref it) 0 >>= _) _ _ s
  refine wpAny_bind (wpAny_field ho hd (x := .ref l) rfl ?_)
  show wpAny _ _ (if (Value.ref l == Value.none) = true then _ else _) _ _ s
  rw [if_neg (show ¬ ((Value.ref l == Value.none) = true) from Bool.false_ne_true)]
  show wpAny _ _ (field (.ref it) 1 >>= _) _ _ s
  refine wpAny_bind (wpAny_field ho hd (x := .int i 0) rfl ?_)
  show wpAny _ _ (seqItems? (.ref l) >>= _) _ _ s
  refine wpAny_bind (wpAny_seqItems hol hdl ?_)
  simp only [Int.toNat_natCast, hx]
  refine wpAny_bind (wpAny_rule (wpAny_bind (wpAny_setField ho hd (by simp) ?_)))
  show wpAny _ _ (newExc (.type "StopIteration") [] >>= _) _ _ _
  refine wpAny_bind ?_
  simp only [newExc, newTuple]
  refine wpAny_bind (wpAny_newObj_type ?_ (by size_fits))
  refine wpAny_bind (m := firstArgMember _ _) (wpAny_of_eq (a := Value.none) (by first | rfl | (simp only [firstArgMember]; rfl)) ?_)
  refine wpAny_newObj_type ?_ (by size_fits)
  have h2 := (Heap.get?_update_other (h := s.heap) (Obj.mapFields (·.setIfInBounds 0 Value.none)) (a := it) (b := x1) (fun e => hne e.symm)).trans h1
  refine HotX.raiseNew_hot ⟨hh, o1, vs1, Heap.get?_push_of_some _ (Heap.get?_push_of_some _ h2), d1, c1⟩ (Nat.ne_of_lt (Heap.lt_size (Heap.get?_push_of_some _ h2))) (Heap.get?_push_size _ rfl) rfl (by first | (simp; done) | (simp; omega) | (simp only [Array.size_append]; simp; omega)) ?_
  refine wpAny_bind (wpAny_isInstance (T := "StopIteration") (b := true) ⟨_, Heap.get?_update_self _ (Heap.get?_push_size _ rfl) rfl, rfl⟩ isSubtype_stop ?_)
  refine wpAny_pure (hQ _ fun b o hb e => ?_)
  have e2 := (Heap.get?_update_other (h := s.heap) (Obj.mapFields (·.setIfInBounds 0 Value.none)) (a := it) (b := b) (fun e => hb e.symm)).trans e
  rw [Heap.get?_update_other _ _ (Nat.ne_of_gt (Heap.lt_size (Heap.get?_push_of_some _ e2)))]
  exact Heap.get?_push_of_some _ (Heap.get?_push_of_some _ e2)
end
end Py
namespace Py
open PySem PySem.Spec PyProof.Rows L2
theorem HotAt.keep {A : Around} {x1 : Addr} {h h' : Heap} (hot : HotX.HotAt A x1 h) (k : ∀ o, h.get? x1 = some o → h'.get? x1 = some o) : HotX.HotAt A x1 h' := by
  obtain ⟨hh, o, vs, h1, d1, c1⟩ := hot
  exact ⟨hh, o, vs, k o h1, d1, c1⟩
theorem walks_hot {prog : Program} {w : World} {A : Around} (I ax x1 : Addr) (hne : ax ≠ I) (hx : x1 ≠ I) (items : Array Value) :
    Walks prog w A I [I, ax, x1] [I] items.size (fun i v => items[i]? = some v) (fun i h => h.IsListIter I ax i ∧ h.IsList ax items ∧ HotX.HotAt A x1 h) where
  sub := fun b hb => by simp at hb; simp [hb]
  frame := fun _ _ _ st hk => ⟨st.1.at fun o e => hk I (by simp) o e, st.2.1.at fun o e => hk ax (by simp) o e, HotAt.keep st.2.2 fun o e => hk x1 (by simp) o e⟩
  item := fun i s Q E hi st hQ => by
    refine wpAny_pyNext_list_item st.1 st.2.1 (x := items[i]) (by simp [hi]) fun h' hit' hs' => ?_
    exact hQ _ h' s.toks (by simp [hi]) ⟨hit', st.2.1.extBut hs'.extBut hne, HotAt.keep st.2.2 fun o e => hs'.extBut _ o hx e⟩ fun b o hb e => hs'.extBut b o (fun h => hb (by simp [h])) e
  done := fun s Q E st hQ => list_end_hot st.2.2 hx st.1 st.2.1 (by simp) fun h' he' => hQ h' s.toks fun b o hb e => he' b o (fun h => hb (by simp [h])) e
  self := fun _ _ _ _ st hQ => wpAny_pyIter_listiter st.1 hQ
section
variable {prog : Program} {w : World} {A : Around} {E : Value → Shared → Prop} {s : Shared}
theorem sum_hot {xs : Array (Int × Tok)} {l x1 : Addr} {Q : Value → Shared → Prop} (hot : HotX.HotAt A x1 s.heap) (hl : s.heap.IsList l (intItems xs))
    (h : ∀ h' tk t', (∀ b o, s.heap.get? b = some o → h'.get? b = some o) → Q (.int (preSum (numAt xs) xs.size) t') { s with heap := h', toks := tk }) :
    wpAny (model prog w) A (call (.builtin "sum") [.ref l]) Q E s := by
  refine call_sum_walkG (iter_intList hl fun s₂ e st hfp hlI => ?_)
  subst e
  obtain ⟨hh, o1, vs1, h1, d1, c1⟩ := id hot
  have hx : x1 ≠ s.heap.objs.size := Nat.ne_of_lt (Heap.lt_size h1)
  refine ⟨_, _, _, _, _, _, numAt xs, rfl, walks_hot (A := A.in1) _ l x1 hlI hx (intItems xs), ⟨st.1, st.2, HotAt.keep hot fun o e => Heap.get?_push_of_some _ e⟩, fun b hb => ?_, (fun _ _ => intItems_at), fun h' tk t' hk => ?_⟩
  · simp only [List.mem_cons, List.not_mem_nil, or_false] at hb
    rcases hb with rfl | rfl | rfl
    · exact hfp _ (by simp)
    · exact hfp _ (by simp)
    · exact Heap.lt_size (Heap.get?_push_of_some _ h1)
  · have := h h' tk t' (old_kept hk)
    simpa [intItems] using this
theorem sum_rawH {l x1 : Addr} {its : List Value} {ns : List Int} {Q : Value → Shared → Prop} (hot : HotX.HotAt A x1 s.heap) (hl : s.heap.IsList l its.toArray) (hi : IntsAre its ns)
    (h : ∀ h' tk t', (∀ b o, s.heap.get? b = some o → h'.get? b = some o) → Q (.int ns.sum t') { s with heap := h', toks := tk }) : wpAny (model prog w) A (call (.builtin "sum") [.ref l]) Q E s := by
  obtain ⟨xs, e⟩ := hi.allInts.items
  have hn : numsOf (intItems xs).toList = ns := by rw [← e]; exact hi.numsOf
  rw [nums_intItems] at hn
  rw [e] at hl
  refine sum_hot hot hl fun h' tk t' hk => ?_
  have := h h' tk t' hk
  rw [preSum_eq, List.take_of_length_le (by simp), hn]; exact this
end
section
variable {X : Cx}
theorem cr_sumH (hc : L2H.HotC X) : CallR X (.builtin "sum") (rSum X.K) := by
  intro pins s σ H vs us Q I r h
  obtain ⟨a, ns, rfl, hs, q⟩ := h
  obtain ⟨its, rv, hl, _⟩ := I.list hs
  rw [Vals.ref1 r]
  obtain ⟨x1, hot⟩ := hc.at I
  exact sum_rawH hot hl.isList rv.ints fun h' tk t' hk => ⟨.int _, H, I.kept hk, ⟨_, rfl⟩, q⟩
end
end Py
namespace Py
open PySem PySem.Spec PyProof.Rows L2
def wList (K : PySem.W.Frag) (tl : TE) : TI := fun σ H R => tl σ H fun x H1 => ∃ a, x = .ref a ∧ (∃ xs, SqL K H1 a xs) ∧ R (Itl K a) H1
section
variable {X : Cx}
/-- [elt for tg in e] while an exception is handled, e a list -/
theorem pe_lcHot {elt tg e : Expr} {scope : Scope} {own : List (Str × Nat)} {pos : Pos} {tl : TE} {g : TG} {te : TE} (hot : L2H.HotC X) (nd : X.N.Nodup) (src : PE X e tl) (ok : BlkOk X.N X.env.scope scope own)
    (hg : ∀ (s : Shared) (H : Hp) (C : Addr) (cl : List (Str × Addr)) (fp : List Addr), PG (X.blk s H scope (compEnvC scope cl C X.env) fp) tg g)
    (he : ∀ (s : Shared) (H : Hp) (C : Addr) (cl : List (Str × Addr)) (fp : List Addr), PE (X.blk s H scope (compEnvC scope cl C X.env) fp) elt te) (plain : ∀ x, foldedSetIterable e X.env x = pure x) :
    PE X (.ListComp elt [⟨tg, e, [], 0⟩] scope pos) (tLc (wList X.K tl) g tYes te (own.map (·.2))) := by
  refine ⟨fun pins s0 σ H0 Q I0 hq => ?_⟩
  rw [eval_ListComp]
  refine wpAny_comprehension_free (use := none) rfl plain (closure_ok fun y hy z => (ok.free y hy z).elim (fun k => I0.ok.has _ (.inl k)) fun k => I0.ok.has _ (.inr k)) ok.kind (fun y hy z => by rw [ok.uniq y hy, z])
    (thn (src.run pins s0 σ H0 _ I0 hq) fun u sA hA => ?_)
  obtain ⟨x, HA, IA, rx, a, ex, ⟨xs0, hxs0⟩, next⟩ := hA
  subst ex
  obtain rfl : u = Value.ref a := rx
  obtain ⟨its0, _, pl0, _⟩ := IA.list hxs0
  -- the iterator at it
  refine wpAny_pyIter_list pl0.isList ?_
  generalize hit : sA.heap.objs.size = it
  have fIt : FpOk X pins HA it := IA.fpOk (Nat.le_of_eq hit) (IA.hok.fresh (Nat.le_of_eq hit))
  have IB : Inv X pins σ HA { sA with heap := sA.heap.push { cls := .type "list_iterator", data := .fields #[.ref a, .int 0 0] } } := IA.kept (t' := sA.toks) fun b o z => Heap.get?_push_of_some _ z
  have stB : (sA.heap.push { cls := .type "list_iterator", data := .fields #[.ref a, .int 0 0] }).IsListIter it a 0 := by rw [← hit]; exact ⟨_, Heap.get?_push_size _ rfl, rfl, rfl⟩
  generalize hB : ({ sA with heap := sA.heap.push { cls := .type "list_iterator", data := .fields #[.ref a, .int 0 0] } } : Shared) = sB at IB ⊢
  have heB : sB.heap = sA.heap.push { cls := .type "list_iterator", data := .fields #[.ref a, .int 0 0] } := by rw [← hB]
  rw [← heB] at stB
  -- the new list at D
  refine wpAny_newObj_type (newEnv_comp ?_) (by show 0 ≤ sizeLine; decide)
  generalize hD : sB.heap.objs.size = D
  have nD : HA D = none := IB.hok.fresh (Nat.le_of_eq hD)
  obtain ⟨W, ⟨m0, w0⟩, turn⟩ := next D nD
  have itD : it ≠ D := by
    obtain ⟨o, z, _⟩ := stB
    rw [← hD]; exact Nat.ne_of_lt (Heap.lt_size z)
  have IC : Inv X pins σ (upd HA D (.lst [])) { sB with heap := sB.heap.push { cls := .type "list", data := .seq ([] : List Value).toArray } } :=
    IB.laid (t' := sB.toks) (fun b o z => Heap.get?_push_of_some _ z) (Nat.le_of_eq hD) ⟨Nat.zero_le _, [], 0, .nil, by rw [← hD]; exact Heap.get?_push_size _ rfl⟩
  have stC : (sB.heap.push { cls := .type "list", data := .seq ([] : List Value).toArray }).IsListIter it a 0 := stB.at fun o z => Heap.get?_push_of_some _ z
  generalize hC : ({ sB with heap := sB.heap.push { cls := .type "list", data := .seq ([] : List Value).toArray } } : Shared) = sC at IC ⊢
  have heC : sC.heap = sB.heap.push { cls := .type "list", data := .seq ([] : List Value).toArray } := by rw [← hC]
  rw [← heC] at stC
  have ltC : it < sC.heap.objs.size := by obtain ⟨o, z, _⟩ := stC; exact Heap.lt_size z
  have fC : FpOk X pins (upd HA D (.lst [])) it := ⟨by rw [upd_ne itD]; exact fIt.1, fIt.2⟩
  generalize hH : upd HA D (.lst []) = HC at IC fC w0
  have fps : ∀ b ∈ [it], FpOk X pins HC b ∧ b < sC.heap.objs.size := fun b hb => by
    rw [List.mem_singleton.mp hb]; exact ⟨fC, ltC⟩
  -- the block
  have ID := block_start IC ok nd fps
  have pg := hg sC HC sC.heap.objs.size (cellsFrom (sC.heap.objs.size + 1) scope.names (cloFrom X.env.cells scope.names [])) [it]
  have pe := he sC HC sC.heap.objs.size (cellsFrom (sC.heap.objs.size + 1) scope.names (cloFrom X.env.cells scope.names [])) [it]
  have stD : (pushCells (sC.heap.push { cls := .type "dict", data := .dict #[] }) scope.names).IsListIter it a 0 := stC.at fun o z => pushCells_keeps _ _ _ _ (Heap.get?_push_of_some _ z)
  change codeAny _ _ (.compStart (.ListComp elt [⟨tg, e, [], 0⟩] scope pos) 0 (.ref it) (.ref D) (compEnvC scope (cellsFrom (sC.heap.objs.size + 1) scope.names (cloFrom X.env.cells scope.names [])) sC.heap.objs.size X.env)) (compPost (model X.prog X.w) X.A X.xe none _ (.ref D) sC.heap.objs.size) _
  generalize hce : compEnvC scope (cellsFrom (sC.heap.objs.size + 1) scope.names (cloFrom X.env.cells scope.names [])) sC.heap.objs.size X.env = ce at ID pg pe ⊢
  have locC : ce.locals = sC.heap.objs.size := by subst hce; rfl
  generalize hE : ({ sC with heap := pushCells (sC.heap.push { cls := .type "dict", data := .dict #[] }) scope.names } : Shared) = sD at ID ⊢
  have stD : sD.heap.IsListIter it a 0 := by rw [← hE]; exact stD
  have isI : ∀ {i : Nat} {h : Heap}, h.IsListIter it a i → ∃ o, h.get? it = some o ∧ ∀ v, o.data ≠ .cell v := fun {i h} st => by
    obtain ⟨o, z, _, d⟩ := st
    exact ⟨o, z, fun v q => by rw [d] at q; cases q⟩
  have fBlk : ∀ {σ' : L2.St} {H' : Hp} {s' : Shared}, Inv (X.blk sC HC scope ce [it]) [] σ' H' s' → H' it = none → FpOk (X.blk sC HC scope ce [it]) [] H' it := fun {σ' H' s'} J n =>
    ⟨n, (J.ok.exf it List.mem_cons_self).1, J.ok.exfs it List.mem_cons_self, .inl List.mem_cons_self, fun x c z => (J.ok.exf it List.mem_cons_self).2 x c z, fun p hp => absurd (show p ∈ ([] : List (Addr × Obj)) ++ [] from hp) (by simp)⟩
  -- back among the names of the def
  have home : ∀ {σ' : L2.St} {H' : Hp} {s' : Shared}, Inv (X.blk sC HC scope ce [it]) [] σ' H' s' → Inv X pins σ H' s' := fun {σ' H' s'} J =>
    IC.call' (ch := [it]) J.os J.base J.hok J.bare fun b hb => by
      rw [List.mem_singleton.mp hb]
      exact ⟨fC.2.2.2.1, fC.2.1, fC.2.2.2.2.1, fC.2.2.2.2.2⟩
  have nPin : ∀ p ∈ X.pn, p.1 ≠ it := fun p hp => fC.2.2.2.2.2 p (List.mem_append_left _ hp)
  refine codeAny_compStart_list ?_ (wpAny_pyIter_listiter stD ?_) <;>
  · refine compLoop_any (fun n s' => ∃ i H', Inv (X.blk sC HC scope ce [it]) [] (wipe σ (own.map (·.2))) H' s' ∧ s'.heap.IsListIter it a i ∧ H' it = none ∧ W i n H') ?_ m0 ⟨0, HC, ID, stD, fC.1, w0⟩
    rintro n sL ⟨i, HL, IL, stL, nL, wL⟩
    have HX := home IL
    rcases turn i n HL wL with ⟨⟨xs, hq, hx⟩, fin⟩ | ⟨⟨xs, y, hq, hx⟩, Nx, hNx, step⟩
    · -- the end
      obtain ⟨p, ⟨hh, v1, d1, c1⟩, hp⟩ := hot
      have hotL : HotX.HotAt X.A p.1 sL.heap := ⟨hh, p.2, v1, (HX.pin p (List.mem_append_left _ hp)).1, d1, c1⟩
      obtain ⟨its, rv, pl, hz⟩ := IL.list hq
      have hl := rv.length
      obtain ⟨f0, f1, f2, f3, f4, f5⟩ := fBlk IL nL
      refine list_end_hot hotL (nPin p hp) stL pl.isList (by simp; omega) fun h' eb => ?_
      have J := home (IL.turned (t' := sL.toks) (h' := h') (fun b o hb z => eb b o hb z) f0 f1 f3 f4 f5)
      have nC : HL sC.heap.objs.size = none := by
        have z : HL ce.locals = none := IL.free
        rw [locC] at z; exact z
      obtain ⟨m, hn, _⟩ := (IL.turned (t' := sL.toks) (h' := h') (fun b o hb z => eb b o hb z) f0 f1 f3 f4 f5).loc
      have hn : h'.Ns ce.locals m := hn
      rw [locC] at hn
      obtain ⟨k0, k1, k2, k3, k4, k5⟩ := IC.fpOk (H' := HL) (Nat.le_refl sC.heap.objs.size) nC
      exact ⟨m, hn, fun h'' sb => ⟨.ref D, HL, J.turned (t' := sL.toks) (h' := h'') (fun b o hb z => (sb.2 b hb).trans z) k0 k1 k3 k4 k5, rfl, fin⟩⟩
    · -- a turn
      obtain ⟨its, rv, pl, hz⟩ := IL.list hq
      obtain ⟨u, hu, ru⟩ := rv.get hx
      obtain ⟨f0, f1, f2, f3, f4, f5⟩ := fBlk IL nL
      refine wpAny_pyNext_list_item stL pl.isList (x := u) (by simpa using hu) fun h' st' sb => ?_
      have I1 : Inv (X.blk sC HC scope ce [it]) [] (wipe σ (own.map (·.2))) HL { sL with heap := h' } := IL.turned (t' := sL.toks) (fun b o hb z => (sb.2 b hb).trans z) f0 f1 f3 f4 f5
      obtain ⟨o, eo, co, do_⟩ := id st'
      refine go_of (s := { sL with heap := h' }) eo co do_ (by decide) ?_
      have I2 := I1.pinned (fp := [it]) (fun b hb => by rw [List.mem_singleton.mp hb]; exact fBlk I1 nL) (fun b hb => by rw [List.mem_singleton.mp hb]; exact isI st')
      refine thnF (pg.run _ _ _ HL y u _ I2 ru (step y HL ⟨rfl, fun ys hy => by rw [IL.list_inj hy hq]; exact hx⟩)) fun _ s8 ⟨σ8, H8, I8, hw8, q8⟩ => ?_
      refine wpAny_tests_nil ?_
      have q9 := q8
      unfold tYes at q9
      simp only [if_true] at q9 ⊢
      have last : ∀ {s' : Shared} {H' : Hp}, Inv (X.blk sC HC scope ce [it]) ([] ++ pinsAt [it] h') σ8 H' s' → Nx H' → ∃ m, m < n ∧ ∃ i H', Inv (X.blk sC HC scope ce [it]) [] (wipe σ (own.map (·.2))) H' s' ∧ s'.heap.IsListIter it a i ∧ H' it = none ∧ W i m H' := fun {s' H'} J nx => by
        obtain ⟨m', hm, w'⟩ := hNx H' nx
        have pin := J.pin (it, o) (List.mem_append_right _ (List.mem_append_right _ (mem_pinsAt List.mem_cons_self eo)))
        have hl : (wipe σ (own.map (·.2))).length = σ8.length := by rw [← hw8, wipe_length]
        exact ⟨m', hm, i + 1, H', (J.unpinned (pins := [])).weak hl (fun j v z => by rw [← hw8] at z; exact (wipe_some z).1), ⟨o, pin.1, co, do_⟩, pin.2.1, w'⟩
      refine thnF (pe.run _ s8 σ8 H8 _ I8 q9) fun z s10 ⟨yv, H10, I10, r10, acc, hD10, hz10, nx⟩ => ?_
      exact app_ok (X := X.blk sC HC scope ce [it]) I10 hD10 hz10 r10 fun s11 I11 => last I11 nx
end
end Py
end
section
set_option maxHeartbeats 2000000
namespace Py
open PySem PySem.Spec PyProof.Rows L2
/-! ### a def that tells the class of a caught exception -/
/-- isinstance(e, c), e pinned -/
theorem call_isP {X : Cx} {a D : Addr} {oe : Obj} (hp : (a, oe) ∈ X.pn) (C : ExcC X.K D) (hz : Zc (.ref D) none oe) (hf : ∃ vs, oe.data = .fields vs) : CallR X (.builtin "isinstance") (rIsE X.K D a) := by
  rintro pins s σ H xs us Q I r ⟨c, cv, b, rfl, hcv, e, q⟩
  cases r with
  | cons rx rr =>
    cases rr with
    | cons rt rr =>
      cases rr
      cases rx
      cases hcv _ rt
      obtain ⟨hget, _⟩ := I.pin (a, oe) (List.mem_append_left _ hp)
      obtain ⟨vs, hv⟩ := hf
      have J : PySem.W.InstAt s.heap a oe D none := by
        obtain ⟨oc, od, oda, osl⟩ := oe
        obtain ⟨h1, h2⟩ := hz
        dsimp only at h1 h2 hv
        subst h1 h2 hv
        exact ⟨hget, rfl, rfl, trivial⟩
      exact PySem.W.kia_one (PySem.W.handS_kitx_exc C.hg C.hk C.hs C.hd C.ha C.hn C.ht C.hm) I.kIn J e (fun z => nomatch z) fun tk => ⟨.bl b, H, I.kept (t' := tk) fun _ _ z => z, rfl, q⟩
section
variable {X : Cx} {T : Tb} {W : WX} {pos : Pos}
def isObj (a : Addr) (b : Bool) (d : D) : RR D := match d with
  | .obj a' => if a' = a then .ok (.bl b) else .bad
  | _ => .bad
theorem d_isE {a D : Addr} {oe : Obj} {b : Bool} {e ce : Expr} {p : Pos} {m : Md} {f : Env → RR Py.D} {cv : V} {cu : Value} (hp : (a, oe) ∈ X.pn) (C : ExcC X.K D) (hz : Zc (.ref D) none oe) (hf : ∃ vs, oe.data = .fields vs)
    (hg : Gl X "isinstance") (hm : X.mg "isinstance" = none) (hs : notStar e = true) (hs2 : notStar ce = true) (he : PE X e (tD X.K T W m f)) (hc : PE X ce (tC cv)) (hcv : ∀ u, RelV cv u → u = cu) (k : PySem.W.kitOne X.K (.ref D) cu = some b) :
    PE X (.Call (.Name "isinstance" p) [e, ce] [] pos) (tD X.K T W .sh fun ρ => f ρ >>= isObj a b) := by
  refine peImp (pe_callB (call_isP hp C hz hf) hg hm boot_isi (pa_cons he (pa_cons hc pa_nil (star_of hs2 _ X.env)) (star_of hs _ X.env)) (by decide) (by decide) (star_of hs _ X.env) (by rw [star_of hs2]; rfl)) fun σ H Q ⟨ρ, Z, st, p⟩ => ⟨ρ, Z, st, Post.then p fun d v H1 _ e1 r1 p1 => ?_⟩
  cases d with
  | obj a' =>
    have hv : v = .ref a' := r1.b
    subst hv
    by_cases e2 : a' = a
    · have p2 : Post X.K T Z W σ H1 .sh Q (isObj a b (.obj a')) := p1
      unfold isObj at p2
      dsimp only at p2
      rw [if_pos e2] at p2
      subst e2
      exact ⟨cv, cu, b, rfl, hcv, k, p2 _ H1 (Ext.refl e1.tabs) rfl⟩
    · have p2 : Post X.K T Z W σ H1 .sh Q (isObj a b (.obj a')) := p1
      unfold isObj at p2
      dsimp only at p2
      rw [if_neg e2] at p2
      exact p2.elim
  | _ => exact (show False from p1).elim
def lstR (d : D) : RR (List D) := match d with
  | .lst l => .ok l
  | _ => .bad
/-- [elt for x in l], hot -/
theorem d_compHot {elt tg iter : Expr} {scope : Scope} {own : List (Str × Nat)} {t : Tg} {ml : Md} {fl : Env → RR D} {m : Md} {fe : Env → RR D} (hc : L2H.HotC X) (hN : X.N.Nodup) (hi : PE X iter (tD X.K T W ml fl)) (hml : ml ≠ .bo) (ok : BlkOk X.N X.env.scope scope own)
    (hg : ∀ (s : Shared) (H : Hp) (C : Addr) (cl : List (Str × Addr)) (fp : List Addr), PG (X.blk s H scope (compEnvC scope cl C X.env) fp) tg (gOf X.K t))
    (he : ∀ (s : Shared) (H : Hp) (C : Addr) (cl : List (Str × Addr)) (fp : List Addr), PE (X.blk s H scope (compEnvC scope cl C X.env) fp) elt (tD X.K T noW m fe)) (hf : notSet iter = true)
    (hslot : ∀ i ∈ t.slots, i ∈ own.map (·.2)) (hme : m ≠ .bo) :
    PE X (.ListComp elt [⟨tg, iter, [], 0⟩] scope pos) (tD X.K T W .fr (compF t (own.map (·.2)) (fun ρ => fl ρ >>= lstR) okTrue fe)) := by
  refine peImp (pe_lcHot hc hN hi ok hg he (fold_of hf X.env)) fun σ H Q h => lc_read (bo := false) hslot hme (fun _ _ _ h => yes_of h) (fun σ H R hh => ?_) h
  obtain ⟨ρ, Z, st, p⟩ := hh
  refine ⟨ρ, Z, st, ?_⟩
  cases q : fl ρ with
  | ex c => rw [q] at p; exact p
  | bad => rw [q] at p; exact p
  | ok d =>
    rw [q] at p
    intro v H1 e1 r1
    cases d with
    | lst l =>
      obtain ⟨z, a, xs, rfl, ha, ra⟩ := r1.sh hml st.zdom
      exact ⟨a, rfl, ⟨xs, SqL.ext exUnhide (SqL.of ha)⟩, p _ H1 e1 z ⟨_, _, by rw [← ra.length]; exact walk_list, fun H Z' g f => SqL.ext exUnhide (SqL.ext g (SqL.of ha)), fun i H x H' Z' hi g _ t _ y => YAt_rep ra i H x H' Z' hi g t y⟩⟩
    | _ => exact (show False from p).elim
theorem cr_sumDH (hc : L2H.HotC X) : CallR X (.builtin "sum") (rDL X.K T .sh sumD) := by
  refine callImp (cr_sumH hc) fun xs H Q h => ?_
  obtain ⟨Z, ds, r, hz, ht, hd, hg, hq⟩ := h
  match ds, hd, hg with
  | [d], hd, hg =>
    obtain ⟨v, rfl, h1⟩ := repBs1 hd
    cases d <;> simp only [sumD, Option.some.injEq, reduceCtorEq] at hg
    rename_i l
    cases q : asInts l with
    | none => rw [q] at hg; cases hg
    | some ns =>
      rw [q] at hg; cases hg
      obtain ⟨a, rfl, z, xs, ha, ra⟩ := h1
      obtain ⟨e1, _⟩ := asInts_rep q ra
      subst e1
      exact ⟨a, ns, rfl, SqL.of ha, hq _ H (Ext.refl ht) rfl⟩
  | [], hd, hg => cases hg
  | _ :: _ :: _, hd, hg => simp [sumD] at hg
end
end Py
end
section
set_option exponentiation.threshold 2000
set_option maxHeartbeats 4000000
namespace Py
open PySem PySem.Spec PyProof.Rows L2 LamX
/-! ### meanings at data of known shape, as rewriting rules -/
@[simp] theorem of_some {α : Type} (a : α) : RR.of (some a) = .ok a := rfl
@[simp] theorem of_none {α : Type} : RR.of (none : Option α) = .bad := rfl
@[simp] theorem bind_ite {α β : Type} (c : Prop) [Decidable c] (x y : RR α) (f : α → RR β) : ((if c then x else y) >>= f) = if c then x >>= f else y >>= f := by split <;> rfl
@[simp] theorem varD_0 (d : D) (ρ : Env) : varD 0 (some (false, d) :: ρ) = .ok d := rfl
@[simp] theorem varD_s (i : Nat) (o : Option (Bool × D)) (ρ : Env) : varD (i + 1) (o :: ρ) = varD i ρ := rfl
@[simp] theorem ownD_0 (b : Bool) (d : D) (ρ : Env) : ownD 0 (some (b, d) :: ρ) = .ok d := rfl
@[simp] theorem ownD_s (i : Nat) (o : Option (Bool × D)) (ρ : Env) : ownD (i + 1) (o :: ρ) = ownD i ρ := rfl
@[simp] theorem rr_bind {α β : Type} (x : RR α) (f : α → RR β) : RR.bind x f = (x >>= f) := rfl
/-! comprehensions -/
theorem mapC_map {α : Type} (f : D → RR (Option D)) (g : α → D) (en : α → D) : ∀ (l : List α), (∀ x ∈ l, f (en x) = .ok (some (g x))) → mapC f (l.map en) = .ok (l.map g)
  | [], _ => rfl
  | x :: l, h => by
    rw [List.map_cons, List.map_cons]
    unfold mapC
    rw [h x List.mem_cons_self, mapC_map f g en l fun y hy => h y (List.mem_cons_of_mem _ hy)]; rfl
theorem mapC_filter {α : Type} (f : D → RR (Option D)) (p : α → Bool) (g : α → D) (en : α → D) : ∀ (l : List α), (∀ x ∈ l, f (en x) = .ok (if p x then some (g x) else none)) → mapC f (l.map en) = .ok ((l.filter p).map g)
  | [], _ => rfl
  | x :: l, h => by
    rw [List.map_cons, List.filter_cons]
    unfold mapC
    rw [h x List.mem_cons_self, mapC_filter f p g en l fun y hy => h y (List.mem_cons_of_mem _ hy)]
    cases p x <;> rfl
theorem compF_map {α : Type} {t : Tg} {vs : List Nat} {fs : Env → RR (List D)} {fc : Env → RR Bool} {fe : Env → RR D} {ρ : Env} {l : List α} {en g : α → D} (hs : fs ρ = .ok (l.map en)) (h : ∀ x ∈ l, turnC t vs ρ fc fe (en x) = .ok (some (g x))) : compF t vs fs fc fe ρ = .ok (.lst (l.map g)) := by
  unfold compF
  rw [hs, RR.bind_ok, mapC_map _ g en l h]; rfl
theorem compF_filter {α : Type} {t : Tg} {vs : List Nat} {fs : Env → RR (List D)} {fc : Env → RR Bool} {fe : Env → RR D} {ρ : Env} {l : List α} (p : α → Bool) {en g : α → D} (hs : fs ρ = .ok (l.map en)) (h : ∀ x ∈ l, turnC t vs ρ fc fe (en x) = .ok (if p x then some (g x) else none)) : compF t vs fs fc fe ρ = .ok (.lst ((l.filter p).map g)) := by
  unfold compF
  rw [hs, RR.bind_ok, mapC_filter _ p g en l h]; rfl
@[simp] theorem turn_v (i : Nat) (vs : List Nat) (ρ : Env) (fc : Env → RR Bool) (fe : Env → RR D) (d : D) : turnC (.v i) vs ρ fc fe d = (fc ((wipeD ρ vs).set i (some (false, d))) >>= fun k => if k then fe ((wipeD ρ vs).set i (some (false, d))) >>= fun x => .ok (some x) else .ok none) := rfl
@[simp] theorem b_add (i j : Int) : binD .add (.int i) (.int j) = some (.int (i + j)) := rfl
@[simp] theorem b_sub (i j : Int) : binD .sub (.int i) (.int j) = some (.int (i - j)) := rfl
theorem b_mul (i j : Int) (h : i.natAbs < 2 ^ 64 ∨ j.natAbs < 2 ^ 64) : binD .mul (.int i) (.int j) = some (.int (i * j)) := by
  have : mulOk i j = true := by
    unfold mulOk
    rcases h with h | h <;> rw [decide_eq_true h] <;> simp
  show (if mulOk i j = true then _ else _) = _
  rw [if_pos this]
theorem b_mulW (i j : Int) (h : i.natAbs < 2 ^ 200) (h' : j.natAbs < 2 ^ 200) : binD .mul (.int i) (.int j) = some (.int (i * j)) := by
  have : mulOk i j = true := by
    unfold mulOk
    rw [decide_eq_true (Nat.lt_of_lt_of_le h (Nat.pow_le_pow_right (by decide) (by decide : 200 ≤ 1000))), decide_eq_true (Nat.lt_of_lt_of_le h' (Nat.pow_le_pow_right (by decide) (by decide : 200 ≤ 1000)))]; simp
  show (if mulOk i j = true then _ else _) = _
  rw [if_pos this]
theorem b_fdiv (i j : Int) (h : 0 < j) (h2 : j.natAbs < 2 ^ 200) : binD .fdiv (.int i) (.int j) = some (.int (i / j)) :=
  if_pos ⟨h, Nat.lt_of_lt_of_le h2 (Nat.pow_le_pow_right (by decide) (by decide))⟩
theorem b_mod (i j : Int) (h : 0 < j) : binD .mod (.int i) (.int j) = some (.int (i % j)) := if_pos h
@[simp] theorem c_eq (i j : Int) : cmpB .eq (.int i) (.int j) = some (decide (i = j)) := by
  show eqB (.int i) (.int j) = _
  have h : eqP (.int i) (.int j) = decide (i = j) := by
    show (i == j) = _
    by_cases e : i = j
    · simp [e]
    · simp [e]
  unfold eqB
  rw [h]
  simp [nod, dep]
@[simp] theorem c_ne (i j : Int) : cmpB .ne (.int i) (.int j) = some (!decide (i = j)) := by
  show Option.map _ (cmpB .eq (.int i) (.int j)) = _
  rw [c_eq]; rfl
@[simp] theorem c_lt (i j : Int) : cmpB .lt (.int i) (.int j) = some (decide (i < j)) := rfl
@[simp] theorem c_le (i j : Int) : cmpB .le (.int i) (.int j) = some (decide (i ≤ j)) := rfl
@[simp] theorem c_leb (i j : Bool) : cmpB .le (.bl i) (.bl j) = some (!i || j) := rfl
@[simp] theorem c_gt (i j : Int) : cmpB .gt (.int i) (.int j) = some (decide (j < i)) := rfl
@[simp] theorem c_ge (i j : Int) : cmpB .ge (.int i) (.int j) = some (decide (j ≤ i)) := rfl
@[simp] theorem tru_bl (b : Bool) : truR (.bl b) = .ok b := rfl
@[simp] theorem tru_int (i : Int) : truR (.int i) = .ok (decide (i ≠ 0)) := by
  show RR.of (some (i != 0)) = _
  by_cases e : i = 0 <;> simp [e]
@[simp] theorem limL_ok (l : List D) (h : l.length ≤ 16777216) : limL l = .ok l := if_pos h
@[simp] theorem seqO_nx (ρ : Env) (k : Env → RR Out) : seqO (.ok (.nx ρ)) k = k ρ := rfl
@[simp] theorem seqO_rt (d : D) (k : Env → RR Out) : seqO (.ok (.rt d)) k = .ok (.rt d) := rfl
@[simp] theorem seqO_ex (c : Str) (k : Env → RR Out) : seqO (.ex c) k = .ex c := rfl
@[simp] theorem seqO_ite (b : Bool) (x y : RR Out) (k : Env → RR Out) : seqO (if b then x else y) k = if b then seqO x k else seqO y k := by cases b <;> rfl
/-! loops -/
theorem execFor_inv {α : Type} {t : Tg} {body : Env → RR Out} {en : α → D} (I : List α → Env → Prop) : ∀ (l : List α) (done : List α) (ρ : Env), (∀ done x ρ, x ∈ l → I done ρ → ∃ ρ1 ρ', bindT t (en x) ρ = .ok ρ1 ∧ body ρ1 = .ok (.nx ρ') ∧ I (done ++ [x]) ρ') → I done ρ → ∃ ρ', execFor t body (l.map en) ρ = .ok (.nx ρ') ∧ I (done ++ l) ρ'
  | [], done, ρ, _, h0 => ⟨ρ, rfl, by rw [List.append_nil]; exact h0⟩
  | x :: l, done, ρ, h, h0 => by
    obtain ⟨ρ1, ρ2, h1, h2, h3⟩ := h done x ρ List.mem_cons_self h0
    obtain ⟨ρ', h4, h5⟩ := execFor_inv I l (done ++ [x]) ρ2 (fun d y ρ hy hi => h d y ρ (List.mem_cons_of_mem _ hy) hi) h3
    refine ⟨ρ', ?_, by rw [show done ++ x :: l = done ++ [x] ++ l by simp]; exact h5⟩
    rw [List.map_cons]
    unfold execFor
    rw [h1, RR.bind_ok, h2]
    exact h4
theorem appO_ok {i : Nat} {f : Env → RR D} {ρ : Env} {l : List D} (hi : ρ[i]? = some (some (true, .lst l))) (hl : l.length < 16777216) : appO i f ρ = f ρ >>= fun d => .ok (.nx (ρ.set i (some (true, .lst (l ++ [d]))))) := by
  unfold appO
  rw [hi]
  exact if_pos hl
theorem extO_ok {i : Nat} {f : Env → RR D} {ρ : Env} {l l2 : List D} (hi : ρ[i]? = some (some (true, .lst l))) (hf : f ρ = .ok (.lst l2)) (hl : l.length + l2.length ≤ 16777216) : extO i f ρ = .ok (.nx (ρ.set i (some (true, .lst (l ++ l2))))) := by
  unfold extO
  rw [hi]
  dsimp only
  rw [hf, RR.bind_ok]
  exact if_pos hl
theorem asInts_map : ∀ ns : List Int, asInts (ns.map D.int) = some ns
  | [] => rfl
  | n :: ns => by simp [asInts, asInts_map ns]
theorem rangeD_eq (n : Nat) : rangeD 0 (n : Int) = (List.range n).map fun i => D.int ((i : Nat) : Int) := by
  unfold rangeD
  simp
theorem rng1_nat (n : Nat) (h : n ≤ 16777216) : rng1D (.int (n : Int)) = .ok ((List.range n).map fun i => D.int ((i : Nat) : Int)) := by
  have e : rngOk 0 (n : Int) = true := by
    unfold rngOk
    simp only [Bool.and_eq_true, decide_eq_true_eq]
    have hl : n ≤ lim := by unfold lim; exact h
    refine ⟨⟨⟨⟨by decide, by decide⟩, by omega⟩, by omega⟩, ?_⟩
    rw [Int.sub_zero, Int.toNat_natCast]
    exact hl
  unfold rng1D
  dsimp only
  rw [if_pos e, rangeD_eq]
theorem atI_ok {α : Type} (l : List α) (i : Int) (h0 : 0 ≤ i) (h1 : i < (l.length : Nat)) : L2.atI l i = some (l[i.toNat]'(by omega)) := by
  unfold L2.atI L2.ixN
  rw [if_pos h0, if_pos h1]
  simp
end Py
end
section
set_option maxHeartbeats 4000000
namespace Py
open PySem PySem.Spec PyProof.Rows L2
/-! ### the text of such a def -/
/-- isinstance(e, c) by name -/
def asIs : Expr → Option (Str × Str × Str)
  | .Call (.Name f _) [.Name e _, .Name c _] [] _ => some (f, e, c)
  | _ => none
theorem asIs_of {x : Expr} {f e c : Str} (h : asIs x = some (f, e, c)) : ∃ p1 p2 p3 p4, x = .Call (.Name f p1) [.Name e p2, .Name c p3] [] p4 := by unfold asIs at h; split at h <;> cases h; exact ⟨_, _, _, _, rfl⟩
def issOk (e : Str) : List Expr → List Str → Bool
  | [], [] => true
  | x :: xs, c :: cs => decide (asIs x = some (("isinstance" : Str), e, c)) && issOk e xs cs
  | _, _ => false
def strsOk : List Expr → List Str → Bool
  | [], [] => true
  | x :: xs, w :: ws => (match asConst x with | some (.str y) => decide (y = w) && strFine w | _ => false) && strsOk xs ws
  | _, _ => false
structure WordT where
  e : Str
  fl : Str
  x : Str
  c1 : List Str
  c2 : List Str
  ws : List Str
/-- the four statements -/
structure WordP where
  l1 : List Expr
  l2 : List Expr
  ls : List Expr
  sc : Scope
  p : List Pos
def asWord : List Stmt → Option (Str × List Expr × Str × Str × List Expr × Str × Str × Str × Str × Str × Scope × Int × Expr × Str × List Expr × Str × Str × Const × Bool)
  | [.Assign [.Name f1 _] (.List l1 _) _, .Assign [.Name f2 _] (.BinOp (.Name f3 _) .Add (.List l2 _) _) _,
     .If (.BoolOp .Or [.Compare (.Call (.Name sm _) [.ListComp (.Call (.Name it _) [.Name x1 _] [] _) [⟨.Name x2 _, .Name f4 _, [], 0⟩] sc _] [] _) [.NotEq] [.Constant (.int one) _ _] _, .UnaryOp .Not ve _] _) [.Return (some (.Constant (.str ot) _ _)) _] [] _,
     .Return (some (.Subscript (.List ls _) (.Call (.Attribute (.Name f5 _) ix q) [.Constant tr _ _] [] q2) _)) _] => some (f1, l1, f2, f3, l2, sm, it, x1, x2, f4, sc, one, ve, ot, ls, f5, ix, tr, q.endLine == q2.line)
  | _ => none
def isTrueC : Const → Bool
  | .bool b => b
  | _ => false
/-- all that is asked of the text; N: the def's names -/
def chkWord (w : WordT) (dsc : Scope) (body : List Stmt) : Bool := match asWord body with
  | some (f1, l1, f2, f3, l2, sm, it, x1, x2, f4, sc, one, ve, ot, ls, f5, ix, tr, ln) =>
    decide (f1 = w.fl) && decide (f2 = w.fl) && decide (f3 = w.fl) && decide (f4 = w.fl) && decide (f5 = w.fl) && decide (x1 = w.x) && decide (x2 = w.x) && decide (sm = "sum") && decide (it = "int") && decide (ix = "index") && isTrueC tr && decide (one = 1) && ln && strFine ot
    && issOk w.e l1 w.c1 && issOk w.e l2 w.c2 && strsOk ls w.ws && decide (asIs ve = some (("isinstance" : Str), w.e, ("ValueError" : Str)))
    && plainN w.e && plainN w.fl && plainN w.x && (w.c1 ++ w.c2).all plainN && decide ([w.e, w.fl, w.x].Nodup)
    && localB dsc w.e && localB dsc w.fl && gloB dsc "isinstance" && gloB dsc "sum" && gloB dsc "ValueError" && (w.c1 ++ w.c2).all (gloB dsc)
    && blkC [w.e, w.fl, w.x] dsc sc (ownOf [w.e, w.fl, w.x] [2]) && localB (relS sc dsc) w.x && gloB (relS sc dsc) "int"
  | none => false

theorem asWord_of {b : List Stmt} {f1 l1 f2 f3 l2 sm it x1 x2 f4 sc one ve ot ls f5 ix tr ln} (h : asWord b = some (f1, l1, f2, f3, l2, sm, it, x1, x2, f4, sc, one, ve, ot, ls, f5, ix, tr, ln)) :
    ∃ p0 p1 p2 p3 p4 p5 p6 p7 p8 p9 p10 p11 p12 p13 p14 p15 j1 p16 p17 p18 p19 j2 p20 p21 p22 p23 p24 q j3 p25 q2 p26 p27, (q.endLine == q2.line) = ln ∧ b = [.Assign [.Name f1 p0] (.List l1 p1) p2, .Assign [.Name f2 p3] (.BinOp (.Name f3 p4) .Add (.List l2 p5) p6) p7,
     .If (.BoolOp .Or [.Compare (.Call (.Name sm p8) [.ListComp (.Call (.Name it p9) [.Name x1 p10] [] p11) [⟨.Name x2 p12, .Name f4 p13, [], 0⟩] sc p14] [] p15) [.NotEq] [.Constant (.int one) j1 p16] p17, .UnaryOp .Not ve p18] p19) [.Return (some (.Constant (.str ot) j2 p20)) p21] [] p22,
     .Return (some (.Subscript (.List ls p23) (.Call (.Attribute (.Name f5 p24) ix q) [.Constant tr j3 p25] [] q2) p26)) p27] := by
  unfold asWord at h
  split at h
  · cases h
    exact ⟨_, _, _, _, _, _, _, _, _, _, _, _, _, _, _, _, _, _, _, _, _, _, _, _, _, _, _, _, _, _, _, _, _, rfl, rfl⟩
  · cases h
def isF (a : Addr) : List Bool → Env → RR (List D)
  | [], _ => .ok []
  | b :: bs, ρ => do let x ← varD 0 ρ >>= isObj a b; let xs ← isF a bs ρ; .ok (x :: xs)
theorem isF_ok {a : Addr} {ρ : Env} (h : varD 0 ρ = .ok (.obj a)) : ∀ bs, isF a bs ρ = .ok (bs.map D.bl)
  | [] => rfl
  | b :: bs => by simp [isF, h, isObj, isF_ok h bs]
def strF : List Str → Env → RR (List D)
  | [], _ => .ok []
  | w :: ws, ρ => do let x ← RR.ok (.str w); let xs ← strF ws ρ; .ok (x :: xs)
theorem strF_ok {ρ : Env} : ∀ ws, strF ws ρ = .ok (ws.map D.str)
  | [] => rfl
  | w :: ws => by simp [strF, strF_ok ws]
section
variable {X : Cx} {T : Tb} {W : WX} {pos : Pos}
theorem a_strs : ∀ {xs : List Expr} {ws : List Str}, strsOk xs ws = true → PA X xs (tDA X.K T W true (strF ws))
  | [], [], _ => a_nil
  | [], _ :: _, h => by cases h
  | _ :: _, [], h => by cases h
  | x :: xs, w :: ws, h => by
    simp only [strsOk, Bool.and_eq_true] at h
    obtain ⟨h1, h2⟩ := h
    split at h1
    · rename_i y q
      obtain ⟨j, p, rfl⟩ := asConst_of q
      simp only [Bool.and_eq_true, decide_eq_true_eq] at h1
      obtain ⟨rfl, h3⟩ := h1
      exact a_cons (fun _ => by decide) rfl (d_str h3) (a_strs h2)
    · cases h1
theorem a_iss {a Dc : Addr} {oe : Obj} {e : Str} {fb : Str → Bool} (hp : (a, oe) ∈ X.pn) (C : ExcC X.K Dc) (hz : Zc (.ref Dc) none oe) (hf : ∃ vs, oe.data = .fields vs) (he : ∀ p, PE X (.Name e p) (tD X.K T W .sh (varD 0)))
    (hg : Gl X "isinstance") (hm : X.mg "isinstance" = none) : ∀ {xs : List Expr} {cs : List Str}, (∀ c ∈ cs, Gl X c ∧ (c == ("__debug__" : Str)) = false ∧ X.mg c = some (.ref (He.ga X.K c)) ∧ PySem.W.kitOne X.K (.ref Dc) (.ref (He.ga X.K c)) = some (fb c)) → issOk e xs cs = true → PA X xs (tDA X.K T W true (isF a (cs.map fb)))
  | [], [], _, _ => a_nil
  | [], _ :: _, _, h => by cases h
  | _ :: _, [], _, h => by cases h
  | x :: xs, c :: cs, hc, h => by
    simp only [issOk, Bool.and_eq_true, decide_eq_true_eq] at h
    obtain ⟨p1, p2, p3, p4, rfl⟩ := asIs_of h.1
    obtain ⟨c1, c2, c3, c4⟩ := hc c List.mem_cons_self
    exact a_cons (fun _ => by decide) rfl (d_isE hp C hz hf hg hm rfl rfl (he p2) (pe_glob (v := .ref (He.ga X.K c)) c1 c3 rfl c2) (fun u r => r) c4) (a_iss hp C hz hf he hg hm (fun c' h' => hc c' (List.mem_cons_of_mem _ h')) h.2)
end
def wordV (bs : List Bool) (ot : Str) (ws : List Str) : RR D :=
  if (bs.map fun b => if b then (1 : Int) else 0).sum = 1 then RR.of ((indexD (.lst (bs.map D.bl)) (.bl true)).bind fun i => ixD (.lst (ws.map D.str)) i) else .ok (.str ot)
end Py
end
section
set_option maxHeartbeats 4000000
namespace Py
open PySem PySem.Spec PyProof.Rows L2
section
variable {X : Cx} {T : Tb} {W : WX}
theorem gl_of {x : Str} {dsc : Scope} (hsc : X.env.scope = dsc) (h : gloB dsc x = true) : Gl X x := by
  unfold gloB at h
  show X.env.scope.names.lookup x = _
  rw [hsc]
  split at h
  · assumption
  · cases h
theorem nb_of {x : Str} (h : plainN x = true) : (x == ("__debug__" : Str)) = false ∧ (x == ("__classdict__" : Str)) = false := ⟨(plainN_of h).1, (plainN_of h).2.1⟩
theorem bools_ints (ρ : Env) (l : List Bool) : mapC (turnC (.v 2) [2] ρ okTrue (fun ρ => (varD 2 ρ >>= fun x => RR.ok [] >>= fun xs => .ok (x :: xs)) >>= fun xs => RR.of (intD xs))) (l.map D.bl) = .ok (l.map fun b => D.int (if b then 1 else 0)) ∨ ρ.length ≤ 2 := by
  by_cases hl : ρ.length ≤ 2
  · exact .inr hl
  · refine .inl ?_
    refine mapC_map _ (fun b => D.int (if b then 1 else 0)) D.bl l fun b _ => ?_
    have e : varD 2 ((wipeD ρ [2]).set 2 (some (false, D.bl b))) = .ok (.bl b) := by
      unfold varD
      have : ((wipeD ρ [2]).set 2 (some (false, D.bl b)))[2]? = some (some (false, D.bl b)) := by
        rw [List.getElem?_set_self]
        show 2 < (ρ.set 2 none).length
        rw [List.length_set]; omega
      rw [this]
    simp only [turn_v, okTrue, RR.bind_ok, if_true, e]
    rfl
theorem asInts_ifs : ∀ l : List Bool, asInts (l.map fun b => D.int (if b then 1 else 0)) = some (l.map fun b => if b then (1 : Int) else 0)
  | [] => rfl
  | b :: l => by simp [asInts, asInts_ifs l]
theorem word_body {w : WordT} {dsc : Scope} {body : List Stmt} {a Dc : Addr} {oe : Obj} {fb : Str → Bool} (h : chkWord w dsc body = true) (hN : X.N = [w.e, w.fl, w.x]) (hsc : X.env.scope = dsc) (hkd : X.env.scope.kind = .function) (hfn : X.fn = fun _ => true) (hot : L2H.HotC X) (hu : X.A.units + 200 < cLine)
    (hp : (a, oe) ∈ X.pn) (C : ExcC X.K Dc) (hz : Zc (.ref Dc) none oe) (hf : ∃ vs, oe.data = .fields vs) (m1 : X.mg "isinstance" = none) (m2 : X.mg "sum" = none) (m3 : X.mg "int" = none) (m4 : X.mg "ValueError" = none)
    (k : ∀ c ∈ w.c1 ++ w.c2, X.mg c = some (.ref (He.ga X.K c)) ∧ PySem.W.kitOne X.K (.ref Dc) (.ref (He.ga X.K c)) = some (fb c)) (kv : PySem.W.kitOne X.K (.ref Dc) (.type "ValueError") = some true) (hl : (w.c1 ++ w.c2).length ≤ 100) (hlw : w.ws.length ≤ 100) :
    ∃ ot F, PSs X body (tS X.K T W .sh F) ∧ F [some (false, .obj a), none, none] = (wordV ((w.c1 ++ w.c2).map fb) ot w.ws >>= fun d => .ok (.rt d)) := by
  unfold chkWord at h
  split at h
  · rename_i f1 l1 f2 f3 l2 sm it x1 x2 f4 sc one ve ot ls f5 ix tr ln q
    obtain ⟨p0, p1, p2, p3, p4, p5, p6, p7, p8, p9, p10, p11, p12, p13, p14, p15, j1, p16, p17, p18, p19, j2, p20, p21, p22, p23, p24, q1, j3, p25, q2, p26, p27, hline, rfl⟩ := asWord_of q
    simp only [Bool.and_eq_true, decide_eq_true_eq, List.all_eq_true] at h
    obtain ⟨⟨⟨⟨⟨⟨⟨⟨⟨⟨⟨⟨⟨⟨⟨⟨⟨⟨⟨⟨⟨⟨⟨⟨⟨⟨⟨⟨⟨⟨⟨h1, h2⟩, h3⟩, h4⟩, h5⟩, h6⟩, h7⟩, h8⟩, h9⟩, h10⟩, h11⟩, h12⟩, h13⟩, h14⟩, k1⟩, k2⟩, k3⟩, k4⟩, n1⟩, n2⟩, n3⟩, n4⟩, nd⟩, lc1⟩, lc2⟩, g1⟩, g2⟩, g3⟩, g4⟩, bk⟩, lx⟩, gi⟩ := h
    subst h1 h2 h3 h4 h5 h6 h7 h8 h9 h10 h12
    rw [h13] at hline
    obtain ⟨d1, d2⟩ := nb_of n1
    obtain ⟨d3, d4⟩ := nb_of n2
    obtain ⟨d5, d6⟩ := nb_of n3
    obtain ⟨ps1, ps2, ps3, ps4, rfl⟩ := asIs_of k4
    have nd' : X.N.Nodup := by rw [hN]; exact nd
    have loc : ∀ {x}, localB dsc x = true → X.env.scope.names.lookup x = some .local := fun {x} z => by rw [hsc]; exact localB_of z
    have ve0 : ∀ p, PE X (.Name w.e p) (tD X.K T W .sh (varD 0)) := fun p => d_var (by rw [hN]; rfl) (.inl (loc lc1)) d1 d2
    have vf : ∀ p, PE X (.Name w.fl p) (tD X.K T W .sh (varD 1)) := fun p => d_var (by rw [hN]; rfl) (.inl (loc lc2)) d3 d4
    have gis : Gl X "isinstance" := gl_of hsc g1
    have hc : ∀ cs : List Str, (∀ c ∈ cs, c ∈ w.c1 ++ w.c2) → ∀ c ∈ cs, Gl X c ∧ (c == ("__debug__" : Str)) = false ∧ X.mg c = some (.ref (He.ga X.K c)) ∧ PySem.W.kitOne X.K (.ref Dc) (.ref (He.ga X.K c)) = some (fb c) := fun cs hs c hcm =>
      ⟨gl_of hsc (g4 c (hs c hcm)), (nb_of (n4 c (hs c hcm))).1, (k c (hs c hcm)).1, (k c (hs c hcm)).2⟩
    have L1 := d_sh (by decide) (d_lst (pos := p1) (a_iss (T := T) (W := W) hp C hz hf ve0 gis m1 (hc w.c1 fun c z => List.mem_append_left _ z) k1))
    have L2' := d_sh (by decide) (d_lst (pos := p5) (a_iss (T := T) (W := W) hp C hz hf ve0 gis m1 (hc w.c2 fun c z => List.mem_append_right _ z) k2))
    have bkd : X.env.blockKind = .function := by unfold Env.blockKind; rw [hkd]; rfl
    have S1 := s_set (mr := .sh) (pos := p2) (px := p0) (by decide) nd' (i := 1) (by rw [hN]; rfl) (.inl (loc lc2)) (.inr (loc lc2)) (swaps_of (e := .List l1 p1) rfl _ _ _) L1
    have S2 := s_set (mr := .sh) (pos := p7) (px := p3) (by decide) nd' (i := 1) (by rw [hN]; rfl) (.inl (loc lc2)) (.inr (loc lc2)) (swaps_of (e := .BinOp (.Name w.fl p4) .Add (.List l2 p5) p6) rfl _ _ _) (d_bin (pos := p6) (m := .sh) (op_addD (T := T)) (vf p4) L2')
    have hbk : BlkOk X.N X.env.scope sc (ownOf [w.e, w.fl, w.x] [2]) := by rw [hN, hsc]; exact blkOk_by bk
    have CM := d_compHot (T := T) (W := W) (pos := p14) (t := .v 2) hot nd' (vf p13) (by decide) hbk (fun s H A cl fp => tg_v (X := X.blk s H sc (compEnvC sc cl A X.env) fp) (x := w.x) (pos := p12) nd' (by show X.N[2]? = _; rw [hN]; rfl) (.inl (by show (relS sc X.env.scope).names.lookup w.x = _; rw [hsc]; exact localB_of lx)) (.inr (by show (relS sc X.env.scope).names.lookup w.x = _; rw [hsc]; exact localB_of lx)))
      (fun s H A cl fp => d_bltT (X := X.blk s H sc (compEnvC sc cl A X.env) fp) (T := T) (W := noW) (x := "int") (p := p9) (pos := p11) cr_int (gl_of (X := X.blk s H sc (compEnvC sc cl A X.env) fp) (dsc := relS sc dsc) (by show relS sc X.env.scope = _; rw [hsc]) gi) m3 (by decide +kernel)
        (a_cons (sh := false) (by decide) rfl (d_var (X := X.blk s H sc (compEnvC sc cl A X.env) fp) (x := w.x) (pos := p10) (i := 2) (by show X.N[2]? = _; rw [hN]; rfl) (.inl (by show (relS sc X.env.scope).names.lookup w.x = _; rw [hsc]; exact localB_of lx)) d5 d6) a_nil) rfl (by decide) (by decide)) rfl (by simp [Tg.slots, ownOf]) (by decide)
    have SUM := d_bltB (T := T) (W := W) (x := "sum") (p := p8) (pos := p15) (cr_sumDH hot) (gl_of hsc g2) m2 (by decide +kernel) (a_cons (sh := false) (by decide) rfl CM a_nil) rfl (by decide) (by decide)
    have CMP := t_cmp (pos := p17) (op_cmpB (X := X) (T := T) (by omega) .ne) SUM (d_int (T := T) (W := W) (i := 1) (j := j1) (pos := p16)) rfl
    have ISV := d_isE (T := T) (W := W) (p := ps1) (pos := ps4) hp C hz hf gis m1 rfl rfl (ve0 ps2) (pe_bltn (pos := ps3) (v := .ty "ValueError") (gl_of hsc g3) m4 (by decide +kernel) rfl) (fun u r => r) kv
    have NT := t_not (pos := p18) (t_val ISV rfl)
    have OR := (t_or (pos := p19) CMP (t_or1 NT)).pt
    have S3 := s_if (mr := .sh) (pos := p22) OR (s_cons (s_ret (mr := .sh) (pos := p21) (by decide) (.inl rfl) (d_str (X := X) (T := T) (W := W) (pos := p20) (j := j2) h14)) s_nil) s_nil
    have ht : tr = .bool true := by
      unfold isTrueC at h11
      split at h11
      · subst h11; rfl
      · cases h11
    subst ht
    have IDX := d_idx (T := T) (W := W) (p2 := q1) (cpos := q2) (by omega) rfl rfl hline (vf p24) (d_bl (X := X) (T := T) (W := W) (i := true) (j := j3) (pos := p25))
    have LS := d_sh (by decide) (d_lst (pos := p23) (a_strs (X := X) (T := T) (W := W) k3))
    have S4 := s_ret (mr := .sh) (pos := p27) (by decide) (.inl rfl) (d_ix (pos := p26) (ix_D (by omega)) LS IDX rfl)
    refine ⟨ot, _, s_cons S1 (s_cons S2 (s_cons S3 (s_cons S4 s_nil))), ?_⟩
    have e0 : ∀ o1 o2, varD 0 [some (false, D.obj a), o1, o2] = .ok (.obj a) := fun _ _ => rfl
    have len1 : ((w.c1.map fb).map D.bl).length ≤ 16777216 := by simp only [List.length_map]; rw [List.length_append] at hl; omega
    have len2 : ((w.c2.map fb).map D.bl).length ≤ 16777216 := by simp only [List.length_map]; rw [List.length_append] at hl; omega
    have lenA : ((w.c1.map fb).map D.bl).length + ((w.c2.map fb).map D.bl).length ≤ lim := by simp only [List.length_map]; rw [List.length_append] at hl; unfold lim; omega
    have eadd : addD (.lst ((w.c1.map fb).map D.bl)) (.lst ((w.c2.map fb).map D.bl)) = some (.lst (((w.c1 ++ w.c2).map fb).map D.bl)) := by
      show (if _ then _ else _) = _
      rw [if_pos lenA, List.map_append, List.map_append]
    generalize hbs : (w.c1 ++ w.c2).map fb = bs at eadd ⊢
    have ecomp : ∀ o0, compF (.v 2) [2] (fun ρ => varD 1 ρ >>= lstR) okTrue (fun ρ => (varD 2 ρ >>= fun x => RR.ok [] >>= fun xs => .ok (x :: xs)) >>= fun xs => RR.of (intD xs)) [o0, some (false, .lst (bs.map D.bl)), none] = .ok (.lst (bs.map fun b => D.int (if b then 1 else 0))) := fun o0 => by
      unfold compF
      rcases bools_ints [o0, some (false, .lst (bs.map D.bl)), none] bs with z | z
      · show (mapC _ (bs.map D.bl) >>= _) = _
        rw [z]; rfl
      · simp at z
    have lenW : (w.ws.map D.str).length ≤ 16777216 := by rw [List.length_map]; omega
    have esum : sumD [D.lst (bs.map fun b => D.int (if b then 1 else 0))] = some (.int (bs.map fun b => if b then (1 : Int) else 0).sum) := by
      show (asInts _).map _ = _
      rw [asInts_ifs]; rfl
    have eown : (ownOf [w.e, w.fl, w.x] [2]).map (fun x => x.2) = [2] := rfl
    simp only [isF_ok (e0 _ _), RR.bind_ok, limL_ok _ len1, limL_ok _ len2, strF_ok, limL_ok _ lenW, seqO_nx, mkV, List.set, varD_s, varD_0, eadd, of_some, eown] at ecomp ⊢
    have dm : decide (Md.sh = Md.fr) = false := rfl
    simp only [dm, varD_s, varD_0, RR.bind_ok, eadd, of_some, seqO_nx, ecomp, esum, c_ne, Option.map_some, tru_bl, isObj, if_true, Bool.not_true]
    unfold wordV
    by_cases z : (bs.map fun b => if b then (1 : Int) else 0).sum = 1
    · simp only [z, decide_true, Bool.not_true, Bool.false_eq_true, if_false, if_true, RR.bind_ok, tru_bl, seqO_nx, varD_s, varD_0]
      cases indexD (.lst (bs.map D.bl)) (.bl true) with
      | none => rfl
      | some i =>
        simp only [of_some, RR.bind_ok, Option.bind_some]
        cases ixD (.lst (w.ws.map D.str)) i <;> rfl
    · simp only [z, decide_false, Bool.not_false, if_true, if_false, RR.bind_ok, tru_bl, seqO_rt]
  · cases h
end
end Py
end
section
set_option maxHeartbeats 4000000
namespace Py
open PySem PySem.Spec PyProof.Rows L2
/-! ### the call of a def at a hot place, its body told of that very place -/
theorem run_hot {CX : CXT} {X : Cx} {pins : List (Addr × Obj)} {σ : L2.St} {H : Hp} {s : Shared} {pp : Addr × Obj} {k : Nat} {f : Addr} {name qual : Str} {params : Arguments} {body : List Stmt} {scope : Scope} {dV kV doc pm cdv ct oc : Value} {an od : Option Addr} {osl : Array (Option Value)} {N ps : List Str} {us : List Value} {vs : List V} {Q : VK} {E : XK}
    (I : Inv X pins σ H s) (hot : L2H.Hot1 X.A pp) (hpp : pp ∈ X.pn) (lk : X.K.lookup f = some ⟨oc, od, .func (PySem.W.fnOf name qual params body scope dV kV doc pm an cdv ct), osl⟩) (hcd : PySem.W.codeIn X.K cdv qual = true) (S : FnScope N ps scope) (hr : L2H.RoomH (k + 1) X.A)
    (hb : L2.Binds X.K (PySem.W.fnOf name qual params body scope dV kV doc pm an cdv ct) ps []) (r : Vals vs us) (hl : vs.length = ps.length)
    (go : L2H.RoomH k (X.A.deeper (envOfC qual scope s.heap.objs.size f cdv)) → ∃ t, PSs (L2H.cxH CX X.prog X.w X.K X.mg X.base N qual scope f cdv X.A X.stack s H E pp) body t ∧ t { nx := fun _ H' => Q .non H', rt := Q } (L2.start N vs) H) :
    codeAny (model X.prog X.w) X.A (.call (.ref f) ⟨us, []⟩) (CR CX X.stack X.prog X.w H s Q E) s := by
  have e0 := I.env0
  have pin := I.pin pp (List.mem_append_left _ hpp)
  have hpin : L2H.PinOk X.stack H s pp := ⟨pin.1, pin.2.1, fun z => (List.mem_cons.mp (I.stkSub pp.1 z)).elim pin.2.2.1 pin.2.2.2.1, pin.2.2.2.2⟩
  have hbind := hb s us I.kIn (by rw [List.append_nil, ← r.length, hl])
  rw [List.append_nil] at hbind
  have kinds : ∀ y ∈ ps.zip us, scope.names.lookup y.1 = some .local ∨ (scope.names.lookup y.1 = some .cell ∧ ((cellsFrom (s.heap.objs.size + 1) scope.names []).lookup y.1).isSome = true) := by
    rintro ⟨n, v⟩ hy
    exact (S.par n (List.of_mem_zip hy).1).imp id fun q => ⟨q, PySem.W.cellsFrom_some _ _ _ (.inl q)⟩
  have lim : s.heap.NoLimit := e0.mod.nolimit.keeps fun b o z => (e0.bs b o z).1
  refine codeAny_call_function hr.depth (I.kIn _ _ lk) rfl S.co S.gen rfl (PySem.W.codeRec_of I.kIn hcd) (hbind _ _ _ _ (wpAny_newFunctionEnv_cells S.kind kinds ?_))
  intro env he s1 x
  subst he
  obtain ⟨t, ht, hq⟩ := go (hr.deeper _)
  have J : Inv (L2H.cxH CX X.prog X.w X.K X.mg X.base N qual scope f cdv X.A X.stack s H E pp) [] (L2.start N vs) H s1 := L2H.inv_startH S hpin e0 hl r x
  refine ⟨lim.keeps x.toInCall.keep, codeAny_func (wpAny_mono (ht.run [] s1 (L2.start N vs) H _ J hq) (fun fl s' hs => ?_) fun _ _ z => z)⟩
  cases fl with
  | ret u => obtain ⟨v, σ', H', J', rv, q⟩ := hs; exact ⟨v, H', J'.os, J'.bare, J'.base, J'.hok, rv, q⟩
  | next => obtain ⟨σ', H', J', q⟩ := hs; exact ⟨.non, H', J'.os, J'.bare, J'.base, J'.hok, rfl, q⟩
  | brk => obtain ⟨_, _, _, q⟩ := hs; exact q.elim
  | cont => obtain ⟨_, _, _, q⟩ := hs; exact q.elim
/-- what stands of the def that tells a class -/
structure WordAt (K : PySem.W.Frag) (mg : Str → Option Value) (wn : Str) (w : WordT) (st : Stmt) (cls : List (Str × Str)) (fb : Str → Str → Bool) : Prop where
  chk : chkWord w (defScope st) (defBody st) = true
  len : (w.c1 ++ w.c2).length ≤ 100 ∧ w.ws.length ≤ 100
  par : plainArgs (defArgs st) [w.e] = true
  sc : FnScope [w.e, w.fl, w.x] [w.e] (defScope st)
  fn : ∃ qual f fd, FunD K wn qual (defArgs st) (defBody st) (defScope st) [] [] f fd ∧ mg wn = some (.ref f)
  m1 : mg "isinstance" = none
  m2 : mg "sum" = none
  m3 : mg "int" = none
  m4 : mg "ValueError" = none
  exc : ∀ p ∈ cls, ExcC K (He.ga K p.1)
  kv : ∀ p ∈ cls, PySem.W.kitOne K (.ref (He.ga K p.1)) (.type "ValueError") = some true
  k : ∀ p ∈ cls, ∀ c ∈ w.c1 ++ w.c2, mg c = some (.ref (He.ga K c)) ∧ PySem.W.kitOne K (.ref (He.ga K p.1)) (.ref (He.ga K c)) = some (fb p.1 c)
  tells : ∀ p ∈ cls, ∀ ot, wordV ((w.c1 ++ w.c2).map (fb p.1)) ot w.ws = .ok (.str p.2)
  fine : ∀ p ∈ cls, strFine p.2 = true
end Py
end
section
set_option maxHeartbeats 4000000
namespace Py
open PySem PySem.Spec PyProof.Rows L2 LamX
/-- the reading of word(e) in a suite -/
def tWord (i : Nat) (a : Addr) (T : Tb) (wd : Str) : TE := fun σ H Q => σ[i]? = some (some (.ref a)) ∧ Tabs T H ∧ ∀ v H', Ext T H H' → v = .str wd → Q v H'
theorem ok_empty {K : PySem.W.Frag} {T : Tb} {H : Hp} {N : List Str} {ds : List D} {vs : List V} (t : Tabs T H) (r : Reps K (hide H fun _ => false) ds vs) : StS K T H (fun _ => false) (hide H fun _ => false) (fun _ => false) (L2.start N vs) H (startD N.length ds) := by
  refine ⟨stE_start (fun a h => nomatch h) t r, Ext.refl t, ExtN.refl _, fun _ h => h, fun _ h => .inl h, fun j a e q1 => ?_⟩
  exfalso
  unfold startD at q1
  by_cases hi : j < ds.length
  · rw [List.getElem?_append_left (by simpa using hi), List.getElem?_map] at q1
    cases q : ds[j]? with
    | none => rw [q] at q1; cases q1
    | some d => rw [q] at q1; cases q1
  · rw [List.getElem?_append_right (by simpa using Nat.le_of_not_lt hi)] at q1
    rw [List.getElem?_replicate] at q1
    split at q1 <;> cases q1
theorem pe_word {X : Cx} {a : Addr} {oe : Obj} {pn : List (Addr × Obj)} {T : Tb} {wn en c wd : Str} {w : WordT} {st : Stmt} {cls : List (Str × Str)} {fb : Str → Str → Bool} {i k : Nat} {p1 p2 p3 : Pos} (WA : WordAt X.K X.mg wn w st cls fb) (hc : (c, wd) ∈ cls)
    (hz : L2N.Zn (.ref (He.ga X.K c)) none oe) (hf : ∃ vs, oe.data = .fields vs) (hr : Room (k + 1) X.A) (hg : Gl X wn) (hdb : (wn == ("__debug__" : Str)) = false) (hN : X.N[i]? = some en) (hv : Vis X.env.scope en) (hd : (en == ("__debug__" : Str)) = false) (hcd : (en == ("__classdict__" : Str)) = false) :
    PE (X.suite a ((a, oe) :: pn)) (.Call (.Name wn p1) [.Name en p2] [] p3) (tWord i a T wd) := by
  refine ⟨fun pins s σ H Q I h => ?_⟩
  obtain ⟨hs, hT, hQ⟩ := h
  obtain ⟨qual, f, fd, FD, hm⟩ := WA.fn
  have hk := FD.kp
  have hbn := FD.bindsN (ps := [w.e]) fun kV doc pm an cdv ct us hl => bind_all WA.par hl
  obtain ⟨oc, od, dV, kV, doc, pm, an, cdv, ct, osl, e, lk, hcode, _, _⟩ := FD.ex
  subst e
  obtain ⟨vs0, hvs0⟩ := hf
  have hot1 : L2H.Hot1 (X.suite a ((a, oe) :: pn)).A (a, oe) := ⟨rfl, vs0, hvs0, hz.2.2 vs0 hvs0⟩
  refine wpAny_Call_Name_kw (ld_glob I (show Gl (X.suite a ((a, oe) :: pn)) wn from hg) hm ?_ hdb)
  refine PySem.W.callWith_K (h₀ := X.base) I.ok.mod.kin hk (thn ((pa_cons (pe_var (pos := p2) (i := i) (X := X.suite a ((a, oe) :: pn)) hN hv hd hcd) pa_nil).run p3 pins s σ H (fun vs H1 => vs = [.ref a] ∧ H1 = H) I ⟨_, hs, rfl, rfl⟩) fun us s1 ⟨vs, H1, I1, r, ev, eH⟩ => ⟨I1.kIn, ?_⟩) (by rfl) (by rfl)
  subst ev eH
  refine wpAny_call (codeAny_mono (run_hot (CX := L2N.CX X.prog X.w) (k := k) (E := fun _ _ _ => False) (Q := Q) (N := [w.e, w.fl, w.x]) (ps := [w.e]) I1 hot1 List.mem_cons_self lk hcode WA.sc (show L2H.RoomH (k + 1) _ from ⟨hr.dp, hr.un⟩) hbn r rfl fun hr' => ?_) fun r s' hq => ?_)
  · obtain ⟨ot, F, hF, hval⟩ := word_body (X := L2H.cxH (L2N.CX X.prog X.w) X.prog X.w X.K X.mg X.base [w.e, w.fl, w.x] qual (defScope st) f cdv (X.suite a ((a, oe) :: pn)).A X.stack s1 H1 (fun _ _ _ => False) (a, oe)) (T := T) (W := fun _ _ _ _ => False) (Dc := He.ga X.K c) (fb := fb c) WA.chk rfl rfl WA.sc.kind rfl ⟨(a, oe), hot1, List.mem_singleton_self _⟩ (by have := hr'.un; show ((X.suite a ((a, oe) :: pn)).A.deeper (envOfC qual (defScope st) s1.heap.objs.size f cdv)).units + 200 < cLine; omega)
      (List.mem_singleton_self _) (WA.exc _ hc) hz.zc ⟨vs0, hvs0⟩ WA.m1 WA.m2 WA.m3 WA.m4 (WA.k _ hc) (WA.kv _ hc) WA.len.1 WA.len.2
    refine ⟨_, hF, H1, fun _ => false, hide H1 fun _ => false, fun _ => false, _, (fun a h => nomatch h), ok_empty (N := [w.e, w.fl, w.x]) (ds := [.obj a]) hT ⟨.ref a, [], rfl, rfl, rfl⟩, ?_⟩
    have e1 : F (startD [w.e, w.fl, w.x].length [D.obj a]) = .ok (.rt (.str wd)) := by
      show F [some (false, .obj a), none, none] = _
      rw [hval, WA.tells _ hc]; rfl
    rw [e1]
    intro v H' ex rv
    obtain ⟨_, _, ev⟩ := rv
    exact hQ v H' ex ev
  · cases r with
    | error e => obtain ⟨_, _, _, _, _, _, _, _, _, _, _, _, z⟩ := hq; exact z.elim
    | ok fl =>
      cases fl with
      | ret u => exact I1.after hq
      | next => exact hq.elim
      | brk => exact hq.elim
      | cont => exact hq.elim
end Py
end
section
set_option maxHeartbeats 4000000
namespace Py
open PySem PySem.Spec PyProof.Rows L2 LamX
/-! ### told(lambda: e) -/
/-- what the def that got the lambda lies in -/
abbrev inG (X : Cx) (Ng : List Str) (qg : Str) (sg : Scope) (g : Addr) (cdg : Value) (s : Shared) (H : Hp) : Cx := cxOf (L2N.CX X.prog X.w) X.prog X.w X.K X.mg X.base Ng qg sg g cdg X.A X.stack s H (fun _ _ _ => False)
section
variable {X : Cx} {pins : List (Addr × Obj)} {σ : L2.St} {H : Hp} {s : Shared}
theorem pe_actN {Ng : List Str} {qg : Str} {sg : Scope} {g f c' : Addr} {cdg pm ctv : Value} {params : Arguments} {body : Expr} {scope : Scope} {k i : Nat} {a : Str} {pn : List (Addr × Obj)} {xe : Value → Shared → Prop} {W : WX} {E : XK} {tb : TE} {p1 p2 : Pos}
    (I : Inv X pins σ H s) (L : LamS X.env.scope scope) (hf : s.heap.get? f = some (PySem.W.kla_obj "<lambda>" (X.env.qual ++ "<lambda>") params body scope (cloFrom X.env.cells scope.names []) pm c' ctv)) (hfn : H f = none) (hfr : f ∉ frs X.stack)
    (hbind : bindArgs (PySem.W.kla_fn "<lambda>" (X.env.qual ++ "<lambda>") params body scope (cloFrom X.env.cells scope.names []) pm (.ref c') ctv) ⟨[], []⟩ = pure [])
    (tk : L2N.Takes ((inG X Ng qg sg g cdg s H).tr pn xe) W) (hW : ∀ cls d σ' H', E cls d H' → W cls d σ' H') (hr : Room (k + 1) (X.A.deeper (envOfC qg sg s.heap.objs.size g cdg)))
    (hbody : ∀ (A : Around) (outer : List PySem.Env) (s : Shared) (H : Hp), Room k (A.deeper (lamEnv X scope s.heap.objs.size f c')) → PE (lamN X A outer s H E scope f c') body tb)
    (hN : Ng[i]? = some a) (hv : Vis sg a) (hd : (a == ("__debug__" : Str)) = false) (hcd : (a == ("__classdict__" : Str)) = false) :
    PE ((inG X Ng qg sg g cdg s H).tr pn xe) (.Call (.Name a p1) [] [] p2) (fun σZ HZ Q => σZ[i]? = some (some (.ref f)) ∧ HZ c' = some (CodeO c' (X.env.qual ++ "<lambda>")) ∧ tb σ HZ Q) := by
  refine ⟨fun pinsZ sZ σZ HZ Q IZ ⟨hs, hc, ht⟩ => ?_⟩
  refine wpAny_Call_Name_kw (thn ((pe_var (pos := p1) (i := i) hN hv hd hcd).run pinsZ sZ σZ HZ (fun v H1 => v = .ref f ∧ H1 = HZ) IZ ⟨.ref f, hs, rfl, rfl⟩) fun u s1 ⟨v, H1, I1, r1, ev, eH⟩ => ?_)
  subst ev
  rw [eH] at I1
  obtain rfl : u = Value.ref f := r1
  have un : Un (frs X.stack) [] H HZ s.heap s1.heap := I1.base
  have of1 : s1.heap.get? f = some (PySem.W.kla_obj "<lambda>" (X.env.qual ++ "<lambda>") params body scope (cloFrom X.env.cells scope.names []) pm c' ctv) := un.keep f _ hf hfn hfr (by simp)
  obtain ⟨⟨oc, vs, t, hoc, hdc, hvc⟩, _, _⟩ := I1.hok c' _ hc
  refine PySem.W.callWith_F0 ⟨_, _, _, _, of1⟩ (wpAny_call (codeAny_mono (R := CR (L2N.CX X.prog X.w) (envOfC qg sg s.heap.objs.size g cdg :: X.stack) X.prog X.w HZ s1 Q E) ?_ fun r s' hq => ?_))
  · refine PySem.W.kla_callFunE hr.depth of1 rfl L.co L.gen rfl ⟨c', oc, vs, t, rfl, hoc, hdc, hvc⟩ ?_
    change wpAny _ _ (bindArgs _ ⟨[], []⟩) _ _ _
    rw [hbind]
    refine wpAny_pure (wpAny_newFunctionEnv (fun y hy => (L.own y hy).2) (fun y hy => absurd hy (by simp)) (fun h₁ hns hsb => ⟨I1.nolimit.fresh _ hsb, ?_⟩) L.kind)
    have kp : ∀ b o, s1.heap.get? b = some o → h₁.get? b = some o := fun b o e => hsb.extBut b o (Nat.ne_of_lt (Heap.lt_size e)) (Heap.get?_push_of_some _ e)
    have J : Inv (lamCx X (X.A.deeper (envOfC qg sg s.heap.objs.size g cdg)) (envOfC qg sg s.heap.objs.size g cdg :: X.stack) s1 HZ E scope f c') [] σ HZ { s1 with heap := h₁, toks := s1.toks + ([] : List (Str × Value)).length } := lam_start2 I L I1.env0 hr.hd un hns kp
    exact PySem.W.kla_codeExpr (wpAny_mono ((hbody _ _ s1 HZ (hr.deeper _)).run [] _ _ HZ Q (J.toTry _) ht) (fun v s' ⟨w', H', J', rv, q⟩ => ⟨w', H', J'.os, J'.bare, J'.base, J'.hok, rv, q⟩) fun e s' hq => hq)
  · cases r with
    | error e => exact L2N.passes_call tk hW pinsZ σZ HZ s1 e s' I1 hq
    | ok fl =>
      cases fl with
      | ret u => exact I1.after hq
      | next => exact hq.elim
      | brk => exact hq.elim
      | cont => exact hq.elim
end
/-- the told def: try: return a() / except LE as e: return word(e) -/
def asTold : List Stmt → Option (Str × Str × Str × Str × Str)
  | [.Try [.Return (some (.Call (.Name a _) [] [] _)) _] [.ExceptHandler (some (.Name le _)) (some en) [.Return (some (.Call (.Name wn _) [.Name en2 _] [] _)) _] _] [] [] _] => some (a, le, en, wn, en2)
  | _ => none
theorem asTold_of {b : List Stmt} {a le en wn en2 : Str} (h : asTold b = some (a, le, en, wn, en2)) : ∃ p1 p2 p3 p4 p5 p6 p7 p8 p9 p10, b = [.Try [.Return (some (.Call (.Name a p1) [] [] p2)) p3] [.ExceptHandler (some (.Name le p4)) (some en) [.Return (some (.Call (.Name wn p5) [.Name en2 p6] [] p7)) p8] p9] [] [] p10] := by
  unfold asTold at h
  split at h
  · cases h; exact ⟨_, _, _, _, _, _, _, _, _, _, rfl⟩
  · cases h
/-- the names of a told def: its parameter, the exception's -/
structure ToldT where
  tn : Str
  a : Str
  le : Str
  en : Str
  wn : Str
def chkTold (t : ToldT) (st : Stmt) : Bool :=
  decide (asTold (defBody st) = some (t.a, t.le, t.en, t.wn, t.en)) && plainArgs (defArgs st) [t.a] && (match (defScope st).kind with | .function => true | _ => false) && !(defScope st).isCoroutine && !(defScope st).isGenerator && decide ([t.a, t.en].Nodup) && localB (defScope st) t.a && localB (defScope st) t.en && gloB (defScope st) t.le && gloB (defScope st) t.wn
  && plainN t.a && plainN t.en && plainN t.le && plainN t.wn && ((defScope st).names.all fun y => match y.2 with | .free => false | _ => true)
structure ToldAt (K : PySem.W.Frag) (mg : Str → Option Value) (t : ToldT) (st : Stmt) (cls : List (Str × Str)) : Prop where
  chk : chkTold t st = true
  fn : ∃ qual g fd, FunD K t.tn qual (defArgs st) (defBody st) (defScope st) [] [] g fd ∧ mg t.tn = some (.ref g)
  le : mg t.le = some (.ref (He.ga K t.le))
  exm : ∀ p ∈ cls, PySem.W.exmOne K (.ref (He.ga K p.1)) (.ref (He.ga K t.le)) = some true
  word : ∃ w st2 fb, WordAt K mg t.wn w st2 cls fb
end Py
end
section
set_option maxHeartbeats 4000000
namespace Py
open PySem PySem.Spec PyProof.Rows L2 LamX
theorem pe_told {X : Cx} {T : Tb} {W : WX} {t : ToldT} {st : Stmt} {cls : List (Str × Str)} {k : Nat} {c P : Addr} {params : Arguments} {lbody : Expr} {scope : Scope} {lpos pos p : Pos} {m : Md} {fe : Env → RR D}
    (TA : ToldAt X.K X.mg t st cls) (hg : Gl X t.tn) (hdb : (t.tn == ("__debug__" : Str)) = false) (TB : TabB X.base X.mg c P) (hcode : X.env.code = .ref c) (hmT : (P, X.env.qual ++ "<lambda>") ∈ T) (hu : ∀ p ∈ T, p.1 = P → p.2 = X.env.qual ++ "<lambda>") (hr : Room (k + 2) X.A)
    (L : LamS X.env.scope scope) (hdef : defaultsOf params X.env = ([], [])) (hbind : ∀ (q : Str) (cl : List (Str × Addr)) (pm cv ctv : Value), bindArgs (PySem.W.kla_fn "<lambda>" q params lbody scope cl pm cv ctv) ⟨[], []⟩ = pure [])
    (hbody : ∀ (A : Around) (outer : List PySem.Env) (s : Shared) (H : Hp) (E : XK) (f c' : Addr), Room k (A.deeper (lamEnv X scope s.heap.objs.size f c')) → PE (lamN X A outer s H E scope f c') lbody (tD X.K T (fun cls d _ H' => E cls d H') m fe)) (hm : m ≠ .bo) :
    PE X (.Call (.Name t.tn p) [.Lambda params lbody scope lpos] [] pos) (tD X.K T W .sh fun ρ => toldR cls (fe ρ)) := by
  refine ⟨fun pins s σ H Q I ⟨ρ, Z, se, hp⟩ => ?_⟩
  obtain ⟨qual, g, fd, FD, hmg⟩ := TA.fn
  have hk := FD.kp
  have hc := TA.chk
  simp only [chkTold, Bool.and_eq_true, decide_eq_true_eq, Bool.not_eq_true', List.all_eq_true] at hc
  obtain ⟨⟨⟨⟨⟨⟨⟨⟨⟨⟨⟨⟨⟨⟨h1, h2⟩, h3⟩, h4⟩, h5⟩, h6⟩, h7⟩, h8⟩, h9⟩, h10⟩, n1⟩, n2⟩, n3⟩, n4⟩, h11⟩ := hc
  obtain ⟨p1, p2, p3, p4, p5, p6, p7, p8, p9, p10, hb⟩ := asTold_of h1
  obtain ⟨a1, a2⟩ : (t.a == ("__debug__" : Str)) = false ∧ (t.a == ("__classdict__" : Str)) = false := nb_of n1
  obtain ⟨e1, e2⟩ : (t.en == ("__debug__" : Str)) = false ∧ (t.en == ("__classdict__" : Str)) = false := nb_of n2
  have kind : (defScope st).kind = .function := by
    split at h3
    · assumption
    · cases h3
  have Sg : FnScope [t.a, t.en] [t.a] (defScope st) := ⟨kind, h4, h5, h6, rfl, fun x hx => by rw [List.mem_singleton.mp hx]; exact .inl (localB_of h7), fun y hy z => by
    have := h11 y hy
    rw [z] at this
    cases this⟩
  have hbn := FD.bindsN (ps := [t.a]) fun kV doc pm an cdv ct us hl => bind_all h2 hl
  obtain ⟨oc, od, dV, kV, doc, pm, an, cdg, ct, osl, efd, lk, hcg, _, _⟩ := FD.ex
  subst efd
  obtain ⟨w, st2, fb, WA⟩ := TA.word
  refine wpAny_Call_Name_kw (ld_glob I hg hmg ?_ hdb)
  refine PySem.W.callWith_K (h₀ := X.base) I.ok.mod.kin hk ?_ (by rfl) (by rfl)
  show wpAny _ _ (spliced ((false, eval (.Lambda params lbody scope lpos) X.env) :: backTo pos (starEach [] X.env))) _ _ s
  refine Calls.spliced_cons (lam_make2 I TB hcode hmT hu se.tabs hdef (L.has I.ok) fun f c' pm' ctv H1 s' I1 eN T1 hf hfn hfr hco => Calls.spliced_nil ⟨I1.kIn, ?_⟩)
  have x1 : Ext T H H1 := ⟨eN, T1⟩
  have se1 := se.ext x1
  have hp1 : Post X.K T Z W σ H1 .sh Q (toldR cls (fe ρ)) := hp.from x1
  refine wpAny_call (codeAny_mono (run_ofS (CX := L2N.CX X.prog X.w) (E := fun _ _ _ => False) (Q := Q) (N := [t.a, t.en]) (ps := [t.a]) (us := [.ref f]) (vs := [.ref f]) (k := k + 1) lk hcg Sg hr I1.env0 (by have := hbn s' [.ref f] I1.kIn rfl; rw [List.append_nil] at this; exact this) (.cons rfl .nil) rfl fun hr' => ?_) fun r s2 hq => ?_)
  · rw [hb]
    refine ⟨_, pss_one (L2N.ps_try_as (X := inG X [t.a, t.en] qual (defScope st) g cdg s' H1) (n := t.en) (x := t.le) (i := 1) (c := .ref (He.ga X.K t.le)) (Wout := fun _ _ _ _ => False)
      (tb := fun W D σ' H' => ∃ Ech : XK, (∀ cls d σ' H', Ech cls d H' → W cls d σ' H') ∧ H' c' = some (CodeO c' (X.env.qual ++ "<lambda>")) ∧ σ'[0]? = some (some (V.ref f)) ∧ tD X.K T (fun cls d _ H' => Ech cls d H') m fe σ H' D.rt)
      (ts := fun a cv d D σ' H' => ∃ cn wd, (cn, wd) ∈ cls ∧ cv = .ref (He.ga X.K cn) ∧ d = none ∧ (σ'[1]? = some (some (.ref a)) ∨ σ'.length ≤ 1) ∧ Tabs T H' ∧ ∀ v H'', Ext T H' H'' → v = .str wd → D.rt v H'')
      rfl rfl h6 rfl (localB_of h8) ⟨gl_of (X := inG X [t.a, t.en] qual (defScope st) g cdg s' H1) rfl h9, (nb_of n3).1, .inl TA.le⟩ takes0N (fun W pn xe tk _ => ?_) (fun a oe cv d pn hz hfl => ?_)), ?_⟩
    · refine pss_one ⟨fun pins2 s3 σ3 H3 D3 I3 ⟨Ech, hW, q1, q2, q3⟩ => ?_⟩
      exact (ps_ret (pos := p3) (pe_actN (i := 0) (k := k) (E := Ech) (p1 := p1) (p2 := p2) I1 L hf hfn hfr (hbind _ _ _ _ _) tk hW hr' (fun A outer s H hr2 => hbody A outer s H Ech f c' hr2) rfl (.inl (localB_of h7)) a1 a2)).run pins2 s3 σ3 H3 D3 I3 ⟨q2, q1, q3⟩
    · refine pss_one ⟨fun pins2 s3 σ3 H3 D3 I3 ⟨cn, wd, hm1, ecv, ed, hs, hT, hQ⟩ => ?_⟩
      subst ecv ed
      have hlen : σ3.length = 2 := I3.len
      have hs : σ3[1]? = some (some (.ref a)) := hs.elim id fun z => by omega
      exact (ps_ret (pos := p8) (pe_word (X := inG X [t.a, t.en] qual (defScope st) g cdg s' H1) (T := T) (i := 1) (k := k) (p1 := p5) (p2 := p6) (p3 := p7) WA hm1 hz hfl hr' (gl_of (X := inG X [t.a, t.en] qual (defScope st) g cdg s' H1) rfl h10) (nb_of n4).1 rfl (.inl (localB_of h8)) e1 e2)).run pins2 s3 σ3 H3 D3 I3 ⟨hs, hT, hQ⟩
    · refine ⟨fun cv d H' => ∃ cn wd, (cn, wd) ∈ cls ∧ cv = .ref (He.ga X.K cn) ∧ d = none ∧ Ext T H1 H' ∧ ∀ v H'', Ext T H' H'' → v = .str wd → Q v H'', fun cv d σ' H' ⟨cn, wd, q1, q2, q3, q4, q5⟩ => ?_, hco, rfl, ρ, Z, se1, ?_⟩
      · subst q2 q3
        refine ⟨true, TA.exm _ q1, fun _ a na => ⟨cn, wd, q1, rfl, rfl, ?_, q4.tabs, q5⟩, fun z => nomatch z⟩
        by_cases hl : 1 < σ'.length
        · exact .inl (List.getElem?_set_self hl)
        · exact .inr (by rw [List.length_set]; omega)
      · cases q : fe ρ with
        | ok d =>
          rw [q] at hp1
          exact fun v H' ex r => hp1 v H' ex (r.sh hm se1.zdom)
        | bad => rw [q] at hp1; exact hp1.elim
        | ex cn =>
          rw [q] at hp1
          unfold toldR at hp1
          dsimp only at hp1
          cases ql : cls.lookup cn with
          | none => rw [ql] at hp1; exact hp1.elim
          | some wd =>
            rw [ql] at hp1
            have hmem : (cn, wd) ∈ cls := PySem.mem_of_lookup ql
            have fine := WA.fine _ hmem
            simp only [strFine, Bool.and_eq_true, decide_eq_true_eq] at fine
            intro H' ex
            refine ⟨cn, wd, hmem, rfl, rfl, ex, fun v H'' ex2 ev => ?_⟩
            subst ev
            exact hp1 _ H'' (ex.trans ex2) ⟨fine.1, by rw [lim_eq]; exact fine.2, rfl⟩
  · cases r with
    | error e => obtain ⟨_, _, _, _, _, _, _, _, _, _, _, _, z⟩ := hq; exact z.elim
    | ok fl =>
      cases fl with
      | ret u => exact I1.after hq
      | next => exact hq.elim
      | brk => exact hq.elim
      | cont => exact hq.elim
end Py
end
section
set_option maxHeartbeats 4000000
namespace Py
open PySem PySem.Spec PyProof.Rows L2 LamX

/-! ### the defs -/
structure FDef where
  name : Str
  md : Md
  ps : List Str
  N : List Str
  body : Ss
  lam : Bool := false
def FDef.run (d : FDef) (fm : List Md) (C : List D) (G : GT) (l : List D) : RR D := match exs fm C G d.body (startD d.N.length l) with
  | .ok (.rt r) => .ok r
  | .ok (.nx _) => if d.md = .sh then .ok .non else .bad
  | .ex c => .ex c
  | _ => .bad
abbrev Defs := List (Nat × FDef)
section
variable (fm : List Md) (C : List D) (defs : Defs)
def fnsG : Nat → GT
  | 0 => []
  | k + 1 => (fun f l => match defs.lookup f with | some d => d.run fm C (fnsG k) l | none => .bad) :: fnsG k
end
def fns_tbl (defs : Defs) : List (Nat × Str × Md × Nat) := defs.map fun d => (d.1, d.2.name, d.2.md, d.2.ps.length)
theorem fns_look {defs : Defs} {j : Nat} {z : Str × Md × Nat} (h : (fns_tbl defs).lookup j = some z) : ∃ d, defs.lookup j = some d ∧ z = (d.name, d.md, d.ps.length) := by
  induction defs with
  | nil => cases h
  | cons p ds ih =>
    unfold fns_tbl at h ih
    rw [List.map_cons, List.lookup_cons] at h
    rw [List.lookup_cons]
    cases q : j == p.1 with
    | true => rw [q] at h; cases h; exact ⟨p.2, rfl, rfl⟩
    | false => rw [q] at h; exact ih h
/-- the checker, of a def's text -/
def chkD (t : Tbl) (d : FDef) (st : Stmt) : Bool :=
  chkSs ⟨d.N, defScope st, fun _ => true, t, d.lam⟩ d.md d.body (defBody st) && plainArgs (defArgs st) d.ps &&
  (match (defScope st).kind with | .function => true | _ => false) && !(defScope st).isCoroutine && !(defScope st).isGenerator && decide d.N.Nodup && decide (d.N.take d.ps.length = d.ps) && d.ps.all (fun x => locB (defScope st) x) &&
  ((defScope st).names.all fun y => match y.2 with | .free => false | _ => true)
theorem scope_ok {t : Tbl} {d : FDef} {st : Stmt} (h : chkD t d st = true) : FnScope d.N d.ps (defScope st) := by
  simp only [chkD, Bool.and_eq_true, decide_eq_true_eq, List.all_eq_true, Bool.not_eq_true'] at h
  obtain ⟨⟨⟨⟨⟨⟨⟨⟨_, _⟩, h1⟩, h2⟩, h3⟩, h4⟩, h5⟩, h6⟩, h7⟩ := h
  refine ⟨?_, h2, h3, h4, h5, fun x hx => locB_of (h6 x hx), fun y hy e => ?_⟩
  · split at h1
    · assumption
    · cases h1
  · have := h7 y hy
    rw [e] at this
    cases this
/-- where the defs stand -/
structure DefAt (K : PySem.W.Frag) (mg : Str → Option Value) (base : Heap) (T : Tb) (d : FDef) (st : Stmt) (f : Addr) (fd : FuncData) : Prop where
  fun_ : ∃ qual, FunD K d.name qual (defArgs st) (defBody st) (defScope st) [] [] f fd ∧ (d.lam = true → ∃ c P, fd.code = .ref c ∧ TabB base mg c P ∧ (P, (qual ++ ".<locals>.") ++ "<lambda>") ∈ T ∧ ∀ p ∈ T, p.1 = P → p.2 = (qual ++ ".<locals>.") ++ "<lambda>")
  mg : mg d.name = some (.ref f)
structure Facts (K : PySem.W.Frag) (w : World) (mg : Str → Option Value) (base : Heap) (T : Tb) (t : Tbl) (C : List D) (defs : Defs) : Prop where
  fns : t.fns = fns_tbl defs
  chk : ∀ (i : Nat) (d : FDef), defs.lookup i = some d → ∃ st, chkD t d st = true ∧ ∃ f fd, DefAt K mg base T d st f fd
  free : ∀ x ∈ t.free, mg x = none
  cons : ∀ (i : Nat) (x : Str), t.cons.lookup i = some x → ∃ d v u, C[i]? = some d ∧ mg x = some u ∧ RelV v u ∧ ∀ H, Rep K H d v
  exc : ∀ x ∈ t.excs, mg x = some (.ref (He.ga K x)) ∧ (He.Fa.exc x).ok K = true
  dcs : ∀ (i : Nat) (x : Str) (kvs : List (Str × Int)), t.dcs.lookup i = some (x, kvs) → CDict K w x kvs ∧ mg x = some (.ref (He.ga K x)) ∧ C[i]? = some (dicOf kvs)
  told : ∀ (tn : Str) (cls : List (Str × Str)), t.told = some (tn, cls) → ∃ (tt : ToldT) (st : Stmt), tt.tn = tn ∧ ToldAt K mg tt st cls
section
variable {P : Program} {w : World} {K : PySem.W.Frag} {mg : Str → Option Value} {base : Heap} {T : Tb} {t : Tbl} {C : List D} {defs : Defs}
theorem funD_look {x qual : Str} {params : Arguments} {body : List Stmt} {scope : Scope} {dvs : List V} {kws : List (Str × V)} {f : Addr} {fd : FuncData} (F : FunD K x qual params body scope dvs kws f fd) : ∃ oc od osl, K.lookup f = some ⟨oc, od, .func fd, osl⟩ := by
  obtain ⟨oc, od, dV, kV, doc, pm, an, cdv, ct, osl, _, lk, _⟩ := F.ex
  exact ⟨oc, od, osl, lk⟩
theorem fns_len {fm : List Md} : ∀ k, (fnsG fm C defs k).length = k
  | 0 => rfl
  | k + 1 => congrArg (· + 1) (fns_len k)
theorem fns_drop {fm : List Md} {k : Nat} : (fnsG fm C defs (k + 2)).drop 2 = fnsG fm C defs k := rfl
/-- what a def promises at a level -/
def Prom (P : Program) (w : World) (K : PySem.W.Frag) (mg : Str → Option Value) (base : Heap) (T : Tb) (t : Tbl) (C : List D) (defs : Defs) (k i : Nat) (d : FDef) : Prop :=
  ∃ f fd, FnOk P w K mg base (L2N.CX P w) k f fd d.ps (spD K T d.md d.ps.length (callG (fnsG t.fm C defs k) i)) ∧ mg d.name = some (.ref f) ∧ PySem.W.keepIn K (.ref f) = true ∧ L2.Binds K fd d.ps [] ∧ ∃ oc od osl, K.lookup f = some ⟨oc, od, .func fd, osl⟩
theorem Prom.at_ {X : Cx} {k j : Nat} {x : Str} {m : Md} {n : Nat} (h : ∀ (i : Nat) (d : FDef), defs.lookup i = some d → Prom P w K mg base T t C defs k i d) (F : Facts K w mg base T t C defs) (hj : t.fns.lookup j = some (x, m, n)) (e1 : X.prog = P) (e2 : X.w = w) (e3 : X.K = K) (e4 : X.mg = mg) (e5 : X.base = base) : FnAt X T k x m n (callG (fnsG t.fm C defs k) j) := by
  rw [F.fns] at hj
  obtain ⟨d', q, e⟩ := fns_look hj
  cases e
  subst e1 e2 e3 e4 e5
  obtain ⟨f', fd', a1, a2, a3, a4, _⟩ := h j d' q
  exact ⟨f', fd', d'.ps, a1, a2, a3, a4⟩
theorem lam_bind {lbody : Expr} {scope : Scope} (q : Str) (cl : List (Str × Addr)) (pm cv ctv : Value) : bindArgs (PySem.W.kla_fn "<lambda>" q ⟨[], [], none, [], [], none, []⟩ lbody scope cl pm cv ctv) ⟨[], []⟩ = pure [] := rfl
/-- told(lambda: ..) where a def with a table stands -/
theorem told_ok {X : Cx} {tt : ToldT} {st : Stmt} {cls : List (Str × Str)} {k : Nat} {c P : Addr} (TA : ToldAt X.K X.mg tt st cls) (TB : TabB X.base X.mg c P) (hcode : X.env.code = .ref c) (hmT : (P, X.env.qual ++ "<lambda>") ∈ T) (hu : ∀ p ∈ T, p.1 = P → p.2 = X.env.qual ++ "<lambda>") (hr : Room (k + 2) X.A) : ToldR X T tt.tn cls k := by
  intro W ps lbody scope lpos pos p m fe hn hg hdb L hbody hm
  obtain rfl := noArgs_of hn
  exact pe_told TA hg hdb TB hcode hmT hu hr L rfl lam_bind hbody hm
/-- a def keeps its promise at level k + 1 if all do at the levels k, k - 2 -/
theorem fn_step (F : Facts K w mg base T t C defs) {k : Nat} (ih : ∀ j, j ≤ k → ∀ (i : Nat) (d : FDef), defs.lookup i = some d → Prom P w K mg base T t C defs j i d)
    {i : Nat} {d : FDef} (hd : defs.lookup i = some d) : Prom P w K mg base T t C defs (k + 1) i d := by
  obtain ⟨st, hc, f, fd, ⟨qual, hF, hL⟩, hm⟩ := F.chk i d hd
  have S := scope_ok hc
  have hc' := hc
  simp only [chkD, Bool.and_eq_true] at hc'
  have hbody := hc'.1.1.1.1.1.1.1.1
  have hpar := hc'.1.1.1.1.1.1.1.2
  refine ⟨f, fd, ?_, hm, hF.kp, hF.bindsN fun kV doc pm an cdv ct us hl => bind_all hpar hl, funD_look hF⟩
  obtain ⟨oc, od, dV, kV, doc, pm, an, cdv, ct, osl, rfl, lk, hcd, _, _⟩ := hF.ex
  refine fn_of (CX := L2N.CX P w) lk hcd S (fun vs H Q E h => ?_) (fun A outer s H vs Q E hr h => ?_)
  · obtain ⟨ds, Z, h1, _, _, h4, _⟩ := h
    rw [h4.length, h1]
  · obtain ⟨ds, Z, h1, h2, h3, h4, h5⟩ := h
    have tk : L2N.Takes (cxOf (L2N.CX P w) P w K mg base d.N qual (defScope st) f cdv A outer s H E) (fun cls d _ H' => E cls d H') := L2N.takes_of rfl rfl rfl rfl
    have ok : StOk (cxOf (L2N.CX P w) P w K mg base d.N qual (defScope st) f cdv A outer s H E) ⟨d.N, defScope st, fun _ => true, t, d.lam⟩ T (fun cls d _ H' => E cls d H') C (fnsG t.fm C defs k) k := by
      refine ⟨⟨rfl, rfl, rfl, rfl, S.nd, hr, tk, F.free, fun j x m n hj => Prom.at_ (ih k (Nat.le_refl k)) F hj rfl rfl rfl rfl rfl, F.cons, F.dcs, fun hl hk => ?_⟩, S.kind, passes_of rfl, F.exc⟩
      rw [fns_len] at hk
      obtain ⟨k, rfl⟩ : ∃ k', k = k' + 2 := ⟨k - 2, by omega⟩
      refine ⟨hk, fun j x m n hj => Prom.at_ (ih k (by omega)) F hj rfl rfl rfl rfl rfl, fun tn cls ht => ?_⟩
      obtain ⟨c, P', e1, TB, hmT, hu⟩ := hL hl
      obtain ⟨tt, st2, rfl, TA⟩ := F.told tn cls ht
      exact told_ok (X := cxOf (L2N.CX P w) P w K mg base d.N qual (defScope st) f cdv A outer s H E) TA TB e1 hmT hu hr
    refine ⟨_, sSs d.body ok hbody, ?_⟩
    refine ⟨H, Z, hide H Z, Z, startD d.N.length ds, h3, ⟨stE_start h3 h2 h4, Ext.refl h2, ExtN.refl _, fun _ h => h, fun _ h => .inl h, fun j a e q1 => ?_⟩, ?_⟩
    · exfalso
      unfold startD at q1
      by_cases hi : j < ds.length
      · rw [List.getElem?_append_left (by simpa using hi), List.getElem?_map] at q1
        cases q : ds[j]? with
        | none => rw [q] at q1; cases q1
        | some d => rw [q] at q1; cases q1
      · rw [List.getElem?_append_right (by simpa using Nat.le_of_not_lt hi)] at q1
        rw [List.getElem?_replicate] at q1
        split at q1 <;> cases q1
    · have h5 : PostF K T Z H d.md Q E (match defs.lookup i with | some d => d.run t.fm C (fnsG t.fm C defs k) ds | none => .bad) := h5
      rw [hd] at h5
      have h5 : PostF K T Z H d.md Q E (d.run t.fm C (fnsG t.fm C defs k) ds) := h5
      unfold FDef.run at h5
      show PostD K T H Z (hide H Z) _ d.md _ (exs t.fm C (fnsG t.fm C defs k) d.body (startD d.N.length ds))
      cases q : exs t.fm C (fnsG t.fm C defs k) d.body (startD d.N.length ds) with
      | ok o =>
        rw [q] at h5
        cases o with
        | rt r => exact h5
        | nx ρ =>
          intro Z' σ' H' s'
          by_cases hm : d.md = .sh
          · have h5 : PostF K T Z H d.md Q E (if d.md = .sh then .ok .non else .bad) := h5
            rw [if_pos hm] at h5
            refine h5 .non H' s'.ext ?_
            rw [hm]; rfl
          · have h5 : PostF K T Z H d.md Q E (if d.md = .sh then .ok .non else .bad) := h5
            rw [if_neg hm] at h5
            exact h5.elim
        | ct ρ => exact h5.elim
        | br ρ => exact h5.elim
      | ex c => rw [q] at h5; exact fun σ H' e => h5 H' e
      | bad => rw [q] at h5; exact h5
theorem fn_zero (F : Facts K w mg base T t C defs) {i : Nat} {d : FDef} (hd : defs.lookup i = some d) : Prom P w K mg base T t C defs 0 i d := by
  obtain ⟨st, hc, f, fd, ⟨qual, hF, _⟩, hm⟩ := F.chk i d hd
  have hc' := hc
  simp only [chkD, Bool.and_eq_true] at hc'
  have hpar := hc'.1.1.1.1.1.1.1.2
  refine ⟨f, fd, ⟨fun vs H Q E h => ?_, fun A outer s H args us vs Q E hr e0 hb r h => ?_⟩, hm, hF.kp, hF.bindsN fun kV doc pm an cdv ct us hl => bind_all hpar hl, funD_look hF⟩
  · obtain ⟨ds, Z, h1, _, _, h4, _⟩ := h
    rw [h4.length, h1]
  · obtain ⟨ds, Z, h1, h2, h3, h4, h5⟩ := h
    exact (show False from h5).elim
theorem fn_le (F : Facts K w mg base T t C defs) : ∀ (k j : Nat), j ≤ k → ∀ (i : Nat) (d : FDef), defs.lookup i = some d → Prom P w K mg base T t C defs j i d
  | 0, j, h, i, d, hd => by
    obtain rfl : j = 0 := by omega
    exact fn_zero F hd
  | k + 1, j, h, i, d, hd => by
    by_cases e : j = k + 1
    · subst e; exact fn_step F (fn_le F k) hd
    · exact fn_le F k j (by omega) i d hd
theorem fn_all (F : Facts K w mg base T t C defs) (k i : Nat) (d : FDef) (hd : defs.lookup i = some d) : Prom P w K mg base T t C defs k i d := fn_le F k k (Nat.le_refl k) i d hd
end
end Py
end
section
set_option maxHeartbeats 4000000
namespace Py
open PySem PySem.Spec PyProof.Rows L2 LamX

/-! ### a law's data -/
/-- told(lambda: ..): the def that tells, the def of the words, the classes with their words -/
structure TLaw where
  tt : ToldT
  st : Stmt
  w : WordT
  wst : Stmt
  cls : List (Str × Str)
structure Law where
  defs : Defs
  sts : List Stmt
  fm : List Md
  C : List D
  free : List Str
  inz : List (Nat × Str × Int)
  excs : List Str
  dcs : List (Nat × Str × List (Str × Int)) := []
  cz : List (Nat × Str) := []
  told : Option TLaw := none
def Law.tbl (L : Law) : Tbl := ⟨fns_tbl L.defs, L.fm, L.free, L.inz.map (fun p => (p.1, p.2.1)) ++ L.cz, L.excs, L.dcs, L.told.map fun t => (t.tt.tn, t.cls)⟩
def Law.G (L : Law) (k : Nat) : GT := fnsG L.fm L.C L.defs k
def dfD (x : Str) (st : Stmt) : He.DefD := ⟨(x, none), x, x, defArgs st, defBody st, defScope st, [], []⟩
def dOf (d : Nat × FDef) (st : Stmt) : He.DefD := dfD d.2.name st
def TLaw.fn (t : TLaw) : List He.DefD := [dfD t.tt.tn t.st, dfD t.tt.wn t.wst]
def TLaw.cs (t : TLaw) : List Str := t.w.c1 ++ t.w.c2
def TLaw.fa (t : TLaw) : List He.Fa := .glo t.tt.tn :: .glo t.tt.wn :: .glo t.tt.le :: (t.cs.map .glo ++ [.free "isinstance", .free "sum", .free "int", .free "ValueError"])
def Law.tfn (L : Law) : List He.DefD := match L.told with | some t => t.fn | none => []
def Law.tfa (L : Law) : List He.Fa := match L.told with | some t => t.fa | none => []
def Law.fn (L : Law) : List He.DefD := List.zipWith dOf L.defs L.sts ++ L.tfn
def Law.fa (L : Law) : List He.Fa := L.defs.map (fun d => .glo d.2.name) ++ (L.free.map .free ++ (L.inz.map (fun p => .int p.2.1 p.2.2) ++ (L.excs.map .exc ++ (L.excs.map .glo ++ (L.dcs.map (fun p => .glo p.2.1) ++ L.tfa)))))
def Law.ts (L : Law) : List He.Tab := L.dcs.map fun p => ((fun K => He.ga K p.2.1), p.2.2.map (·.1))
def Law.tf (L : Law) : List He.Defn := (L.defs.filter (·.2.lam)).map fun d => (d.2.name, none)
def Law.T (L : Law) (K : PySem.W.Frag) : Tb := L.tf.map fun p => ((He.cT K p).2, (p.1 ++ ".<locals>.") ++ "<lambda>")
def conAt (K : PySem.W.Frag) (x : Str) (d : D) : Bool := match PySem.W.nsIn K mainGlobals x with
  | some (some u) => conB K d u
  | _ => false
def excCB (K : PySem.W.Frag) (a : Addr) : Bool :=
  He.eqO (PySem.W.findIn K (.ref a) "__getattribute__") (some (some (.builtin "BaseException.__getattribute__"))) && He.eqO (PySem.W.findIn K (.ref a) "__getattr__") (some none) && decide (PySem.W.subIn K (.ref a) (.type "BaseException") = some true) && PySem.W.hasDictIn K a
  && He.eqO (PySem.W.findIn K (.ref a) "__class__") (some (some (.builtin "object.__class__"))) && He.eqO (PySem.W.specialIn K (.builtin "object.__class__") "__get__") (some (some (.builtin "getset_descriptor.__get__"))) && decide (PySem.W.takesIn K (.builtin "object.__class__") = some true) && decide (PySem.W.mroIn K a (.type "object") = some true)
theorem excCB_ok {K : PySem.W.Frag} {a : Addr} (h : excCB K a = true) : ExcC K a := by
  simp only [excCB, Bool.and_eq_true, decide_eq_true_eq] at h
  obtain ⟨⟨⟨⟨⟨⟨⟨h1, h2⟩, h3⟩, h4⟩, h5⟩, h6⟩, h7⟩, h8⟩ := h
  exact ⟨He.eqO_ok h1, He.eqO_ok h2, h3, h4, He.eqO_ok h5, He.eqO_ok h6, h7, h8⟩
def TLaw.exB (t : TLaw) (K : PySem.W.Frag) : Bool := t.cls.all fun p =>
  excCB K (He.ga K p.1) && decide (PySem.W.exmOne K (.ref (He.ga K p.1)) (.ref (He.ga K t.tt.le)) = some true) && decide (PySem.W.kitOne K (.ref (He.ga K p.1)) (.type "ValueError") = some true)
  && t.cs.all fun c => decide (PySem.W.kitOne K (.ref (He.ga K p.1)) (.ref (He.ga K c)) = some (decide (p.1 = c)))
def Law.exB (L : Law) (K : PySem.W.Frag) : Bool :=
  (L.dcs.all fun p => kdB K (He.ga K p.2.1) p.2.2) && (L.cz.all fun p => match L.C[p.1]? with | some d => conAt K p.2 d | none => false) && (match L.told with | some t => t.exB K | none => true)
  && decide ((L.tf.map fun p => (He.cT K p).2).Nodup)
def chkDs (t : Tbl) : Defs → List Stmt → Bool
  | [], [] => true
  | d :: ds, s :: ss => chkD t d.2 s && chkDs t ds ss
  | _, _ => false
def isInt : D → Int → Bool
  | .int i, j => decide (i = j)
  | _, _ => false
/-- the value is this dict -/
def isDic : D → List (Str × Int) → Bool
  | .dic ks vs, kvs => decide (ks = keysStr kvs) && go vs (kvs.map (·.2))
  | _, _ => false
where go : List D → List Int → Bool
  | [], [] => true
  | d :: ds, i :: is => isInt d i && go ds is
  | _, _ => false
theorem isInt_of {d : D} {i : Int} (h : isInt d i = true) : d = .int i := by
  cases d with
  | int j => rw [of_decide_eq_true (show decide (j = i) = true from h)]
  | _ => cases h
theorem isDic_go : ∀ {ds : List D} {kvs : List (Str × Int)}, isDic.go ds (kvs.map (·.2)) = true → ds = kvs.map fun p => .int p.2
  | [], [], _ => rfl
  | [], _ :: _, h => by cases h
  | _ :: _, [], h => by cases h
  | d :: ds, p :: kvs, h => by
    simp only [List.map_cons, isDic.go, Bool.and_eq_true] at h
    rw [isInt_of h.1, isDic_go h.2]; rfl
theorem isDic_of {d : D} {kvs : List (Str × Int)} (h : isDic d kvs = true) : d = dicOf kvs := by
  unfold isDic at h
  split at h
  · rw [Bool.and_eq_true, decide_eq_true_eq] at h
    rw [h.1, isDic_go h.2]; rfl
  · cases h
/-- the words: what is known of the text -/
def wordTells (bs : List Bool) (ws : List Str) (x : Str) : Bool :=
  decide ((bs.map fun b => if b then (1 : Int) else 0).sum = 1) && (match RR.of ((indexD (.lst (bs.map D.bl)) (.bl true)).bind fun i => ixD (.lst (ws.map D.str)) i) with | .ok (.str y) => decide (y = x) | _ => false)
theorem wordTells_ok {bs : List Bool} {ws : List Str} {x : Str} (h : wordTells bs ws x = true) (ot : Str) : wordV bs ot ws = .ok (.str x) := by
  unfold wordTells at h
  rw [Bool.and_eq_true, decide_eq_true_eq] at h
  unfold wordV
  rw [if_pos h.1]
  have h2 := h.2
  split at h2
  · rename_i y q
    rw [q, of_decide_eq_true h2]
  · cases h2
def scopeB (N ps : List Str) (sc : Scope) : Bool :=
  (match sc.kind with | .function => true | _ => false) && !sc.isCoroutine && !sc.isGenerator && decide N.Nodup && decide (N.take ps.length = ps) && ps.all (fun x => locB sc x) && (sc.names.all fun y => match y.2 with | .free => false | _ => true)
theorem scopeB_ok {N ps : List Str} {sc : Scope} (h : scopeB N ps sc = true) : FnScope N ps sc := by
  simp only [scopeB, Bool.and_eq_true, decide_eq_true_eq, List.all_eq_true, Bool.not_eq_true'] at h
  obtain ⟨⟨⟨⟨⟨⟨h1, h2⟩, h3⟩, h4⟩, h5⟩, h6⟩, h7⟩ := h
  refine ⟨?_, h2, h3, h4, h5, fun x hx => locB_of (h6 x hx), fun y hy e => ?_⟩
  · split at h1
    · assumption
    · cases h1
  · have := h7 y hy
    rw [e] at this
    cases this
def TLaw.chk (t : TLaw) : Bool :=
  chkTold t.tt t.st && chkWord t.w (defScope t.wst) (defBody t.wst) && decide ((t.w.c1 ++ t.w.c2).length ≤ 100) && decide (t.w.ws.length ≤ 100) && plainArgs (defArgs t.wst) [t.w.e] && scopeB [t.w.e, t.w.fl, t.w.x] [t.w.e] (defScope t.wst)
  && t.cls.all fun p => wordTells (t.cs.map fun c => decide (p.1 = c)) t.w.ws p.2 && strFine p.2
def Law.chk (L : Law) : Bool := chkDs L.tbl L.defs L.sts && (L.inz.all fun p => match L.C[p.1]? with | some d => isInt d p.2.2 | none => false) && (L.dcs.all fun p => match L.C[p.1]? with | some d => isDic d p.2.2 | none => false) && (match L.told with | some t => t.chk | none => true)
theorem chkDs_at {t : Tbl} : ∀ {ds : Defs} {ss : List Stmt}, chkDs t ds ss = true → ∀ (i : Nat) (d : FDef), ds.lookup i = some d → ∃ st, chkD t d st = true ∧ dOf (i, d) st ∈ List.zipWith dOf ds ss ∧ (i, d) ∈ ds
  | [], ss, h, i, d, hd => by simp at hd
  | _ :: _, [], h, i, d, hd => by cases h
  | (j, d0) :: ds, s :: ss, h, i, d, hd => by
    simp only [chkDs, Bool.and_eq_true] at h
    rw [List.lookup_cons] at hd
    cases q : i == j with
    | true =>
      rw [q] at hd
      cases hd
      have e : i = j := beq_iff_eq.mp q
      subst e
      exact ⟨s, h.1, by simp, by simp⟩
    | false =>
      rw [q] at hd
      obtain ⟨st, h2, h3, h4⟩ := chkDs_at h.2 i d hd
      exact ⟨st, h2, by simp [h3], by simp [h4]⟩
theorem look_mem {α : Type} {i : Nat} {x : α} : ∀ {l : List (Nat × α)}, l.lookup i = some x → (i, x) ∈ l
  | [], h => by cases h
  | (j, y) :: l, h => by
    rw [List.lookup_cons] at h
    cases q : i == j with
    | true => rw [q] at h; cases h; rw [beq_iff_eq.mp q]; exact List.mem_cons_self
    | false => rw [q] at h; exact List.mem_cons_of_mem _ (look_mem h)
theorem Law.told_at (L : Law) {t : TLaw} (ht : L.told = some t) (hc : t.chk = true) {K : PySem.W.Frag} {h : Heap} {mg : Str → Option Value} (X : K.In h) (G : h.Ns mainGlobals mg) (c : He.SaysD L.fa L.fn K) (hx : t.exB K = true) : ToldAt K mg t.tt t.st t.cls := by
  have hfa : ∀ f ∈ t.fa, f.ok K = true := fun f hf => c.facts (by
    have e : L.tfa = t.fa := by unfold Law.tfa; rw [ht]
    have : f ∈ L.tfa := by rw [e]; exact hf
    exact List.mem_append_right _ (List.mem_append_right _ (List.mem_append_right _ (List.mem_append_right _ (List.mem_append_right _ (List.mem_append_right _ this))))))
  have hfn : ∀ d ∈ t.fn, ∃ fd, FunD K d.name d.qual d.params d.body d.scope (d.dvs K) (d.kws K) (He.fAd K d.at_) fd := fun d hd => c.defs (by
    have e : L.tfn = t.fn := by unfold Law.tfn; rw [ht]
    have : d ∈ L.tfn := by rw [e]; exact hd
    exact List.mem_append_right _ this)
  have hglo : ∀ x, He.Fa.glo x ∈ t.fa → mg x = some (.ref (He.ga K x)) := fun x hx => He.glo_ok X G (hfa _ hx)
  simp only [TLaw.chk, Bool.and_eq_true, decide_eq_true_eq, List.all_eq_true] at hc
  obtain ⟨⟨⟨⟨⟨⟨c1, c2⟩, c3⟩, c4⟩, c5⟩, c6⟩, c7⟩ := hc
  simp only [TLaw.exB, Bool.and_eq_true, decide_eq_true_eq, List.all_eq_true] at hx
  obtain ⟨fd1, F1⟩ := hfn (dfD t.tt.tn t.st) (by simp [TLaw.fn])
  obtain ⟨fd2, F2⟩ := hfn (dfD t.tt.wn t.wst) (by simp [TLaw.fn])
  refine ⟨c1, ⟨_, _, fd1, F1, hglo _ (by simp [TLaw.fa])⟩, hglo _ (by simp [TLaw.fa]), fun p hp => (hx p hp).1.1.2, t.w, t.wst, fun a b => decide (a = b), ?_⟩
  exact ⟨c2, ⟨c3, c4⟩, c5, scopeB_ok c6, ⟨_, _, fd2, F2, hglo _ (by simp [TLaw.fa])⟩, He.free_ok X G (hfa _ (by simp [TLaw.fa])), He.free_ok X G (hfa _ (by simp [TLaw.fa])), He.free_ok X G (hfa _ (by simp [TLaw.fa])), He.free_ok X G (hfa _ (by simp [TLaw.fa])),
    fun p hp => excCB_ok (hx p hp).1.1.1, fun p hp => (hx p hp).1.2, fun p hp x hx' => ⟨hglo x (by simp only [TLaw.fa, List.mem_cons, List.mem_append, List.mem_map]; exact .inr (.inr (.inr (.inl ⟨x, hx', rfl⟩)))), (hx p hp).2 x hx'⟩,
    fun p hp ot => wordTells_ok (c7 p hp).1 ot, fun p hp => (c7 p hp).2⟩
theorem nodup_map {α β : Type} {f : α → β} : ∀ {l : List α}, (l.map f).Nodup → ∀ a ∈ l, ∀ b ∈ l, f a = f b → a = b
  | [], _, a, ha, _, _, _ => by cases ha
  | x :: l, h, a, ha, b, hb, e => by
    rw [List.map_cons, List.nodup_cons] at h
    rcases List.mem_cons.mp ha with e1 | ha'
    · rcases List.mem_cons.mp hb with e2 | hb'
      · rw [e1, e2]
      · exact (h.1 (by rw [← e1, e]; exact List.mem_map_of_mem hb')).elim
    · rcases List.mem_cons.mp hb with e2 | hb'
      · exact (h.1 (by rw [← e2, ← e]; exact List.mem_map_of_mem ha')).elim
      · exact nodup_map h.2 a ha' b hb' e
theorem Law.facts (L : Law) (hc0 : L.chk = true) {w : World} {K : PySem.W.Frag} {h base : Heap} {mg : Str → Option Value} (X : K.In h) (G : h.Ns mainGlobals mg) (c : He.SaysX L.fa L.fn L.ts L.tf L.exB w h K) (hT : ∀ p ∈ L.tf, TabB base mg (He.cT K p).1 (He.cT K p).2) : Facts K w mg base (L.T K) L.tbl L.C L.defs where
  fns := rfl
  chk := fun i d hd => by
    have hc := hc0
    simp only [Law.chk, Bool.and_eq_true] at hc
    obtain ⟨st, h2, h3, h4⟩ := chkDs_at hc.1.1.1 i d hd
    obtain ⟨fd, F⟩ := c.t.d.defs (List.mem_append_left _ h3)
    refine ⟨st, h2, _, fd, ⟨_, F, fun hl => ?_⟩, ?_⟩
    · have hm : ((d.name, none) : He.Defn) ∈ L.tf := List.mem_map.mpr ⟨(i, d), List.mem_filter.mpr ⟨h4, hl⟩, rfl⟩
      obtain ⟨oc, od, dV, kV, doc, pm, an, cdv, ct, osl, efd, lk, hcd, _, _⟩ := F.ex
      obtain ⟨ca, rfl⟩ := He.codeIn_ref hcd
      have ec : He.codeOf K (d.name, none) = ca := He.codeOf_eq lk (by rw [efd])
      refine ⟨ca, (He.cT K (d.name, none)).2, by rw [efd], ?_, List.mem_map.mpr ⟨_, hm, rfl⟩, fun p hp e => ?_⟩
      · have := hT _ hm
        rw [show (He.cT K (d.name, none)).1 = ca from ec] at this
        exact this
      · obtain ⟨q, hq, rfl⟩ := List.mem_map.mp hp
        have hx := c.more
        simp only [Law.exB, Bool.and_eq_true, decide_eq_true_eq] at hx
        have := nodup_map hx.2 q hq _ hm e
        subst this
        rfl
    · have hm : He.Fa.glo d.name ∈ L.fa := List.mem_append_left _ (List.mem_map.mpr ⟨(i, d), h4, rfl⟩)
      exact He.glo_ok X G (c.t.d.facts hm)
  free := fun x hx => He.free_ok X G (c.t.d.facts (List.mem_append_right _ (List.mem_append_left _ (List.mem_map.mpr ⟨x, hx, rfl⟩))))
  cons := fun i x hx => by
    have hx : (L.inz.map (fun p => (p.1, p.2.1)) ++ L.cz).lookup i = some x := hx
    rcases List.mem_append.mp (look_mem hx) with hm | hm
    · obtain ⟨p, hp, e⟩ := List.mem_map.mp hm
      cases e
      have hm : He.Fa.int p.2.1 p.2.2 ∈ L.fa := List.mem_append_right _ (List.mem_append_right _ (List.mem_append_left _ (List.mem_map.mpr ⟨p, hp, rfl⟩)))
      obtain ⟨t, e⟩ := He.int_ok X G (c.t.d.facts hm)
      have hc := hc0
      simp only [Law.chk, Bool.and_eq_true] at hc
      have h5 := List.all_eq_true.mp hc.1.1.2 p hp
      cases q : L.C[p.1]? with
      | none => rw [q] at h5; cases h5
      | some d =>
        rw [q] at h5
        obtain rfl := isInt_of h5
        exact ⟨.int p.2.2, .int p.2.2, .int p.2.2 t, rfl, e, ⟨t, rfl⟩, fun _ => rfl⟩
    · have h0 := c.more
      simp only [Law.exB, Bool.and_eq_true, List.all_eq_true] at h0
      have h5 := h0.1.1.2 (i, x) hm
      dsimp only at h5
      cases q : L.C[i]? with
      | none => rw [q] at h5; cases h5
      | some d =>
        rw [q] at h5
        have h5 : conAt K x d = true := h5
        unfold conAt at h5
        split at h5
        · rename_i u qn
          obtain ⟨v, r, hv⟩ := conB_ok h5
          exact ⟨d, v, u, rfl, PySem.W.mg_of X G qn, r, hv⟩
        · cases h5
  exc := fun x hx => by
    have h1 : He.Fa.exc x ∈ L.fa := List.mem_append_right _ (List.mem_append_right _ (List.mem_append_right _ (List.mem_append_left _ (List.mem_map.mpr ⟨x, hx, rfl⟩))))
    have h2 : He.Fa.glo x ∈ L.fa := List.mem_append_right _ (List.mem_append_right _ (List.mem_append_right _ (List.mem_append_right _ (List.mem_append_left _ (List.mem_map.mpr ⟨x, hx, rfl⟩)))))
    exact ⟨He.glo_ok X G (c.t.d.facts h2), c.t.d.facts h1⟩
  dcs := fun i x kvs hx => by
    have hm : (i, x, kvs) ∈ L.dcs := look_mem hx
    have h1 : He.Fa.glo x ∈ L.fa := List.mem_append_right _ (List.mem_append_right _ (List.mem_append_right _ (List.mem_append_right _ (List.mem_append_right _ (List.mem_append_left _ (List.mem_map.mpr ⟨_, hm, rfl⟩))))))
    have h0 := c.more
    simp only [Law.exB, Bool.and_eq_true, List.all_eq_true] at h0
    have hc := hc0
    simp only [Law.chk, Bool.and_eq_true, List.all_eq_true] at hc
    have h5 := hc.1.2 _ hm
    dsimp only at h5
    obtain ⟨n, hn, e⟩ := List.mem_iff_getElem.mp hm
    have hts : L.ts[n]? = some ((fun K => He.ga K x), kvs.map (·.1)) := by
      unfold Law.ts
      rw [List.getElem?_map, List.getElem?_eq_getElem hn, e]; rfl
    refine ⟨⟨c.t.tab n hts, h0.1.1.1 _ hm⟩, He.glo_ok X G (c.t.d.facts h1), ?_⟩
    cases q : L.C[i]? with
    | none => rw [q] at h5; cases h5
    | some d => rw [q] at h5; rw [isDic_of h5]
  told := fun tn cls hx => by
    have hx : L.told.map (fun t => (t.tt.tn, t.cls)) = some (tn, cls) := hx
    cases q : L.told with
    | none => rw [q] at hx; cases hx
    | some t =>
      rw [q] at hx
      cases hx
      have hc := hc0
      simp only [Law.chk, Bool.and_eq_true] at hc
      have h0 := c.more
      simp only [Law.exB, Bool.and_eq_true] at h0
      have h1 := hc.2
      have h2 := h0.1.2
      rw [q] at h1 h2
      exact ⟨t.tt, t.st, rfl, L.told_at q h1 X G c.t.d h2⟩
def Law.run (L : Law) (k i : Nat) (ns : List Int) : RR D := callG (L.G k) i [.scr ns]
theorem tab_empty {H : Hp} {P : Addr} {q : Str} (h : H P = some (.tbl #[])) : TabS H P q := ⟨#[], h, trivial, fun pos cv e => by simp [codeAmong] at e⟩
/-- the law's promise at a script -/
theorem Law.keeps {K : PySem.W.Frag} {T : Tb} {G : GT} {i : Nat} {H : Hp} {a : Addr} {ns : List Int} (hl : ns.length ≤ 63) (hT : Tabs T H) (hS : SqL K H a (ns.map V.int)) (h : callG G i [.scr ns] = .ok (.bl true)) {E : XK} :
    spD K T .sh 1 (callG G i) [.ref a] H (fun v _ => v = .bl true) E := by
  refine ⟨[.scr ns], fun _ => false, rfl, hT, (fun a ha => nomatch ha), ?_, ?_⟩
  · have e : hide H (fun _ => false) = H := by funext b; rfl
    rw [e]
    refine ⟨.ref a, [], rfl, ⟨?_, a, rfl, hS⟩, rfl⟩
    rw [lim_eq]; unfold lim; omega
  · rw [h]
    intro v H' _ r
    exact r
/-- what walk_ofTsE asks -/
theorem Law.walkT (L : Law) (hc0 : L.chk = true) {l : PySem.W.OpenLaw} {w : World} {K : PySem.W.Frag} {h : Heap} {mg : Str → Option Value} {fa : Addr} {i : Nat} {d : FDef} {k n : Nat} {p : Str} (hn : n ≤ 63) (X : K.In h) (G : h.Ns mainGlobals mg) (c : He.SaysX L.fa L.fn L.ts L.tf L.exB w h K)
    (hd : L.defs.lookup i = some d) (hmd : d.md = .sh) (hps : d.ps = [p]) (hmg : mg d.name = some (.ref fa)) (hrun : ∀ ns : List Int, ns.length ≤ 63 → L.run k i ns = .ok (.bl true)) : LawAtS l w K (L2N.CX l.prog w) k n p mg fa h := by
  have hc := hc0
  simp only [Law.chk, Bool.and_eq_true] at hc
  obtain ⟨st, h2, h3, h4⟩ := chkDs_at hc.1.1.1 i d hd
  obtain ⟨fd, FD⟩ := c.t.d.defs (List.mem_append_left _ h3)
  have hm : He.Fa.glo d.name ∈ L.fa := List.mem_append_left _ (List.mem_map.mpr ⟨(i, d), h4, rfl⟩)
  have e : fa = He.fAd K (dOf (i, d) st).at_ := by
    have := He.glo_ok X G (c.t.d.facts hm)
    rw [hmg] at this
    cases this
    rfl
  have h2' := h2
  simp only [chkD, Bool.and_eq_true] at h2'
  have hpar := h2'.1.1.1.1.1.1.1.2
  rw [hps] at hpar
  refine ⟨fd, L.tf.map (He.cT K), spD K (L.T K) .sh 1 (callG (L.G k) i), ?_, ?_, ?_, fun s u => FD.bindsA (ps := [p]) (fun kV doc pm an cdv ct us hl => bind_all hpar hl) s [u] rfl, ?_, ?_⟩
  · intro q hq
    obtain ⟨r, hr, rfl⟩ := List.mem_map.mp hq
    exact c.empty r hr
  · intro q hq
    obtain ⟨r, hr, rfl⟩ := List.mem_map.mp hq
    exact c.out r hr
  · intro q hq
    obtain ⟨r, hr, rfl⟩ := List.mem_map.mp hq
    exact PySem.W.codeHd_of_K X (c.hd r hr)
  · intro H a ns hl _ ht hS
    have hl : ns.length ≤ 63 := Nat.le_trans hl hn
    refine Law.keeps hl (fun q hq => ?_) hS (hrun ns hl)
    obtain ⟨r, hr, rfl⟩ := List.mem_map.mp hq
    exact tab_empty (ht _ (List.mem_map.mpr ⟨r, hr, rfl⟩))
  · intro base _ _ hTB
    have F := L.facts hc0 (base := base) X G c fun q hq => hTB _ (List.mem_map.mpr ⟨q, hq, rfl⟩)
    obtain ⟨f', fd', a1, a2, a3, a4, oc, od, osl, lk⟩ := fn_all (P := l.prog) F k i d hd
    rw [hmg] at a2
    cases a2
    have : fd' = fd := by
      obtain ⟨oc2, od2, osl2, lk2⟩ := funD_look FD
      rw [← e, lk] at lk2
      have h0 := Option.some.inj lk2
      injection h0 with _ _ h3 _
      injection h3
    subst this
    rw [hps, hmd] at a1
    exact a1
end Py
end
section
set_option exponentiation.threshold 2000
set_option maxHeartbeats 4000000
namespace Py
open PySem PySem.Spec PyProof.Rows L2 LamX
def finO (m : Md) (r : RR Out) : RR D := match r with
  | .ok (.rt r) => .ok r
  | .ok (.nx _) => if m = .sh then .ok .non else .bad
  | .ex c => .ex c
  | _ => .bad
@[simp] theorem finO_rt (m : Md) (d : D) : finO m (.ok (.rt d)) = .ok d := rfl
@[simp] theorem finO_nx (ρ : Env) : finO .sh (.ok (.nx ρ)) = .ok .non := rfl
@[simp] theorem finO_ex (m : Md) (c : Str) : finO m (.ex c) = .ex c := rfl
@[simp] theorem finO_ite (m : Md) (c : Prop) [Decidable c] (x y : RR Out) : finO m (if c then x else y) = if c then finO m x else finO m y := by split <;> rfl
theorem run_eq (d : FDef) (fm : List Md) (C : List D) (G : GT) (l : List D) : d.run fm C G l = finO d.md (exs fm C G d.body (startD d.N.length l)) := rfl
@[simp] theorem evA1 {C : List D} {G : GT} {e : E} {ρ : Env} : evA C G (.c e .n) ρ = ev C G e ρ := by rw [evA_one]
@[simp] theorem evA2 {C : List D} {G : GT} {e e' : E} {l : Es} {ρ : Env} : evA C G (.c e (.c e' l)) ρ = (ev C G e ρ >>= fun x => truR x >>= fun k => if k then evA C G (.c e' l) ρ else .ok x) := by rw [evA_more]
@[simp] theorem evR1 {C : List D} {G : GT} {e : E} {ρ : Env} : evR C G (.c e .n) ρ = ev C G e ρ := by rw [evR_one]
@[simp] theorem evR2 {C : List D} {G : GT} {e e' : E} {l : Es} {ρ : Env} : evR C G (.c e (.c e' l)) ρ = (ev C G e ρ >>= fun x => truR x >>= fun k => if k then .ok x else evR C G (.c e' l) ρ) := by rw [evR_more]
theorem callG_at {fm : List Md} {C : List D} {defs : Defs} {f : Nat} {d : FDef} (h : defs.lookup f = some d) (k : Nat) (l : List D) : callG (fnsG fm C defs (k + 1)) f l = d.run fm C (fnsG fm C defs k) l := by
  show (match defs.lookup f with | some d => d.run fm C (fnsG fm C defs k) l | none => .bad) = _
  rw [h]
end Py
end
section
namespace Py
open PySem PySem.Spec PyProof.Rows L2 Py
def FM : List Md := [.sh, .sh, .sh, .fr, .sh, .sh, .fr, .sh, .sh, .sh, .sh, .sh, .sh, .sh, .fr, .sh, .sh, .sh, .sh, .sh, .sh, .sh, .sh, .sh, .fr, .fr, .fr, .sh, .sh, .fr, .sh, .sh, .sh, .fr, .sh, .sh, .sh, .sh, .fr, .fr, .sh, .sh, .sh, .sh, .sh, .sh, .fr, .fr, .sh, .sh, .sh, .sh, .sh, .sh, .fr, .fr, .sh, .sh, .sh, .fr, .sh, .sh, .fr, .sh, .sh, .fr, .sh, .sh, .fr, .sh, .fr, .sh, .sh, .sh, .sh, .sh, .sh, .sh, .sh, .sh, .sh, .sh, .sh, .sh, .fr, .sh, .fr, .fr, .sh, .sh, .sh, .sh, .sh, .sh, .sh, .sh, .sh, .sh, .sh, .fr, .sh, .sh, .sh, .sh, .sh, .sh, .sh, .sh, .sh, .sh, .sh, .sh, .sh, .sh, .sh, .fr, .sh, .sh, .sh, .sh, .sh, .sh, .sh, .sh, .sh, .sh, .fr, .sh, .fr, .sh, .sh, .sh, .sh, .fr, .sh, .fr, .sh, .sh, .sh, .fr, .sh, .fr, .fr, .fr, .fr, .sh, .sh, .sh, .sh, .sh, .sh, .sh, .sh, .sh, .fr, .sh, .sh, .sh, .sh, .sh, .sh, .sh, .sh, .sh]
def CC : List D := [(.int 16), (.str ⟨#[97,98,99,100,101]⟩), (dicOf [(⟨#[121,101,115]⟩, 1), (⟨#[98,101,108,111,119]⟩, 3), (⟨#[115,97,109,101]⟩, 3), (⟨#[102,105,114,115,116]⟩, 2), (⟨#[108,97,115,116]⟩, 2), (⟨#[110,111,116]⟩, 2), (⟨#[97,110,100]⟩, 3), (⟨#[111,114]⟩, 3), (⟨#[115,111,109,101]⟩, 3), (⟨#[97,108,108]⟩, 3)]), (.int 5), (.int 1000), (.tup [(.tup [(.bl false), (.bl false)]), (.tup [(.bl false), (.bl true)]), (.tup [(.bl true), (.bl false)]), (.tup [(.bl true), (.bl true)])]), (.tup [(.str ⟨#[110,111,116]⟩), (.tup [(.str ⟨#[121,101,115]⟩)])]), (.tup [(.tup []), (.bl false), (.bl false)]), (.int 5), (.int 6)]
/-- is_name -/
def F0 : FDef := ⟨⟨#[105,115,95,110,97,109,101]⟩, .sh, [⟨#[116,104,105,110,103]⟩], [⟨#[116,104,105,110,103]⟩],
  (.c (.ret (.and (.c (.isi .str (.v 0)) (.c (.cmp .eq (.blt .len (.c (.v 0) .n)) (.int 1)) (.c (.cmp .inn (.v 0) (.con 1)) .n))))) .n), false⟩
/-- parts_of -/
def F1 : FDef := ⟨⟨#[112,97,114,116,115,95,111,102]⟩, .sh, [⟨#[116,104,105,110,103]⟩, ⟨#[98,111,117,110,100]⟩], [⟨#[116,104,105,110,103]⟩, ⟨#[98,111,117,110,100]⟩, ⟨#[119,111,114,100]⟩, ⟨#[102,111,117,110,100]⟩, ⟨#[109,97,110,121]⟩, ⟨#[111,110,101]⟩, ⟨#[110,97,109,101]⟩],
  (.c (.ifs (.or (.c (.nt (.isi .tuple (.v 0))) (.c (.cmp .eq (.v 0) (.tup .n)) (.c (.nt (.isi .str (.ix (.v 0) (.int 0)))) .n)))) (.c (.ret (.int 0)) .n) .n) (.c (.set 2 (.ix (.v 0) (.int 0))) (.c (.ifs (.or (.c (.kin true 2 (.v 2)) (.c (.cmp .ne (.blt .len (.c (.v 0) .n)) (.kget 2 (.v 2))) .n))) (.c (.ret (.int 0)) .n) .n) (.c (.ifs (.cmp .inn (.v 2) (.tup (.c (.str ⟨#[121,101,115]⟩) (.c (.str ⟨#[98,101,108,111,119]⟩) (.c (.str ⟨#[115,97,109,101]⟩) (.c (.str ⟨#[102,105,114,115,116]⟩) (.c (.str ⟨#[108,97,115,116]⟩) .n))))))) (.c (.ret (.blt .int (.c (.blt .all (.c (.comp (.v 6) [6] (.seq (.sl (.v 0) (.int 1) .nop)) .nop (.call 0 (.c (.v 6) .n))) .n)) .n))) .n) .n) (.c (.ifs (.cmp .inn (.v 2) (.tup (.c (.str ⟨#[115,111,109,101]⟩) (.c (.str ⟨#[97,108,108]⟩) .n)))) (.c (.set 4 (.ite (.and (.c (.call 0 (.c (.ix (.v 0) (.int 1)) .n)) (.c (.cmp .nin (.ix (.v 0) (.int 1)) (.v 1)) .n))) (.call 1 (.c (.ix (.v 0) (.int 2)) (.c (.bin .add (.v 1) (.tup (.c (.ix (.v 0) (.int 1)) .n))) .n))) (.int 0))) (.c (.ret (.bin .add (.v 4) (.blt .int (.c (.cmp .gt (.v 4) (.int 0)) .n)))) .n)) .n) (.c (.set 3 (.shr (.comp (.v 5) [5] (.seq (.sl (.v 0) (.int 1) .nop)) .nop (.call 1 (.c (.v 5) (.c (.v 1) .n)))))) (.c (.ret (.ite (.cmp .inn (.int 0) (.v 3)) (.int 0) (.bin .add (.int 1) (.blt .sum (.c (.v 3) .n))))) .n))))))), false⟩
/-- bound_in -/
def F2 : FDef := ⟨⟨#[98,111,117,110,100,95,105,110]⟩, .sh, [⟨#[115,97,121,105,110,103]⟩], [⟨#[115,97,121,105,110,103]⟩, ⟨#[102,111,117,110,100]⟩, ⟨#[111,110,101]⟩],
  (.c (.ifs (.cmp .inn (.ix (.v 0) (.int 0)) (.tup (.c (.str ⟨#[115,111,109,101]⟩) (.c (.str ⟨#[97,108,108]⟩) .n)))) (.c (.ret (.bin .add (.lst (.c (.ix (.v 0) (.int 1)) .n)) (.call 2 (.c (.ix (.v 0) (.int 2)) .n)))) .n) .n) (.c (.set 1 (.shr (.lst .n))) (.c (.ifs (.cmp .inn (.ix (.v 0) (.int 0)) (.tup (.c (.str ⟨#[110,111,116]⟩) (.c (.str ⟨#[97,110,100]⟩) (.c (.str ⟨#[111,114]⟩) .n))))) (.c (.forr (.v 2) (.seq (.sl (.v 0) (.int 1) .nop)) (.c (.set 1 (.bin .add (.v 1) (.call 2 (.c (.v 2) .n)))) .n)) .n) .n) (.c (.ret (.v 1)) .n)))), false⟩
/-- open_in -/
def F3 : FDef := ⟨⟨#[111,112,101,110,95,105,110]⟩, .fr, [⟨#[115,97,121,105,110,103]⟩], [⟨#[115,97,121,105,110,103]⟩, ⟨#[119,111,114,100]⟩, ⟨#[102,111,117,110,100]⟩, ⟨#[111,110,101]⟩, ⟨#[110,97,109,101]⟩],
  (.c (.set 1 (.ix (.v 0) (.int 0))) (.c (.ifs (.cmp .inn (.v 1) (.tup (.c (.str ⟨#[115,111,109,101]⟩) (.c (.str ⟨#[97,108,108]⟩) .n)))) (.c (.ret (.comp (.v 4) [4] (.seq (.call 3 (.c (.ix (.v 0) (.int 2)) .n))) (.cmp .ne (.v 4) (.ix (.v 0) (.int 1))) (.v 4))) .n) .n) (.c (.set 2 .dnew) (.c (.forr (.v 3) (.seq (.sl (.v 0) (.int 1) .nop)) (.c (.forr (.v 4) (.seq (.ite (.cmp .inn (.v 1) (.tup (.c (.str ⟨#[98,101,108,111,119]⟩) (.c (.str ⟨#[115,97,109,101]⟩) (.c (.str ⟨#[102,105,114,115,116]⟩) (.c (.str ⟨#[108,97,115,116]⟩) .n)))))) (.lst (.c (.v 3) .n)) (.call 3 (.c (.v 3) .n)))) (.c (.put 2 (.v 4) (.bl true)) .n)) .n)) (.c (.ret (.blt .sorted (.c (.o 2) .n))) .n))))), false⟩
/-- is_saying -/
def F4 : FDef := ⟨⟨#[105,115,95,115,97,121,105,110,103]⟩, .sh, [⟨#[116,104,105,110,103]⟩], [⟨#[116,104,105,110,103]⟩, ⟨#[110,97,109,101]⟩],
  (.c (.ifs (.nt (.chn .le .le (.int 1) (.call 1 (.c (.v 0) (.c (.tup .n) .n))) (.con 0))) (.c (.ret (.bl false)) .n) .n) (.c (.ret (.nt (.blt .any (.c (.comp (.v 1) [1] (.seq (.call 3 (.c (.v 0) .n))) .nop (.cmp .inn (.v 1) (.call 2 (.c (.v 0) .n)))) .n)))) .n)), false⟩
/-- need_saying -/
def F5 : FDef := ⟨⟨#[110,101,101,100,95,115,97,121,105,110,103]⟩, .sh, [⟨#[115,97,121,105,110,103]⟩], [⟨#[115,97,121,105,110,103]⟩],
  (.c (.ifs (.nt (.call 4 (.c (.v 0) .n))) (.c (.raise ⟨#[66,97,100,83,97,121,105,110,103]⟩) .n) .n) .n), false⟩
/-- open_names -/
def F6 : FDef := ⟨⟨#[111,112,101,110,95,110,97,109,101,115]⟩, .fr, [⟨#[115,97,121,105,110,103]⟩], [⟨#[115,97,121,105,110,103]⟩],
  (.c (.exp (.call 5 (.c (.v 0) .n))) (.c (.ret (.call 3 (.c (.v 0) .n))) .n)), false⟩
/-- _law_cell -/
def F7 : FDef := ⟨⟨#[95,108,97,119,95,99,101,108,108]⟩, .sh, [⟨#[95,108,97,119,95,115,99,114,105,112,116]⟩, ⟨#[95,108,97,119,95,107]⟩], [⟨#[95,108,97,119,95,115,99,114,105,112,116]⟩, ⟨#[95,108,97,119,95,107]⟩],
  (.c (.ifs (.cmp .eq (.v 0) (.lst .n)) (.c (.ret (.bin .mul (.v 1) (.int 7919))) .n) .n) (.c (.ret (.bin .add (.ix (.v 0) (.bin .mod (.v 1) (.blt .len (.c (.v 0) .n)))) (.bin .mul (.bin .fdiv (.v 1) (.blt .len (.c (.v 0) .n))) (.int 104729)))) .n)), false⟩
/-- _law_drawn -/
def F8 : FDef := ⟨⟨#[95,108,97,119,95,100,114,97,119,110]⟩, .sh, [⟨#[95,108,97,119,95,99,101,108,108,95,104,101,114,101]⟩, ⟨#[95,108,97,119,95,107]⟩], [⟨#[95,108,97,119,95,99,101,108,108,95,104,101,114,101]⟩, ⟨#[95,108,97,119,95,107]⟩, ⟨#[95,108,97,119,95,109,111,114,101]⟩],
  (.c (.set 2 (.bin .mod (.bin .add (.bin .mul (.v 0) (.int 6364136223846793005)) (.bin .mul (.bin .add (.v 1) (.int 1)) (.int 1442695040888963407))) (.int 340282366920938463463374607431768211507))) (.c (.set 2 (.bin .mod (.bin .mul (.v 2) (.v 2)) (.int 340282366920938463463374607431768211297))) (.c (.set 2 (.bin .mul (.bin .mul (.bin .add (.bin .mod (.v 2) (.int 18446744073709551557)) (.int 1)) (.bin .add (.bin .fdiv (.v 2) (.int 18446744073709551557)) (.int 1))) (.v 2))) (.c (.ret (.bin .mod (.v 2) (.int 340282366920938463463374607431768211507))) .n)))), false⟩
/-- _law_atom -/
def F11 : FDef := ⟨⟨#[95,108,97,119,95,97,116,111,109]⟩, .sh, [⟨#[95,108,97,119,95,109,111,114,101]⟩, ⟨#[95,108,97,119,95,110,97,109,101,115]⟩], [⟨#[95,108,97,119,95,109,111,114,101]⟩, ⟨#[95,108,97,119,95,110,97,109,101,115]⟩, ⟨#[95,108,97,119,95,97,116,111,109,115]⟩, ⟨#[95,108,97,119,95,120]⟩, ⟨#[95,108,97,119,95,121]⟩],
  (.c (.tpar 3 4 (.c (.ix (.v 1) (.bin .mod (.bin .fdiv (.v 0) (.int 8)) (.blt .len (.c (.v 1) .n)))) (.c (.ix (.v 1) (.bin .mod (.bin .fdiv (.v 0) (.int 64)) (.blt .len (.c (.v 1) .n)))) .n))) (.c (.set 2 (.shr (.lst (.c (.tup (.c (.str ⟨#[98,101,108,111,119]⟩) (.c (.v 3) (.c (.v 4) .n)))) (.c (.tup (.c (.str ⟨#[115,97,109,101]⟩) (.c (.v 3) (.c (.v 4) .n)))) (.c (.tup (.c (.str ⟨#[98,101,108,111,119]⟩) (.c (.v 4) (.c (.v 3) .n)))) (.c (.tup (.c (.str ⟨#[102,105,114,115,116]⟩) (.c (.v 3) .n))) (.c (.tup (.c (.str ⟨#[108,97,115,116]⟩) (.c (.v 4) .n))) (.c (.tup (.c (.str ⟨#[98,101,108,111,119]⟩) (.c (.v 3) (.c (.v 4) .n)))) .n))))))))) (.c (.ret (.ix (.bin .add (.v 2) (.lst (.c (.tup (.c (.str ⟨#[121,101,115]⟩) .n)) (.c (.tup (.c (.str ⟨#[115,97,109,101]⟩) (.c (.v 3) (.c (.v 4) .n)))) .n)))) (.bin .mod (.v 0) (.int 8)))) .n))), false⟩
/-- _law_saying -/
def F12 : FDef := ⟨⟨#[95,108,97,119,95,115,97,121,105,110,103]⟩, .sh, [⟨#[95,108,97,119,95,109,111,114,101]⟩, ⟨#[95,108,97,119,95,110,97,109,101,115]⟩, ⟨#[95,108,97,119,95,102,114,101,101]⟩, ⟨#[95,108,97,119,95,100,101,101,112]⟩], [⟨#[95,108,97,119,95,109,111,114,101]⟩, ⟨#[95,108,97,119,95,110,97,109,101,115]⟩, ⟨#[95,108,97,119,95,102,114,101,101]⟩, ⟨#[95,108,97,119,95,100,101,101,112]⟩, ⟨#[95,108,97,119,95,119,111,114,100,95,104,101,114,101]⟩, ⟨#[95,108,97,119,95,111,110,101]⟩, ⟨#[95,108,97,119,95,111,116,104,101,114]⟩],
  (.c (.set 4 (.ix (.lst (.c (.str ⟨#[115,111,109,101]⟩) (.c (.str ⟨#[97,108,108]⟩) (.c (.str ⟨#[97,110,100]⟩) (.c (.str ⟨#[111,114]⟩) (.c (.str ⟨#[110,111,116]⟩) (.c (.str ⟨#[115,111,109,101]⟩) (.c (.str ⟨#[97,108,108]⟩) .n)))))))) (.bin .mod (.v 0) (.int 7)))) (.c (.ifs (.and (.c (.cmp .eq (.v 1) (.lst .n)) (.c (.cmp .nin (.v 4) (.tup (.c (.str ⟨#[115,111,109,101]⟩) (.c (.str ⟨#[97,108,108]⟩) .n)))) .n))) (.c (.set 4 (.str ⟨#[115,111,109,101]⟩)) .n) .n) (.c (.ifs (.or (.c (.cmp .eq (.v 3) (.int 0)) (.c (.and (.c (.cmp .eq (.v 2) (.str ⟨#[]⟩)) (.c (.cmp .inn (.v 4) (.tup (.c (.str ⟨#[115,111,109,101]⟩) (.c (.str ⟨#[97,108,108]⟩) .n)))) .n))) .n))) (.c (.ret (.ite (.cmp .ne (.v 1) (.lst .n)) (.call 11 (.c (.bin .fdiv (.v 0) (.int 8)) (.c (.v 1) .n))) (.tup (.c (.str ⟨#[121,101,115]⟩) .n)))) .n) .n) (.c (.tpar 5 6 (.c (.call 8 (.c (.v 0) (.c (.int 1) .n))) (.c (.call 8 (.c (.v 0) (.c (.int 2) .n))) .n))) (.c (.ifs (.cmp .inn (.v 4) (.tup (.c (.str ⟨#[115,111,109,101]⟩) (.c (.str ⟨#[97,108,108]⟩) .n)))) (.c (.ret (.tup (.c (.v 4) (.c (.ix (.v 2) (.int 0)) (.c (.call 12 (.c (.v 5) (.c (.bin .add (.v 1) (.lst (.c (.ix (.v 2) (.int 0)) .n))) (.c (.sl (.v 2) (.int 1) .nop) (.c (.bin .sub (.v 3) (.int 1)) .n))))) .n))))) .n) .n) (.c (.ifs (.cmp .eq (.v 4) (.str ⟨#[110,111,116]⟩)) (.c (.ret (.tup (.c (.v 4) (.c (.call 12 (.c (.v 5) (.c (.v 1) (.c (.v 2) (.c (.bin .sub (.v 3) (.int 1)) .n))))) .n)))) .n) .n) (.c (.ret (.tup (.c (.v 4) (.c (.call 12 (.c (.v 5) (.c (.v 1) (.c (.v 2) (.c (.bin .sub (.v 3) (.int 1)) .n))))) (.c (.call 12 (.c (.v 6) (.c (.v 1) (.c (.v 2) (.c (.bin .sub (.v 3) (.int 1)) .n))))) .n))))) .n))))))), false⟩
/-- _law_some -/
def F13 : FDef := ⟨⟨#[95,108,97,119,95,115,111,109,101]⟩, .sh, [⟨#[95,108,97,119,95,109,111,114,101]⟩, ⟨#[95,108,97,119,95,109,97,110,121]⟩], [⟨#[95,108,97,119,95,109,111,114,101]⟩, ⟨#[95,108,97,119,95,109,97,110,121]⟩, ⟨#[95,108,97,119,95,110,97,109,101,115]⟩],
  (.c (.set 2 (.sl (.lst (.c (.str ⟨#[97]⟩) (.c (.str ⟨#[98]⟩) (.c (.str ⟨#[99]⟩) .n)))) .nop (.v 1))) (.c (.ret (.call 12 (.c (.call 8 (.c (.v 0) (.c (.int 9) .n))) (.c (.v 2) (.c (.sl (.str ⟨#[97,98,99,100,101]⟩) (.v 1) (.int 4)) (.c (.bin .add (.int 1) (.bin .mod (.v 0) (.int 4))) .n)))))) .n)), false⟩
/-- _law_open -/
def F14 : FDef := ⟨⟨#[95,108,97,119,95,111,112,101,110]⟩, .fr, [⟨#[95,108,97,119,95,115,97,121,105,110,103,95,104,101,114,101]⟩], [⟨#[95,108,97,119,95,115,97,121,105,110,103,95,104,101,114,101]⟩, ⟨#[95,108,97,119,95,102,111,117,110,100]⟩, ⟨#[95,108,97,119,95,111,110,101]⟩, ⟨#[95,108,97,119,95,110,97,109,101]⟩],
  (.c (.ifs (.cmp .inn (.ix (.v 0) (.int 0)) (.tup (.c (.str ⟨#[115,111,109,101]⟩) (.c (.str ⟨#[97,108,108]⟩) .n)))) (.c (.ret (.comp (.v 3) [3] (.seq (.call 14 (.c (.ix (.v 0) (.int 2)) .n))) (.cmp .ne (.v 3) (.ix (.v 0) (.int 1))) (.v 3))) .n) .n) (.c (.set 1 (.shr (.lst .n))) (.c (.forr (.v 2) (.seq (.sl (.v 0) (.int 1) .nop)) (.c (.set 1 (.bin .add (.v 1) (.ite (.isi .tuple (.v 2)) (.call 14 (.c (.v 2) .n)) (.lst (.c (.v 2) .n))))) .n)) (.c (.ret (.sset (.v 1))) .n)))), false⟩
end Py
end
section
set_option maxHeartbeats 4000000
namespace Py
open PySem PySem.Spec PyProof.Rows L2 Py
abbrev abcde : Str := ⟨#[97,98,99,100,101]⟩
/-- a name -/
def isNmS (s : Str) : Bool := decide (s.cps.size = 1) && decide (97 ≤ s.cps[0]!) && decide (s.cps[0]! ≤ 101)
theorem occ1 (c : Nat) : (!(Builtin.Str.occurrences abcde ⟨#[c]⟩ 0 5 1).isEmpty) = (decide (97 ≤ c) && decide (c ≤ 101)) := by
  by_cases h1 : c = 97
  · subst h1; decide +kernel
  by_cases h2 : c = 98
  · subst h2; decide +kernel
  by_cases h3 : c = 99
  · subst h3; decide +kernel
  by_cases h4 : c = 100
  · subst h4; decide +kernel
  by_cases h5 : c = 101
  · subst h5; decide +kernel
  have hf : (decide (97 ≤ c) && decide (c ≤ 101)) = false := by
    simp only [Bool.and_eq_false_iff, decide_eq_false_iff_not]; omega
  rw [hf]
  have e1 : ¬ 97 = c := fun e => h1 e.symm
  have e2 : ¬ 98 = c := fun e => h2 e.symm
  have e3 : ¬ 99 = c := fun e => h3 e.symm
  have e4 : ¬ 100 = c := fun e => h4 e.symm
  have e5 : ¬ 101 = c := fun e => h5 e.symm
  have hr : List.range' 0 6 = [0, 1, 2, 3, 4, 5] := rfl
  simp [Builtin.Str.occurrences, Builtin.Str.subAt, abcde, Str.length, Id.run, hr, e1, e2, e3, e4, e5]
  rfl
def isNm : D → Bool
  | .str s => isNmS s
  | _ => false
theorem one_of {s : Str} (h : s.length = 1) : s = ⟨#[s.cps[0]!]⟩ := by
  obtain ⟨⟨l⟩⟩ := s
  match l, h with
  | [c], _ => rfl
theorem eq_int (i j : Int) : cmpB .eq (.int i) (.int j) = some (decide (i = j)) := c_eq i j
theorem is_name_ok (G : GT) (d : D) (h : opq d = false) : F0.run FM CC G [d] = .ok (.bl (isNm d)) := by
  have hc : CC[1]? = some (.str abcde) := rfl
  rw [run_eq]
  cases d with
  | str s =>
    by_cases e : s.length = 1
    · have e2 := one_of e
      generalize s.cps[0]! = c at e2
      subst e2
      have hi : inB (.str ⟨#[c]⟩) (.str abcde) = some (decide (97 ≤ c) && decide (c ≤ 101)) := congrArg some (occ1 c)
      have hb : isNm (.str ⟨#[c]⟩) = (decide (97 ≤ c) && decide (c ≤ 101)) := by simp [isNm, isNmS]
      rw [hb]
      have e1 : (cmpB .inn (.str ⟨#[c]⟩) (.str abcde)) = some (decide (97 ≤ c) && decide (c ≤ 101)) := hi
      simp [F0, exs, ex, ev, evs, evA2, startD, isiR, opq, isTy, hc, e1, Blt.g, lenD, Str.length]
    · have hb : isNm (.str s) = false := by
        simp only [isNm, isNmS]
        have : ¬ s.cps.size = 1 := e
        simp [this]
      rw [hb]
      have e1 : (decide (((s.length : Nat) : Int) = 1)) = false := by simp; omega
      simp [F0, exs, ex, ev, evs, evA2, startD, isiR, opq, isTy, hc, e1, Blt.g, lenD]
  | obj a => cases h
  | glo a => cases h
  | _ => simp [F0, exs, ex, ev, evs, evA2, startD, isiR, opq, isTy, isNm]
end Py
end
section
set_option exponentiation.threshold 2000
set_option maxHeartbeats 4000000
namespace Py
open PySem PySem.Spec PyProof.Rows L2 Py
theorem r8 (G : GT) (i k : Int) : ∃ r : Int, 0 ≤ r ∧ F8.run FM CC G [.int i, .int k] = .ok (.int r) := by
  have e1 : ∀ j : Int, binD .mul (.int j) (.int 6364136223846793005) = some (.int (j * 6364136223846793005)) := fun j => b_mul _ _ (.inr (by decide))
  have e2 : ∀ j : Int, binD .mul (.int j) (.int 1442695040888963407) = some (.int (j * 1442695040888963407)) := fun j => b_mul _ _ (.inr (by decide))
  have e3 : ∀ j : Int, binD .mod (.int j) (.int 340282366920938463463374607431768211507) = some (.int (j % 340282366920938463463374607431768211507)) := fun j => b_mod _ _ (by decide)
  have e4 : ∀ j : Int, binD .mod (.int j) (.int 340282366920938463463374607431768211297) = some (.int (j % 340282366920938463463374607431768211297)) := fun j => b_mod _ _ (by decide)
  have e5 : ∀ j : Int, binD .mod (.int j) (.int 18446744073709551557) = some (.int (j % 18446744073709551557)) := fun j => b_mod _ _ (by decide)
  have e6 : ∀ j : Int, binD .fdiv (.int j) (.int 18446744073709551557) = some (.int (j / 18446744073709551557)) := fun j => b_fdiv _ _ (by decide) (by decide)
  have e7 : ∀ j : Int, 0 ≤ j → j < 340282366920938463463374607431768211507 → binD .mul (.int j) (.int j) = some (.int (j * j)) := fun j h1 h2 => b_mulW _ _ (by omega) (by omega)
  have e8 : ∀ p q : Int, 0 ≤ p → p < 36893488147419103232 → 0 ≤ q → q < 36893488147419103232 → binD .mul (.int p) (.int q) = some (.int (p * q)) := fun p q h1 h2 h3 h4 => b_mulW _ _ (by omega) (by omega)
  have e9 : ∀ p q y : Int, 0 ≤ p → p < 36893488147419103232 → 0 ≤ q → q < 36893488147419103232 → 0 ≤ y → y < 340282366920938463463374607431768211507 → binD .mul (.int (p * q)) (.int y) = some (.int (p * q * y)) := fun p q y h1 h2 h3 h4 h5 h6 => by
    have h7 : p * q ≤ 36893488147419103232 * 36893488147419103232 := Int.mul_le_mul (by omega) (by omega) h3 (by decide)
    have h8 : 0 ≤ p * q := Int.mul_nonneg h1 h3
    exact b_mulW _ _ (by omega) (by omega)
  have m1 := Int.emod_nonneg (i * 6364136223846793005 + (k + 1) * 1442695040888963407) (show (340282366920938463463374607431768211507 : Int) ≠ 0 by decide)
  have m2 := Int.emod_lt_of_pos (i * 6364136223846793005 + (k + 1) * 1442695040888963407) (show (0 : Int) < 340282366920938463463374607431768211507 by decide)
  generalize hx : (i * 6364136223846793005 + (k + 1) * 1442695040888963407) % 340282366920938463463374607431768211507 = x at m1 m2
  have m3 := Int.emod_nonneg (x * x) (show (340282366920938463463374607431768211297 : Int) ≠ 0 by decide)
  have m4 := Int.emod_lt_of_pos (x * x) (show (0 : Int) < 340282366920938463463374607431768211297 by decide)
  generalize hy : x * x % 340282366920938463463374607431768211297 = y at m3 m4
  have m5 := Int.emod_nonneg y (show (18446744073709551557 : Int) ≠ 0 by decide)
  have m6 := Int.emod_lt_of_pos y (show (0 : Int) < 18446744073709551557 by decide)
  have m7 : 0 ≤ y / 18446744073709551557 := Int.ediv_nonneg m3 (by decide)
  have m8 : y / 18446744073709551557 < 36893488147419103200 := by omega
  refine ⟨(y % 18446744073709551557 + 1) * (y / 18446744073709551557 + 1) * y % 340282366920938463463374607431768211507, Int.emod_nonneg _ (by decide), ?_⟩
  simp only [run_eq, F8, startD, exs, ex, ev, evs]
  simp [E.md, Blt.md, mkV, e1, e2, e3, hx, e7 x m1 m2, e4, hy, e5, e6]
  rw [e8 _ _ (by omega) (by omega) (by omega) (by omega)]
  simp only [of_some, RR.bind_ok]
  rw [e9 _ _ _ (by omega) (by omega) (by omega) (by omega) m3 (by omega)]
  simp [e3]
theorem r7 (G : GT) (ns : List Int) (hl : ns.length ≤ 63) (k : Nat) : ∃ r : Int, F7.run FM CC G [.scr ns, .int (k : Nat)] = .ok (.int r) := by
  simp only [run_eq, F7, startD, exs, ex, ev, evs]
  cases ns with
  | nil =>
    refine ⟨(k : Int) * 7919, ?_⟩
    have e : binD .mul (.int ((k : Nat) : Int)) (.int 7919) = some (.int ((k : Int) * 7919)) := b_mul _ _ (.inr (by decide))
    simp [cmpB, e, show eqB (.scr []) (.lst []) = some true from rfl]
  | cons n ns =>
    have e1 : eqB (.scr (n :: ns)) (.lst []) = some false := by
      show (if _ then _ else _) = _
      rw [if_pos (by simp [nod, nods, dep, deps])]
      simp [eqP, toPy, toPys, PyData.eqv, PyData.eqvAll]
    have hp : (0 : Int) < ((n :: ns).length : Nat) := by rw [List.length_cons]; omega
    have hb : (n :: ns).length < 64 := by omega
    generalize hL : n :: ns = l at *
    have m1 := Int.emod_nonneg (k : Int) (show ((l.length : Nat) : Int) ≠ 0 by omega)
    have m2 := Int.emod_lt_of_pos (k : Int) hp
    have e2 : binD .mod (.int (k : Nat)) (.int (l.length : Nat)) = some (.int ((k : Int) % (l.length : Nat))) := b_mod _ _ hp
    have e3 : binD .fdiv (.int (k : Nat)) (.int (l.length : Nat)) = some (.int ((k : Int) / (l.length : Nat))) := b_fdiv _ _ hp (by omega)
    have e4 : ∀ j : Int, binD .mul (.int j) (.int 104729) = some (.int (j * 104729)) := fun j => b_mul _ _ (.inr (by decide))
    have e5 : ∃ x, ixD (.scr l) (.int ((k : Int) % (l.length : Nat))) = some (.int x) := by
      refine ⟨l[((k : Int) % (l.length : Nat)).toNat]'(by omega), ?_⟩
      show (L2.atI l _).map D.int = _
      rw [atI_ok l _ m1 m2]
      rfl
    obtain ⟨x, e5⟩ := e5
    refine ⟨x + (k : Int) / (l.length : Nat) * 104729, ?_⟩
    simp [cmpB, e1, Blt.g, lenD, e2, e3, e4, e5]
end Py
end
section
set_option maxHeartbeats 4000000
namespace Py
open PySem PySem.Spec PyProof.Rows L2 Py
inductive W | yes | below | same | first | last | not | and | or | some | all
  deriving DecidableEq
def W.str : W → Str
  | .yes => ⟨#[121,101,115]⟩ | .below => ⟨#[98,101,108,111,119]⟩ | .same => ⟨#[115,97,109,101]⟩ | .first => ⟨#[102,105,114,115,116]⟩ | .last => ⟨#[108,97,115,116]⟩
  | .not => ⟨#[110,111,116]⟩ | .and => ⟨#[97,110,100]⟩ | .or => ⟨#[111,114]⟩ | .some => ⟨#[115,111,109,101]⟩ | .all => ⟨#[97,108,108]⟩
def W.n : W → Nat
  | .yes => 0 | .below => 2 | .same => 2 | .first => 1 | .last => 1 | .not => 1 | .and => 2 | .or => 2 | .some => 2 | .all => 2
def W.atom : W → Bool
  | .yes | .below | .same | .first | .last => true | _ => false
def W.qu : W → Bool
  | .some | .all => true | _ => false
def allW : List W := [.yes, .below, .same, .first, .last, .not, .and, .or, .some, .all]
def wd (s : Str) : Option W := allW.find? fun w => decide (w.str = s)
abbrev SZ : List (Str × Int) := allW.map fun w => (w.str, ((w.n + 1 : Nat) : Int))
theorem wd_str (w : W) : wd w.str = some w := by cases w <;> rfl
theorem wd_some {s : Str} {w : W} (h : wd s = some w) : s = w.str := by
  have := List.find?_some h
  exact (of_decide_eq_true this).symm
theorem cc2 : CC[2]? = some (dicOf SZ) := rfl
theorem wd_look (s : Str) : SZ.lookup s = (wd s).map fun w => ((w.n + 1 : Nat) : Int) := by
  cases h : wd s with
  | some w => rw [wd_some h]; cases w <;> rfl
  | none =>
    have h2 := List.find?_eq_none.mp h
    have : ∀ l : List W, (∀ w ∈ l, ¬ decide (w.str = s) = true) → (l.map fun w => (w.str, ((w.n + 1 : Nat) : Int))).lookup s = none := by
      intro l
      induction l with
      | nil => intro _; rfl
      | cons w l ih =>
        intro hl
        rw [List.map_cons, List.lookup_cons]
        have h1 := hl w List.mem_cons_self
        have : (s == w.str) = false := by
          rw [beq_eq_false_iff_ne]; intro e; exact h1 (decide_eq_true e.symm)
        rw [this]
        exact ih fun x hx => hl x (List.mem_cons_of_mem _ hx)
    exact this allW h2
theorem kin_sz (neg : Bool) (s : Str) : kinD neg (some (dicOf SZ)) (.str s) = .ok (.bl (neg != (wd s).isSome)) := by
  show RR.ok _ = _
  rw [key_lk.1, wd_look]
  cases wd s <;> rfl
theorem kget_sz {s : Str} {w : W} (h : wd s = some w) : kgetD (some (dicOf SZ)) (.str s) = .ok (.int ((w.n + 1 : Nat) : Int)) := by
  show RR.of (lookD _ _ _) = _
  rw [key_lk.2, wd_look, h]; rfl
mutual
/-- how many sayings there are in it, 0 if it is none -/
def pN : D → List D → Nat
  | .tup (.str s :: l), b => match wd s with
    | none => 0
    | some w => if l.length = w.n then
        if w.atom then (if l.all isNm then 1 else 0)
        else if w.qu then (if isNm (l.headD .non) && !hasP (l.headD .non) b then (let m := (pNs l (b ++ l.take 1)).getD 1 0; if 0 < m then m + 1 else 0) else 0)
        else if (pNs l b).contains 0 then 0 else 1 + (pNs l b).sum
      else 0
  | _, _ => 0
def pNs : List D → List D → List Nat
  | [], _ => []
  | d :: l, b => pN d b :: pNs l b
end
mutual
/-- what may come as a saying -/
def th : D → Bool
  | .str _ => true
  | .non => true
  | .int _ => true
  | .bl _ => true
  | .tup l => ths l
  | .lst l => ths l
  | _ => false
def ths : List D → Bool
  | [] => true
  | d :: l => th d && ths l
end
mutual
theorem th_nod : ∀ {d : D}, th d = true → nod d = true ∧ opq d = false
  | .str _, _ => ⟨rfl, rfl⟩
  | .non, _ => ⟨rfl, rfl⟩
  | .int _, _ => ⟨rfl, rfl⟩
  | .bl _, _ => ⟨rfl, rfl⟩
  | .tup l, h => ⟨ths_nod (l := l) h, rfl⟩
  | .lst l, h => ⟨ths_nod (l := l) h, rfl⟩
theorem ths_nod : ∀ {l : List D}, ths l = true → nods l = true
  | [], _ => rfl
  | d :: l, h => by
    simp only [ths, Bool.and_eq_true] at h
    show (nod d && nods l) = true
    rw [(th_nod h.1).1, ths_nod h.2]; rfl
end
theorem ths_mem : ∀ {l : List D} {d : D}, ths l = true → d ∈ l → th d = true
  | x :: l, d, h, hd => by
    simp only [ths, Bool.and_eq_true] at h
    rcases List.mem_cons.mp hd with rfl | hd
    · exact h.1
    · exact ths_mem h.2 hd
theorem sl1 (x : D) (l : List D) : slD (.tup (x :: l)) (some 1) none = some (.tup l) := by
  have e : slD (.tup (x :: l)) (some 1) none = some (.tup (cutD (x :: l) 1 (l.length + 1))) := by
    simp [slD, HT.sIx]
  rw [e]
  unfold cutD
  simp
theorem eq_nil {x : D} {l : List D} (h : nods (x :: l) = true) : cmpB .eq (.tup (x :: l)) (.tup []) = some false := by
  show (if _ then _ else _) = _
  rw [if_pos (by
    have : nod (.tup (x :: l)) = true := h
    rw [this]
    simp [nod, nods, dep, deps])]
  simp [eqP, toPy, toPys, PyData.eqv, PyData.eqvAll]
theorem inAtoms (w : W) : cmpB .inn (.str w.str) (.tup [.str W.yes.str, .str W.below.str, .str W.same.str, .str W.first.str, .str W.last.str]) = some w.atom := by cases w <;> rfl
theorem inQu (w : W) : cmpB .inn (.str w.str) (.tup [.str W.some.str, .str W.all.str]) = some w.qu := by cases w <;> rfl
end Py
end
section
set_option maxHeartbeats 4000000
namespace Py
open PySem PySem.Spec PyProof.Rows L2 Py
section
variable {fm : List Md} {C : List D} {G : GT}
/-! statements, one by one -/
theorem x_if {e : E} {a b l : Ss} {ρ : Env} {x : D} {k : Bool} {r : RR Out} (h : ev C G e ρ = .ok x) (hk : truR x = .ok k) (h2 : seqO (if k then exs fm C G a ρ else exs fm C G b ρ) (fun ρ => exs fm C G l ρ) = r) : exs fm C G (.c (.ifs e a b) l) ρ = r := by
  rw [← h2]
  simp only [exs, ex]
  rw [h, RR.bind_ok, hk, RR.bind_ok]
theorem x_no {e : E} {a l : Ss} {ρ : Env} {r : RR Out} (h : ev C G e ρ = .ok (.bl false)) (h2 : exs fm C G l ρ = r) : exs fm C G (.c (.ifs e a .n) l) ρ = r :=
  x_if h rfl (by simpa only [exs, seqO_nx, Bool.false_eq_true, if_false] using h2)
theorem x_yes {e : E} {a b l : Ss} {ρ : Env} {d : D} (h : ev C G e ρ = .ok (.bl true)) (h2 : exs fm C G a ρ = .ok (.rt d)) : exs fm C G (.c (.ifs e a b) l) ρ = .ok (.rt d) :=
  x_if h rfl (by rw [if_pos rfl, h2]; rfl)
theorem x_yesX {e : E} {a b l : Ss} {ρ : Env} {c : Str} (h : ev C G e ρ = .ok (.bl true)) (h2 : exs fm C G a ρ = .ex c) : exs fm C G (.c (.ifs e a b) l) ρ = .ex c :=
  x_if h rfl (by rw [if_pos rfl, h2]; rfl)
theorem x_yesN {e : E} {a b l : Ss} {ρ ρ' : Env} {r : RR Out} (h : ev C G e ρ = .ok (.bl true)) (h2 : exs fm C G a ρ = .ok (.nx ρ')) (h3 : exs fm C G l ρ' = r) : exs fm C G (.c (.ifs e a b) l) ρ = r :=
  x_if h rfl (by rw [if_pos rfl, h2]; exact h3)
theorem x_ret {e : E} {l : Ss} {ρ : Env} {d : D} (h : ev C G e ρ = .ok d) : exs fm C G (.c (.ret e) l) ρ = .ok (.rt d) := by
  simp only [exs, ex]; rw [h]; rfl
theorem x_set {e : E} {i : Nat} {l : Ss} {ρ : Env} {d : D} {r : RR Out} (h : ev C G e ρ = .ok d) (h2 : exs fm C G l (ρ.set i (some (mkV (e.md fm) d))) = r) : exs fm C G (.c (.set i e) l) ρ = r := by
  simp only [exs, ex]; rw [h]; exact h2
theorem x_one {s : S} {l : Ss} {ρ ρ' : Env} {r : RR Out} (h : ex fm C G s ρ = .ok (.nx ρ')) (h2 : exs fm C G l ρ' = r) : exs fm C G (.c s l) ρ = r := by
  simp only [exs]; rw [h]; exact h2
theorem e_blt {f : Blt} {e : E} {ρ : Env} {d r : D} (h : ev C G e ρ = .ok d) (hg : f.g [d] = some r) : ev C G (.blt f (.c e .n)) ρ = .ok r := by
  simp only [ev, evs]; rw [h]; simp only [RR.bind_ok]; rw [hg]; rfl
theorem e_shr {e : E} {ρ : Env} {d : D} (h : ev C G e ρ = .ok d) : ev C G (.shr e) ρ = .ok d := by simp only [ev]; exact h
theorem e_cmp {o : Cop} {a b : E} {ρ : Env} {x y : D} {r : Bool} (h1 : ev C G a ρ = .ok x) (h2 : ev C G b ρ = .ok y) (h3 : cmpB o x y = some r) : ev C G (.cmp o a b) ρ = .ok (.bl r) := by
  simp only [ev]; rw [h1, RR.bind_ok, h2, RR.bind_ok, h3]; rfl
theorem e_ite {c a b : E} {ρ : Env} {x d : D} {k : Bool} (h1 : ev C G c ρ = .ok x) (h2 : truR x = .ok k) (h3 : (if k then ev C G a ρ else ev C G b ρ) = .ok d) : ev C G (.ite c a b) ρ = .ok d := by
  simp only [ev]; rw [h1, RR.bind_ok, h2, RR.bind_ok]; exact h3
theorem e_bin {o : Bop} {a b : E} {ρ : Env} {x y r : D} (h1 : ev C G a ρ = .ok x) (h2 : ev C G b ρ = .ok y) (h3 : binD o x y = some r) : ev C G (.bin o a b) ρ = .ok r := by
  simp only [ev]; rw [h1, RR.bind_ok, h2, RR.bind_ok, h3]; rfl
theorem e_nt {a : E} {ρ : Env} {x : D} {k : Bool} (h1 : ev C G a ρ = .ok x) (h2 : truR x = .ok k) : ev C G (.nt a) ρ = .ok (.bl (!k)) := by
  simp only [ev]; rw [h1, RR.bind_ok, h2, RR.bind_ok]
theorem e_call1 {f : Nat} {a : E} {ρ : Env} {x r : D} (h1 : ev C G a ρ = .ok x) (h2 : callG G f [x] = .ok r) : ev C G (.call f (.c a .n)) ρ = .ok r := by
  simp only [ev, evs]; rw [h1]; exact h2
theorem e_call2 {f : Nat} {a b : E} {ρ : Env} {x y r : D} (h1 : ev C G a ρ = .ok x) (h0 : ev C G b ρ = .ok y) (h2 : callG G f [x, y] = .ok r) : ev C G (.call f (.c a (.c b .n))) ρ = .ok r := by
  simp only [ev, evs]; rw [h1, h0]; exact h2
theorem x_run {d : FDef} {l : List D} {r : D} (h : exs fm C G d.body (startD d.N.length l) = .ok (.rt r)) : d.run fm C G l = .ok r := by
  rw [run_eq, h]; rfl
theorem x_runX {d : FDef} {l : List D} {c : Str} (h : exs fm C G d.body (startD d.N.length l) = .ex c) : d.run fm C G l = .ex c := by
  rw [run_eq, h]; rfl
end
theorem asBls_map : ∀ bs : List Bool, asBls (bs.map D.bl) = some bs
  | [] => rfl
  | b :: bs => by simp [asBls, asBls_map bs]
theorem all_g (bs : List Bool) : Blt.all.g [.lst (bs.map D.bl)] = some (.bl (bs.all id)) := by
  show (asBls _).map _ = _
  rw [asBls_map]; rfl
theorem any_g (bs : List Bool) : Blt.any.g [.lst (bs.map D.bl)] = some (.bl (bs.any id)) := by
  show (asBls _).map _ = _
  rw [asBls_map]; rfl
theorem has0 : ∀ l : List Nat, hasP (.int 0) (l.map fun n => D.int (n : Nat)) = l.contains 0
  | [] => rfl
  | n :: l => by
    show (eqP (.int (n : Nat)) (.int 0) || hasP _ _) = _
    rw [has0 l, List.contains_cons]
    congr 1
    show ((n : Int) == 0) = (0 == n)
    by_cases e : n = 0
    · subst e; rfl
    · rw [beq_eq_false_iff_ne.mpr (by omega), beq_eq_false_iff_ne.mpr (by omega)]
theorem nods_ints : ∀ l : List Nat, nods (l.map fun n => D.int (n : Nat)) = true
  | [] => rfl
  | n :: l => by show (true && nods _) = true; rw [nods_ints l]; rfl
theorem deps_ints : ∀ l : List Nat, deps (l.map fun n => D.int (n : Nat)) ≤ 1
  | [] => by simp [deps]
  | n :: l => by have := deps_ints l; show max 1 _ ≤ 1; omega
theorem in0 (l : List Nat) : cmpB .inn (.int 0) (.lst (l.map fun n => D.int (n : Nat))) = some (l.contains 0) := by
  show (if _ then _ else _) = _
  have h1 := deps_ints l
  rw [if_pos (by simp only [nods_ints, Bool.and_eq_true, decide_eq_true_eq]; exact ⟨⟨rfl, trivial⟩, by omega⟩), has0]
theorem sumInts (l : List Nat) : Blt.sum.g [D.lst (l.map fun n => D.int (n : Nat))] = some (.int ((l.sum : Nat) : Int)) := by
  have e : l.map (fun n => D.int ((n : Nat) : Int)) = (l.map Int.ofNat).map D.int := by simp
  show (asInts _).map _ = _
  rw [e, asInts_map]
  have : ∀ l : List Nat, (l.map Int.ofNat).sum = ((l.sum : Nat) : Int) := by
    intro l
    induction l with
    | nil => rfl
    | cons n l ih => simp [ih]
  show some (D.int _) = _
  rw [this]
/-- a comprehension over a list: each by itself -/
theorem comp_v {C : List D} {G : GT} {i : Nat} {s : Sr} {e : E} {ρ : Env} {l : List D} {g : D → D} (hs : evr C G s ρ = .ok l) (hl : l.length ≤ 1000000) (h : ∀ x ∈ l, ev C G e ((wipeD ρ [i]).set i (some (false, x))) = .ok (g x)) :
    ev C G (.comp (.v i) [i] s .nop e) ρ = .ok (.lst (l.map g)) := by
  simp only [ev]
  refine compF_map (l := l) (en := id) (g := g) (by rw [hs]; simp) fun x hx => ?_
  simp only [turn_v, isNop]
  simp [h x hx]
end Py
end
section
set_option maxHeartbeats 4000000
namespace Py
open PySem PySem.Spec PyProof.Rows L2 Py
theorem inAtomsL (w : W) : cmpB .inn (.str w.str) (.tup [.str ⟨#[121,101,115]⟩, .str ⟨#[98,101,108,111,119]⟩, .str ⟨#[115,97,109,101]⟩, .str ⟨#[102,105,114,115,116]⟩, .str ⟨#[108,97,115,116]⟩]) = some w.atom := inAtoms w
theorem inQuL (w : W) : cmpB .inn (.str w.str) (.tup [.str ⟨#[115,111,109,101]⟩, .str ⟨#[97,108,108]⟩]) = some w.qu := inQu w
theorem atI0 {α : Type} (x : α) (l : List α) : L2.atI (x :: l) 0 = some x := by
  rw [atI_ok _ _ (by decide) (by rw [List.length_cons]; omega)]; rfl
theorem atI1 {α : Type} (x y : α) (l : List α) : L2.atI (x :: y :: l) 1 = some y := by
  rw [atI_ok _ _ (by decide) (by simp only [List.length_cons]; omega)]; rfl
theorem atI2 {α : Type} (x y z : α) (l : List α) : L2.atI (x :: y :: z :: l) 2 = some z := by
  rw [atI_ok _ _ (by decide) (by simp only [List.length_cons]; omega)]; rfl
theorem mapBl {l : List D} {g : D → Bool} : (l.map fun d => D.bl (g d)) = (l.map g).map D.bl := by simp
theorem pNs_map (b : List D) : ∀ l : List D, pNs l b = l.map fun d => pN d b
  | [] => rfl
  | d :: l => by rw [pNs, pNs_map b l]; rfl
theorem th_split {w : Str} {l : List D} (hx : th (.tup (.str w :: l)) = true) : ths l = true := by
  have : (th (.str w) && ths l) = true := hx
  rw [Bool.and_eq_true] at this; exact this.2
theorem dep_split {w : D} {l : List D} {d : D} (hm : d ∈ l) : dep d < dep (.tup (w :: l)) := by
  have := deps_mem (l := w :: l) (List.mem_cons_of_mem _ hm)
  show _ < deps _ + 1
  omega
theorem in_lst {x : D} {l : List D} (h1 : nod x = true) (h2 : nods l = true) (h3 : dep x ≤ 60) : inB x (.tup l) = some (hasP x l) ∧ inB x (.lst l) = some (hasP x l) := by
  constructor
  · show (if _ then _ else _) = _
    rw [if_pos (by rw [h1, h2, Bool.true_and, Bool.true_and, decide_eq_true_eq]; omega)]
  · show (if _ then _ else _) = _
    rw [if_pos (by rw [h1, h2, Bool.true_and, Bool.true_and, decide_eq_true_eq]; omega)]
theorem nods_app : ∀ {l r : List D}, nods l = true → nods r = true → nods (l ++ r) = true
  | [], r, _, h => h
  | d :: l, r, h, h2 => by
    simp only [nods, Bool.and_eq_true] at h
    show (nod d && nods (l ++ r)) = true
    rw [h.1, nods_app h.2 h2]; rfl
theorem parts_ok {G : GT} {x : D} {b : List D} (hx : th x = true) (hd : dep x ≤ 60) (hb : nods b = true) (hbl : b.length ≤ 1000) (h0 : ∀ d, opq d = false → callG G 0 [d] = .ok (.bl (isNm d)))
    (h1 : ∀ d b', th d = true → dep d < dep x → nods b' = true → b'.length ≤ b.length + 1 → callG G 1 [d, .tup b'] = .ok (.int ((pN d b' : Nat) : Int))) :
    F1.run FM CC G [x, .tup b] = .ok (.int ((pN x b : Nat) : Int)) := by
  refine x_run ?_
  cases x with
  | tup xs =>
    cases xs with
    | nil =>
      have e : cmpB .eq (.tup []) (.tup []) = some true := rfl
      refine x_yes ?_ (x_ret rfl)
      simp [ev, evs, startD, isiR, opq, isTy, e]
    | cons y l =>
      have e := eq_nil (x := y) (l := l) (ths_nod (l := y :: l) hx)
      have hy : th y = true := ths_mem (l := y :: l) hx List.mem_cons_self
      have hy2 := th_nod hy
      cases y with
      | str s =>
        have hls := th_split hx
        refine x_no (by simp [ev, evs, startD, isiR, opq, isTy, e, ixD, atI0]) ?_
        refine x_set (d := .str s) (by simp [ev, startD, ixD, atI0]) ?_
        show exs FM CC G _ [some (false, .tup (.str s :: l)), some (false, .tup b), some (false, .str s), none, none, none, none] = _
        cases hw : wd s with
        | none =>
          refine x_yes (by simp [ev, evs, cc2, kin_sz, hw]) ?_
          have : pN (.tup (.str s :: l)) b = 0 := by rw [pN, hw]
          rw [this]
          exact x_ret rfl
        | some w =>
          obtain rfl := wd_some hw
          by_cases hl : l.length = w.n
          · have hll : l.length ≤ 1000000 := by rw [hl]; cases w <;> decide
            refine x_no (by simp [ev, evs, cc2, kin_sz, kget_sz hw, hw, Blt.g, lenD, hl]) ?_
            by_cases ha : w.atom = true
            · refine x_yes (by simp [ev, evs, inAtomsL, ha]) (x_ret ?_)
              have hc : ev CC G (.comp (.v 6) [6] (.seq (.sl (.v 0) (.int 1) .nop)) .nop (.call 0 (.c (.v 6) .n))) [some (false, .tup (.str w.str :: l)), some (false, .tup b), some (false, .str w.str), none, none, none, none] = .ok (.lst ((l.map isNm).map D.bl)) := by
                rw [List.map_map]
                refine comp_v (l := l) ?_ hll fun d hm => ?_
                · simp [evr, ev, isNop, intO, sl1, seqD]
                · simp [ev, evs, wipeD, h0 d (th_nod (ths_mem hls hm)).2]
              have e1 : pN (.tup (.str w.str :: l)) b = if l.all isNm then 1 else 0 := by
                rw [pN, hw]; simp [hl, ha]
              rw [e1]
              refine e_blt (e_blt hc (all_g _)) ?_
              simp only [Blt.g, intD]
              by_cases q : l.all isNm = true
              · have q2 : (l.map isNm).all id = true := by simpa using q
                rw [q2, q]; rfl
              · have q2 : (l.map isNm).all id = false := by simpa using q
                rw [q2, Bool.eq_false_iff.mpr q]; rfl
            · have ha : w.atom = false := Bool.eq_false_iff.mpr ha
              refine x_no (by simp [ev, evs, inAtomsL, ha]) ?_
              by_cases hq : w.qu = true
              · obtain ⟨y, t, rfl⟩ : ∃ y t, l = [y, t] := by
                  have : l.length = 2 := by rw [hl]; cases w <;> first | rfl | cases hq
                  match l, this with
                  | [y, t], _ => exact ⟨y, t, rfl⟩
                have hy3 := th_nod (ths_mem hls (d := y) (by simp))
                have hyd := dep_split (w := .str w.str) (l := [y, t]) (d := y) (by simp)
                have i1 : cmpB .nin y (.tup b) = some (!hasP y b) := by
                  show Option.map _ (inB y (.tup b)) = _
                  rw [(in_lst hy3.1 hb (by omega)).1]; rfl
                have i2 : binD .add (.tup b) (.tup [y]) = some (.tup (b ++ [y])) := by
                  show (if b.length + 1 ≤ lim then some (D.tup (b ++ [y])) else none) = _
                  rw [if_pos (by unfold lim; omega)]
                have i3 := h1 t (b ++ [y]) (ths_mem hls (by simp)) (dep_split (by simp)) (nods_app hb (by show (nod y && true) = true; rw [hy3.1]; rfl)) (by simp)
                refine x_yes (by simp [ev, evs, inQuL, hq]) ?_
                have e1 : pN (.tup (.str w.str :: [y, t])) b = if isNm y && !hasP y b then (let m := pN t (b ++ [y]); if 0 < m then m + 1 else 0) else 0 := by
                  rw [pN, hw]; simp [hl, ha, hq, pNs]
                rw [e1]
                refine x_set (d := .int ((if isNm y && !hasP y b then pN t (b ++ [y]) else 0 : Nat) : Int)) ?_ ?_
                · by_cases q1 : isNm y = true
                  · by_cases q2 : hasP y b = true
                    · simp [ev, evs, ixD, atI1, atI2, h0 y hy3.2, i1, q1, q2]
                    · simp [ev, evs, ixD, atI1, atI2, h0 y hy3.2, i1, i2, i3, q1, q2]
                  · simp [ev, evs, ixD, atI1, atI2, h0 y hy3.2, q1]
                · refine x_ret ?_
                  by_cases q1 : (isNm y && !hasP y b) = true
                  · simp only [q1, if_true]
                    by_cases q2 : 0 < pN t (b ++ [y])
                    · simp [ev, evs, mkV, E.md, mjoin, Blt.g, intD, q2]
                    · have q3 : pN t (b ++ [y]) = 0 := by omega
                      simp [ev, evs, mkV, E.md, mjoin, Blt.g, intD, q3]
                  · simp only [q1]
                    simp [ev, evs, mkV, E.md, mjoin, Blt.g, intD]
              · have hq : w.qu = false := Bool.eq_false_iff.mpr hq
                refine x_no (by simp [ev, evs, inQuL, hq]) ?_
                have hc : ev CC G (.comp (.v 5) [5] (.seq (.sl (.v 0) (.int 1) .nop)) .nop (.call 1 (.c (.v 5) (.c (.v 1) .n)))) [some (false, .tup (.str w.str :: l)), some (false, .tup b), some (false, .str w.str), none, none, none, none] = .ok (.lst ((pNs l b).map fun n => D.int (n : Nat))) := by
                  rw [pNs_map, List.map_map]
                  refine comp_v (l := l) ?_ hll fun d hm => ?_
                  · simp [evr, ev, isNop, intO, sl1, seqD]
                  · simp [ev, evs, wipeD, h1 d b (ths_mem hls hm) (dep_split hm) hb (by omega)]
                refine x_set (d := .lst ((pNs l b).map fun n => D.int (n : Nat))) (by simpa only [ev] using hc) ?_
                refine x_ret ?_
                have e1 : pN (.tup (.str w.str :: l)) b = if (pNs l b).contains 0 then 0 else 1 + (pNs l b).sum := by
                  rw [pN, hw]; simp [hl, ha, hq]
                rw [e1]
                by_cases q : (pNs l b).contains 0 = true
                · simp only [q, if_true]
                  simp [ev, evs, mkV, E.md, in0]
                  simp_all
                · simp only [q]
                  simp [ev, evs, mkV, E.md, in0, sumInts]
                  simp_all
          · have e2 : ¬ ((l.length : Int) + 1 = (w.n : Int) + 1) := by omega
            refine x_yes (by simp [ev, evs, cc2, kin_sz, kget_sz hw, hw, Blt.g, lenD, e2]) ?_
            have : pN (.tup (.str w.str :: l)) b = 0 := by rw [pN, hw]; simp [hl]
            rw [this]
            exact x_ret rfl
      | obj a => cases hy
      | glo a => cases hy
      | dic a b => cases hy
      | scr l => cases hy
      | _ =>
        refine x_yes ?_ (x_ret rfl)
        simp [ev, evs, startD, isiR, opq, isTy, e, ixD, atI0]
  | obj a => cases hx
  | glo a => cases hx
  | dic a b => cases hx
  | scr l => cases hx
  | _ =>
    refine x_yes ?_ (x_ret rfl)
    simp [ev, evs, startD, isiR, opq, isTy]
end Py
end
section
set_option maxHeartbeats 4000000
namespace Py
open PySem PySem.Spec PyProof.Rows L2 Py
/-- the defs of the sayings are there -/
structure HasS (defs : Defs) : Prop where
  h0 : defs.lookup 0 = some F0
  h1 : defs.lookup 1 = some F1
  h2 : defs.lookup 2 = some F2
  h3 : defs.lookup 3 = some F3
  h4 : defs.lookup 4 = some F4
  h5 : defs.lookup 5 = some F5
  h6 : defs.lookup 6 = some F6
abbrev GA (defs : Defs) (k : Nat) : GT := fnsG FM CC defs k
section
variable {defs : Defs}
theorem c0 (h : HasS defs) (k : Nat) (d : D) (ho : opq d = false) : callG (GA defs (k + 1)) 0 [d] = .ok (.bl (isNm d)) := by
  rw [callG_at h.h0]; exact is_name_ok _ d ho
theorem c1 (h : HasS defs) : ∀ (n : Nat) (x : D) (b : List D) (k : Nat), th x = true → dep x ≤ n → n ≤ 60 → nods b = true → b.length + n ≤ 1000 → callG (GA defs (k + n + 1)) 1 [x, .tup b] = .ok (.int ((pN x b : Nat) : Int))
  | 0, x, b, k, hx, hd, _, _, _ => by
    exfalso
    cases x <;> simp [dep] at hd
  | n + 1, x, b, k, hx, hd, hn, hb, hl => by
    rw [show k + (n + 1) + 1 = (k + n + 1) + 1 by omega, callG_at h.h1]
    exact parts_ok hx (by omega) hb (by omega) (fun d ho => c0 h (k + n) d ho) fun d b' hd' hdd hb' hl' => c1 h n d b' k hd' (by omega) (by omega) hb' (by omega)
end
/-! ### sayings -/
inductive Sy
  | yes
  | one (w : Bool) (i : Nat)
  | two (w : Bool) (i j : Nat)
  | not (s : Sy)
  | con (w : Bool) (s t : Sy)
  | qu (w : Bool) (i : Nat) (s : Sy)
def nmS (i : Nat) : Str := ⟨#[97 + i]⟩
def nm (i : Nat) : D := .str (nmS i)
def w1 : Bool → W
  | true => .first | false => .last
def w2 : Bool → W
  | true => .below | false => .same
def wc : Bool → W
  | true => .and | false => .or
def wq : Bool → W
  | true => .some | false => .all
def wdD (w : W) : D := .str w.str
def enc : Sy → D
  | .yes => .tup [wdD .yes]
  | .one w i => .tup [wdD (w1 w), nm i]
  | .two w i j => .tup [wdD (w2 w), nm i, nm j]
  | .not s => .tup [wdD .not, enc s]
  | .con w s t => .tup [wdD (wc w), enc s, enc t]
  | .qu w i s => .tup [wdD (wq w), nm i, enc s]
def Sy.wf : Sy → Prop
  | .yes => True
  | .one _ i => i < 5
  | .two _ i j => i < 5 ∧ j < 5
  | .not s => s.wf
  | .con _ s t => s.wf ∧ t.wf
  | .qu _ i s => i < 5 ∧ s.wf
def Sy.size : Sy → Nat
  | .not s => 1 + s.size
  | .con _ s t => 1 + s.size + t.size
  | .qu _ _ s => 1 + s.size
  | _ => 1
/-- no name is called that stands outside -/
def Sy.fit : Sy → List Nat → Bool
  | .not s, b => s.fit b
  | .con _ s t, b => s.fit b && t.fit b
  | .qu _ i s, b => !b.contains i && s.fit (b ++ [i])
  | _, _ => true
theorem nm_of {d : D} (h : isNm d = true) : ∃ i, i < 5 ∧ d = nm i := by
  cases d with
  | str s =>
    have h : isNmS s = true := h
    simp only [isNmS, Bool.and_eq_true, decide_eq_true_eq] at h
    obtain ⟨⟨h1, h2⟩, h3⟩ := h
    have e := one_of (s := s) h1
    refine ⟨s.cps[0]! - 97, by omega, ?_⟩
    rw [nm, nmS, show 97 + (s.cps[0]! - 97) = s.cps[0]! by omega, ← e]
  | _ => cases h
theorem nm_is {i : Nat} (h : i < 5) : isNm (nm i) = true := by
  have : i = 0 ∨ i = 1 ∨ i = 2 ∨ i = 3 ∨ i = 4 := by omega
  rcases this with rfl | rfl | rfl | rfl | rfl <;> rfl
theorem nm_inj {i j : Nat} (h : nm i = nm j) : i = j := by
  simp only [nm, nmS, D.str.injEq, Str.mk.injEq, Array.mk.injEq, List.cons.injEq, and_true] at h
  omega
theorem eqP_nm (i j : Nat) : eqP (nm i) (nm j) = decide (i = j) := by
  show ((nmS i) == (nmS j)) = _
  by_cases e : i = j
  · subst e; simp
  · rw [decide_eq_false e, beq_eq_false_iff_ne]
    exact fun q => e (nm_inj (congrArg D.str q))
theorem hasP_nm (i : Nat) : ∀ l : List Nat, hasP (nm i) (l.map nm) = l.contains i
  | [] => rfl
  | j :: l => by
    show (eqP (nm j) (nm i) || hasP _ _) = _
    rw [hasP_nm i l, eqP_nm, List.contains_cons]
    congr 1
    by_cases e : j = i
    · subst e; simp
    · rw [decide_eq_false e]; exact (beq_eq_false_iff_ne.mpr fun q => e q.symm).symm
theorem pN_enc : ∀ (s : Sy) (b : List Nat), s.wf → pN (enc s) (b.map nm) = if s.fit b then s.size else 0
  | .yes, b, h => by simp [enc, wdD, pN, wd_str, W.n, W.atom, Sy.fit, Sy.size]
  | .one w i, b, h => by
    have := nm_is h
    cases w <;> simp [enc, wdD, pN, wd_str, W.n, W.atom, Sy.fit, Sy.size, w1, this]
  | .two w i j, b, h => by
    have h1 := nm_is h.1
    have h2 := nm_is h.2
    cases w <;> simp [enc, wdD, pN, wd_str, W.n, W.atom, Sy.fit, Sy.size, w2, h1, h2]
  | .not s, b, h => by
    have h1 := pN_enc s b h
    have h3 : 0 < s.size := by cases s <;> simp only [Sy.size] <;> omega
    simp [enc, wdD, pN, pNs, wd_str, W.n, W.atom, W.qu, Sy.fit, Sy.size, h1]
    by_cases q : s.fit b = true
    · simp [q]; omega
    · simp [q]
  | .con w s t, b, h => by
    have h1 := pN_enc s b h.1
    have h2 := pN_enc t b h.2
    have h3 : 0 < s.size := by cases s <;> simp only [Sy.size] <;> omega
    have h4 : 0 < t.size := by cases t <;> simp only [Sy.size] <;> omega
    have e : pN (enc (.con w s t)) (b.map nm) = if ([pN (enc s) (b.map nm), pN (enc t) (b.map nm)]).contains 0 then 0 else 1 + (pN (enc s) (b.map nm) + (pN (enc t) (b.map nm))) := by
      cases w <;> simp [enc, wdD, pN, pNs, wd_str, W.n, W.atom, W.qu, wc]
    rw [e, h1, h2]
    have h5 : ¬ (0 = s.size ∨ 0 = t.size) := by omega
    by_cases q : s.fit b = true <;> by_cases q2 : t.fit b = true <;> simp [Sy.fit, Sy.size, q, q2, h5] <;> omega
  | .qu w i s, b, h => by
    have h1 := pN_enc s (b ++ [i]) h.2
    rw [List.map_append] at h1
    have h2 := nm_is h.1
    have h3 : 0 < s.size := by cases s <;> simp only [Sy.size] <;> omega
    have e : pN (enc (.qu w i s)) (b.map nm) = if isNm (nm i) && !hasP (nm i) (b.map nm) then (if 0 < pN (enc s) (b.map nm ++ [nm i]) then pN (enc s) (b.map nm ++ [nm i]) + 1 else 0) else 0 := by
      cases w <;> simp [enc, wdD, pN, pNs, wd_str, W.n, W.atom, W.qu, wq]
    rw [e, h2, hasP_nm]
    have h1 : pN (enc s) (b.map nm ++ [nm i]) = if s.fit (b ++ [i]) then s.size else 0 := h1
    rw [h1]
    by_cases q : b.contains i = true <;> by_cases q2 : s.fit (b ++ [i]) = true <;> simp_all [Sy.fit, Sy.size] <;> omega
end Py
end
section
set_option maxHeartbeats 4000000
namespace Py
open PySem PySem.Spec PyProof.Rows L2 Py
/-! ### few names, each once -/
def LL : Nat → List (List Nat)
  | 0 => [[]]
  | n + 1 => LL n ++ (LL n).flatMap fun l => ((List.range 5).filter fun x => !l.contains x).map (· :: l)
theorem LL_le : ∀ {n : Nat} {l : List Nat}, l ∈ LL n → l ∈ LL (n + 1) := fun h => List.mem_append_left _ h
theorem LL_mono {n m : Nat} {l : List Nat} (h : l ∈ LL n) (hm : n ≤ m) : l ∈ LL m := by
  induction hm with
  | refl => exact h
  | step _ ih => exact LL_le ih
theorem LL_of : ∀ {l : List Nat}, l.Nodup → (∀ x ∈ l, x < 5) → l ∈ LL l.length
  | [], _, _ => by simp [LL]
  | x :: l, hn, hx => by
    rw [List.nodup_cons] at hn
    have h := LL_of hn.2 fun y hy => hx y (List.mem_cons_of_mem _ hy)
    show _ ∈ LL l.length ++ _
    refine List.mem_append_right _ (List.mem_flatMap.mpr ⟨l, h, List.mem_map.mpr ⟨x, List.mem_filter.mpr ⟨List.mem_range.mpr (hx x List.mem_cons_self), ?_⟩, rfl⟩⟩)
    simpa using hn.1
theorem len5 {l : List Nat} (hn : l.Nodup) (hx : ∀ x ∈ l, x < 5) : l.length ≤ 5 := by
  have := hn.length_le_of_subset (l₂ := List.range 5) fun x h => List.mem_range.mpr (hx x h)
  simpa using this
theorem in5 {l : List Nat} (hn : l.Nodup) (hx : ∀ x ∈ l, x < 5) : l ∈ LL 5 := LL_mono (LL_of hn hx) (len5 hn hx)
/-- the names, by a question -/
def pick5 (p : Nat → Bool) : List Nat := (List.range 5).filter p
def isL : List D → List Nat → Bool
  | [], [] => true
  | .str s :: ds, i :: l => decide (s.cps.toList = [97 + i]) && isL ds l
  | _, _ => false
theorem isL_of : ∀ {ds : List D} {l : List Nat}, isL ds l = true → ds = l.map nm
  | [], [], _ => rfl
  | [], _ :: _, h => by simp [isL] at h
  | d :: ds, [], h => by cases d <;> simp [isL] at h
  | d :: ds, i :: l, h => by
    cases d <;> first
      | (rename_i s
         simp only [isL, Bool.and_eq_true, decide_eq_true_eq] at h
         rw [List.map_cons, ← isL_of h.2]
         congr 1
         obtain ⟨⟨s⟩⟩ := s
         have h1 : s = [97 + i] := h.1
         rw [h1]; rfl)
      | (simp [isL] at h)
def okL (u : List Nat) : Bool := sortOkF (u.map nm) && chainB (srt leF (u.map nm)) && isL (srt leF (u.map nm)) (pick5 u.contains) && isL ((srtS (u.map nmS)).map D.str) (pick5 u.contains)
theorem okL_all : (LL 5).all okL = true := by decide +kernel
theorem ok5 {u : List Nat} (hn : u.Nodup) (hx : ∀ x ∈ u, x < 5) : okL u = true := List.all_eq_true.mp okL_all u (in5 hn hx)
end Py
end
section
set_option maxHeartbeats 4000000
namespace Py
open PySem PySem.Spec PyProof.Rows L2 Py
def ddA (L : List Nat) : List Nat → List Nat
  | [] => L
  | x :: l => ddA (if x ∈ L then L else L ++ [x]) l
def ddN (l : List Nat) : List Nat := ddA [] l
theorem ddA_spec : ∀ (l L : List Nat), L.Nodup → (ddA L l).Nodup ∧ ∀ x, x ∈ ddA L l ↔ x ∈ L ∨ x ∈ l
  | [], L, h => ⟨h, fun x => by simp [ddA]⟩
  | y :: l, L, h => by
    unfold ddA
    by_cases q : y ∈ L
    · rw [if_pos q]
      obtain ⟨h1, h2⟩ := ddA_spec l L h
      refine ⟨h1, fun x => (h2 x).trans ?_⟩
      rw [List.mem_cons]
      constructor
      · rintro (z | z)
        · exact .inl z
        · exact .inr (.inr z)
      · rintro (z | rfl | z)
        · exact .inl z
        · exact .inl q
        · exact .inr z
    · rw [if_neg q]
      obtain ⟨h1, h2⟩ := ddA_spec l (L ++ [y]) (by
        rw [List.nodup_append]
        refine ⟨h, by simp, fun a ha b hb => ?_⟩
        rw [List.mem_singleton] at hb
        subst hb
        exact fun e => q (e ▸ ha))
      refine ⟨h1, fun x => (h2 x).trans ?_⟩
      simp only [List.mem_append, List.mem_singleton, List.mem_cons, List.not_mem_nil, or_false]
      exact or_assoc
theorem ddN_nodup (l : List Nat) : (ddN l).Nodup := (ddA_spec l [] .nil).1
theorem ddN_mem {l : List Nat} {x : Nat} : x ∈ ddN l ↔ x ∈ l := by
  have := (ddA_spec l [] .nil).2 x
  rw [show ddN l = ddA [] l from rfl, this]
  simp
theorem pick_dd (l : List Nat) : pick5 (ddN l).contains = pick5 l.contains := by
  unfold pick5
  refine List.filter_congr fun x _ => ?_
  rw [Bool.eq_iff_iff, List.contains_iff_mem, List.contains_iff_mem]
  exact ddN_mem
abbrev kyN (i : Nat) : D × NestedKey := (nm i, .text (nmS i))
theorem pairs_nm : ∀ l : List Nat, pairsD (l.map nm) = some (l.map kyN)
  | [] => rfl
  | i :: l => by
    rw [List.map_cons]
    unfold pairsD
    rw [pairs_nm l]; rfl
theorem nmS_inj {i j : Nat} (h : nmS i = nmS j) : i = j := nm_inj (congrArg D.str h)
theorem dd_nm : ∀ (l L : List Nat), (l.map kyN).foldl ddS (L.map kyN) = (ddA L l).map kyN
  | [], L => rfl
  | x :: l, L => by
    rw [List.map_cons, List.foldl_cons]
    unfold ddA
    have e : (kyN x).2 ∈ (L.map kyN).map (·.2) ↔ x ∈ L := by
      rw [List.map_map, List.mem_map]
      constructor
      · rintro ⟨y, hy, q⟩
        have q : NestedKey.text (nmS y) = .text (nmS x) := q
        injection q with q
        rw [← nmS_inj q]; exact hy
      · exact fun h => ⟨x, h, rfl⟩
    by_cases q : x ∈ L
    · rw [if_pos q]
      have : ddS (L.map kyN) (kyN x) = L.map kyN := if_pos (e.mpr q)
      rw [this]; exact dd_nm l L
    · rw [if_neg q]
      have : ddS (L.map kyN) (kyN x) = (L ++ [x]).map kyN := by
        rw [List.map_append]; exact if_neg fun z => q (e.mp z)
      rw [this]; exact dd_nm l (L ++ [x])
theorem set_nm {l : List Nat} (hl : l.length + 1 < scanBound) : setL (l.map nm) = some ((ddN l).map nm) := by
  unfold setL
  rw [pairs_nm]
  dsimp only
  have : setOk (l.map kyN) = true := by
    unfold setOk
    rw [Bool.or_eq_true]
    refine .inl ?_
    rw [Bool.and_eq_true, decide_eq_true_eq, List.length_map]
    exact ⟨by simp [isLeafK], hl⟩
  rw [if_pos this]
  have := dd_nm l []
  unfold ddK
  rw [show ([] : List (D × NestedKey)) = [].map kyN from rfl, this, List.map_map]
  rfl
theorem ss_nm {l : List Nat} (hx : ∀ x ∈ l, x < 5) (hl : l.length + 1 < scanBound) : ssD (.lst (l.map nm)) = .ok (.lst ((pick5 l.contains).map nm)) := by
  have ok := ok5 (ddN_nodup l) fun x h => hx x (ddN_mem.mp h)
  simp only [okL, Bool.and_eq_true] at ok
  obtain ⟨⟨⟨h1, h2⟩, h3⟩, h4⟩ := ok
  have h3 := isL_of h3
  have hs := set_nm hl
  have e : ∃ r, ssortL (l.map nm) = some r := by
    unfold ssortL
    by_cases q : fastS (l.map nm) = true
    · exact ⟨_, if_pos q⟩
    · rw [if_neg q, hs]
      dsimp only
      rw [h1, h2]; exact ⟨_, rfl⟩
  obtain ⟨r, hr⟩ := e
  obtain ⟨u, e1, _, _, e4⟩ := ssortL_some hr
  rw [hs] at e1
  cases e1
  show (RR.of (ssortL (l.map nm)) >>= fun r => RR.ok (D.lst r)) = _
  rw [hr, e4, ← leF_eq, ← srt_eq, h3, pick_dd]; rfl
theorem strKs_nm : ∀ l : List Nat, strKs (l.map fun i => (.inr (nmS i) : Key)) = some (l.map nmS)
  | [] => rfl
  | i :: l => by rw [List.map_cons]; unfold strKs; rw [strKs_nm l]; rfl
theorem sd_nm {l : List Nat} {vs : List D} (hn : l.Nodup) (hx : ∀ x ∈ l, x < 5) : sortedD2 [.dic (l.map fun i => (.inr (nmS i) : Key)) vs] = some (.lst ((pick5 l.contains).map nm)) := by
  have ok := ok5 hn hx
  simp only [okL, Bool.and_eq_true] at ok
  obtain ⟨_, h4⟩ := ok
  have h4 := isL_of h4
  have h5 := len5 hn hx
  show (match strKs (l.map fun i => (.inr (nmS i) : Key)) with
      | some l => if l.length < 64 ∧ (l.all fun x => PyData.strOk x && decide (x.length ≤ lim)) = true then some (D.lst ((srtS l).map D.str)) else none
      | none => none) = _
  rw [strKs_nm]
  dsimp only
  have hall : ((l.map nmS).all fun x => PyData.strOk x && decide (x.length ≤ lim)) = true := by
    rw [List.all_map, List.all_eq_true]
    intro i hi
    have := hx i hi
    have : i = 0 ∨ i = 1 ∨ i = 2 ∨ i = 3 ∨ i = 4 := by omega
    rcases this with rfl | rfl | rfl | rfl | rfl <;> decide +kernel
  have hlen : (l.map nmS).length < 64 := by rw [List.length_map]; omega
  rw [if_pos ⟨hlen, hall⟩, h4]
end Py
end
section
set_option maxHeartbeats 4000000
namespace Py
open PySem PySem.Spec PyProof.Rows L2 Py
section
variable {fm : List Md} {C : List D} {G : GT}
theorem x_for {t : Tg} {s : Sr} {b l : Ss} {ρ ρ' : Env} {ds : List D} {r : RR Out} (hs : evr C G s ρ = .ok ds) (hf : execFor t (fun ρ => exs fm C G b ρ) ds ρ = .ok (.nx ρ')) (h2 : exs fm C G l ρ' = r) : exs fm C G (.c (.forr t s b) l) ρ = r := by
  refine x_one ?_ h2
  simp only [ex]
  rw [hs, RR.bind_ok, hf]
theorem f_nil {t : Tg} {body : Env → RR Out} {ρ : Env} : execFor t body [] ρ = .ok (.nx ρ) := rfl
theorem f_cons {t : Tg} {body : Env → RR Out} {d : D} {l : List D} {ρ ρ1 ρ2 : Env} {r : RR Out} (h1 : bindT t d ρ = .ok ρ1) (h2 : body ρ1 = .ok (.nx ρ2)) (h3 : execFor t body l ρ2 = r) : execFor t body (d :: l) ρ = r := by
  unfold execFor
  rw [h1, RR.bind_ok, h2]; exact h3
end
theorem add_lst {a b : List D} (h : a.length + b.length ≤ 10000000) : binD .add (.lst a) (.lst b) = some (.lst (a ++ b)) := by
  show (if a.length + b.length ≤ lim then some (D.lst (a ++ b)) else none) = _
  rw [if_pos (by unfold lim; omega)]
def Sy.dp : Sy → Nat
  | .not s => s.dp + 1
  | .con _ s t => max s.dp t.dp + 1
  | .qu _ _ s => s.dp + 1
  | _ => 1
/-- the names that some and all call -/
def bnd : Sy → List Nat
  | .not s => bnd s
  | .con _ s t => bnd s ++ bnd t
  | .qu _ i s => i :: bnd s
  | _ => []
theorem bnd_len : ∀ s : Sy, (bnd s).length ≤ s.size
  | .yes => by simp [bnd, Sy.size]
  | .one _ _ => by simp [bnd, Sy.size]
  | .two _ _ _ => by simp [bnd, Sy.size]
  | .not s => by have := bnd_len s; simp [bnd, Sy.size]; omega
  | .con _ s t => by have := bnd_len s; have := bnd_len t; simp [bnd, Sy.size]; omega
  | .qu _ _ s => by have := bnd_len s; simp [bnd, Sy.size]; omega
theorem inCon (w : W) : cmpB .inn (.str w.str) (.tup [.str ⟨#[110,111,116]⟩, .str ⟨#[97,110,100]⟩, .str ⟨#[111,114]⟩]) = some (!w.atom && !w.qu) := by cases w <;> rfl
theorem inRel (w : W) : cmpB .inn (.str w.str) (.tup [.str ⟨#[98,101,108,111,119]⟩, .str ⟨#[115,97,109,101]⟩, .str ⟨#[102,105,114,115,116]⟩, .str ⟨#[108,97,115,116]⟩]) = some (w.atom && decide (w ≠ .yes)) := by cases w <;> rfl
section
variable {defs : Defs}
/-- bound_in at a saying without a name of its own -/
theorem bound_con {G : GT} {w : W} {l : List D} {bs : List (List D)} (hq : w.qu = false) (ha : w.atom = false) (hl : l.length ≤ 2) (h : bs.length = l.length) (hc : ∀ i (h1 : i < l.length) (h2 : i < bs.length), callG G 2 [l[i]] = .ok (.lst bs[i])) (hb : bs.flatten.length ≤ 1000) :
    F2.run FM CC G [.tup (.str w.str :: l)] = .ok (.lst bs.flatten) := by
  refine x_run ?_
  refine x_no (by simp [ev, evs, startD, ixD, atI0, inQuL, hq]) ?_
  refine x_set (d := .lst []) (by simp [ev, evs]) ?_
  show exs FM CC G _ [some (false, .tup (.str w.str :: l)), some (false, .lst []), none] = _
  have hin : ev CC G (.cmp .inn (.ix (.v 0) (.int 0)) (.tup (.c (.str ⟨#[110,111,116]⟩) (.c (.str ⟨#[97,110,100]⟩) (.c (.str ⟨#[111,114]⟩) .n))))) [some (false, .tup (.str w.str :: l)), some (false, .lst []), none] = .ok (.bl true) := by
    simp [ev, evs, ixD, atI0, inCon, hq, ha]
  match l, bs, h with
  | [], [], _ =>
    refine x_yesN (ρ' := [some (false, .tup [.str w.str]), some (false, .lst []), none]) hin ?_ (x_ret (by simp [ev]))
    exact x_for (ds := []) (by simp [evr, ev, isNop, intO, sl1, seqD]) f_nil rfl
  | [a], [x], _ =>
    have h1 := hc 0 (by simp) (by simp)
    have h1 : callG G 2 [a] = .ok (.lst x) := h1
    refine x_yesN (ρ' := [some (false, .tup [.str w.str, a]), some (false, .lst x), some (false, a)]) hin ?_ (x_ret (by simp [ev]))
    refine x_for (ds := [a]) (by simp [evr, ev, isNop, intO, sl1, seqD]) (f_cons (ρ1 := [some (false, .tup [.str w.str, a]), some (false, .lst []), some (false, a)]) rfl ?_ f_nil) rfl
    refine x_set (d := .lst x) ?_ rfl
    refine e_bin (x := .lst []) (y := .lst x) (by simp [ev]) (e_call1 (x := a) (by simp [ev]) h1) ?_
    exact add_lst (by simp at hb ⊢; omega)
  | [a, b], [x, y], _ =>
    have h1 : callG G 2 [a] = .ok (.lst x) := hc 0 (by simp) (by simp)
    have h2 : callG G 2 [b] = .ok (.lst y) := hc 1 (by simp) (by simp)
    have hb : x.length + y.length ≤ 1000 := by simpa using hb
    refine x_yesN (ρ' := [some (false, .tup [.str w.str, a, b]), some (false, .lst (x ++ y)), some (false, b)]) hin ?_ (x_ret (by simp [ev]))
    refine x_for (ds := [a, b]) (by simp [evr, ev, isNop, intO, sl1, seqD]) (f_cons (ρ1 := [some (false, .tup [.str w.str, a, b]), some (false, .lst []), some (false, a)]) (ρ2 := [some (false, .tup [.str w.str, a, b]), some (false, .lst x), some (false, a)]) rfl ?_ (f_cons (ρ1 := [some (false, .tup [.str w.str, a, b]), some (false, .lst x), some (false, b)]) rfl ?_ f_nil)) rfl
    · refine x_set (d := .lst x) ?_ rfl
      refine e_bin (x := .lst []) (y := .lst x) (by simp [ev]) (e_call1 (x := a) (by simp [ev]) h1) ?_
      exact add_lst (by simp; omega)
    · refine x_set (d := .lst (x ++ y)) ?_ rfl
      refine e_bin (x := .lst x) (y := .lst y) (by simp [ev]) (e_call1 (x := b) (by simp [ev]) h2) ?_
      exact add_lst (by omega)
  | [], _ :: _, h => cases h
  | [a], [], h => cases h
  | [a], _ :: _ :: _, h => cases h
  | [a, b], [], h => cases h
  | [a, b], [_], h => cases h
  | [a, b], _ :: _ :: _ :: _, h => cases h
  | _ :: _ :: _ :: _, _, h => simp at hl
theorem bound_atom {G : GT} {w : W} {l : List D} (ha : w.atom = true) : F2.run FM CC G [.tup (.str w.str :: l)] = .ok (.lst []) := by
  have hq : w.qu = false := by cases w <;> first | rfl | cases ha
  refine x_run ?_
  refine x_no (by simp [ev, evs, startD, ixD, atI0, inQuL, hq]) ?_
  refine x_set (d := .lst []) (by simp [ev, evs]) ?_
  show exs FM CC G _ [some (false, .tup (.str w.str :: l)), some (false, .lst []), none] = _
  exact x_no (by simp [ev, evs, ixD, atI0, inCon, hq, ha]) (x_ret (by simp [ev]))
theorem bound_qu {G : GT} {w : W} {x y : D} {b : List D} (hq : w.qu = true) (h : callG G 2 [y] = .ok (.lst b)) (hb : b.length ≤ 1000) : F2.run FM CC G [.tup [.str w.str, x, y]] = .ok (.lst (x :: b)) := by
  refine x_run ?_
  refine x_yes (by simp [ev, evs, startD, ixD, atI0, inQuL, hq]) (x_ret ?_)
  refine e_bin (x := .lst [x]) (y := .lst b) (by simp [ev, evs, startD, ixD, atI1]) (e_call1 (x := y) (by simp [ev, startD, ixD, atI2]) h) ?_
  exact add_lst (by simp; omega)
theorem c2 (h : HasS defs) : ∀ (s : Sy) (k : Nat), s.dp ≤ k → s.size ≤ 900 → callG (GA defs k) 2 [enc s] = .ok (.lst ((bnd s).map nm))
  | s, 0, hk, _ => by cases s <;> simp [Sy.dp] at hk
  | .yes, k + 1, _, _ => by rw [callG_at h.h2]; exact bound_atom (w := .yes) rfl
  | .one w i, k + 1, _, _ => by rw [callG_at h.h2]; cases w <;> exact bound_atom (w := w1 _) rfl
  | .two w i j, k + 1, _, _ => by rw [callG_at h.h2]; cases w <;> exact bound_atom (w := w2 _) rfl
  | .not s, k + 1, hk, hz => by
    rw [callG_at h.h2]
    have hz : 1 + s.size ≤ 900 := hz
    have hk : s.dp + 1 ≤ k + 1 := hk
    have := bound_con (G := GA defs k) (w := .not) (l := [enc s]) (bs := [(bnd s).map nm]) rfl rfl (by simp) rfl (fun i h1 h2 => by
      have : i = 0 := by simp at h1; omega
      subst this
      exact c2 h s k (by omega) (by omega)) (by have := bnd_len s; simp; omega)
    refine Eq.trans this ?_
    simp [bnd]
  | .con w s t, k + 1, hk, hz => by
    rw [callG_at h.h2]
    have hz : 1 + s.size + t.size ≤ 900 := hz
    have hk : max s.dp t.dp + 1 ≤ k + 1 := hk
    have := bound_con (G := GA defs k) (w := wc w) (l := [enc s, enc t]) (bs := [(bnd s).map nm, (bnd t).map nm]) (by cases w <;> rfl) (by cases w <;> rfl) (by simp) rfl (fun i h1 h2 => by
      have : i = 0 ∨ i = 1 := by simp at h1; omega
      rcases this with rfl | rfl
      · exact c2 h s k (by omega) (by omega)
      · exact c2 h t k (by omega) (by omega)) (by have := bnd_len s; have := bnd_len t; simp; omega)
    refine Eq.trans this ?_
    simp [bnd]
  | .qu w i s, k + 1, hk, hz => by
    rw [callG_at h.h2]
    have hz : 1 + s.size ≤ 900 := hz
    have hk : s.dp + 1 ≤ k + 1 := hk
    exact bound_qu (w := wq w) (by cases w <;> rfl) (c2 h s k (by omega) (by omega)) (by have := bnd_len s; simp; omega)
end
end Py
end
section
set_option maxHeartbeats 4000000
namespace Py
open PySem PySem.Spec PyProof.Rows L2 Py
/-- whether a name stands open -/
def opn : Sy → Nat → Bool
  | .yes, _ => false
  | .one _ i, k => i == k
  | .two _ i j, k => i == k || j == k
  | .not s, k => opn s k
  | .con _ s t, k => opn s k || opn t k
  | .qu _ i s, k => opn s k && k != i
def opL (s : Sy) : List Nat := pick5 (opn s)
theorem pick5_lt {p : Nat → Bool} {i : Nat} (h : i ∈ pick5 p) : i < 5 := List.mem_range.mp (List.mem_filter.mp h).1
theorem opn_lt : ∀ {s : Sy} {k : Nat}, s.wf → opn s k = true → k < 5
  | .one _ i, k, h, e => by have : i = k := by simpa [opn] using e
                            have h : i < 5 := h
                            omega
  | .two _ i j, k, h, e => by
    have h : i < 5 ∧ j < 5 := h
    have : i = k ∨ j = k := by simpa [opn] using e
    omega
  | .not s, k, h, e => opn_lt (s := s) h e
  | .con _ s t, k, h, e => by
    have : opn s k = true ∨ opn t k = true := by simpa [opn] using e
    rcases this with z | z
    · exact opn_lt h.1 z
    · exact opn_lt h.2 z
  | .qu _ i s, k, h, e => by
    have : opn s k = true ∧ ¬ k = i := by simpa [opn] using e
    exact opn_lt h.2 this.1
theorem cmp_nm (i j : Nat) : cmpB .ne (nm i) (nm j) = some (!decide (i = j)) := by
  show Option.map _ (eqB (nm i) (nm j)) = _
  have : eqB (nm i) (nm j) = some (eqP (nm i) (nm j)) := by
    unfold eqB; rw [if_pos (by simp [nm, nod, dep])]
  rw [this, eqP_nm]; rfl
/-- the state of the dict of found names -/
def foundD (l : List Nat) : D := .dic (l.map fun i => (.inr (nmS i) : Key)) (l.map fun _ => .bl true)
theorem put_nm (l : List Nat) (x : Nat) : (.dic (putKs (l.map fun i => (.inr (nmS i) : Key)) (l.map fun _ => D.bl true) (.inr (nmS x)) (.bl true)).1 (putKs (l.map fun i => (.inr (nmS i) : Key)) (l.map fun _ => D.bl true) (.inr (nmS x)) (.bl true)).2 : D) = foundD (if x ∈ l then l else l ++ [x]) := by
  have hk : keyIn (l.map fun i => (.inr (nmS i) : Key)) (.inr (nmS x)) = decide (x ∈ l) := by
    unfold keyIn
    rw [List.any_map, Bool.eq_iff_iff, List.any_eq_true, decide_eq_true_eq]
    constructor
    · rintro ⟨y, hy, e⟩
      have e : (Sum.inr (nmS y) : Key) = .inr (nmS x) := by simpa using e
      rw [← nmS_inj (Sum.inr.inj e)]; exact hy
    · exact fun h => ⟨x, h, by simp⟩
  unfold putKs
  rw [hk]
  by_cases q : x ∈ l
  · rw [decide_eq_true q, if_pos rfl, if_pos q]
    have : ∀ l : List Nat, replD (l.map fun i => (.inr (nmS i) : Key)) (l.map fun _ => D.bl true) (.inr (nmS x)) (.bl true) = l.map fun _ => D.bl true := by
      intro l
      induction l with
      | nil => rfl
      | cons y l ih =>
        simp only [List.map_cons, replD]
        split
        · first | rw [ih] | rfl
        · rw [ih]
    simp only [foundD, this]
  · rw [decide_eq_false q, if_neg Bool.false_ne_true, if_neg q]
    simp [foundD]
theorem put_step {G : GT} {ρ : Env} {i j : Nat} {x : Nat} {l : List Nat} (hi : ρ[i]? = some (some (true, foundD l))) (hj : varD j ρ = .ok (nm x)) (hl : l.length ≤ 100) : exs FM CC G (.c (.put i (.v j) (.bl true)) .n) ρ = .ok (.nx (ρ.set i (some (true, foundD (if x ∈ l then l else l ++ [x]))))) := by
  refine x_one ?_ rfl
  simp only [ex, putO, ev, RR.bind_ok]
  rw [hi]
  have hlim : (l.map fun i => (.inr (nmS i) : Key)).length < lim := by rw [List.length_map]; unfold lim; omega
  simp only [foundD]
  rw [hj, RR.bind_ok]
  simp only [nm, keyOfD]
  rw [if_pos hlim]
  have := put_nm l x
  unfold foundD at this
  rw [this]
theorem ddA_len : ∀ (l L : List Nat), (ddA L l).length ≤ L.length + l.length
  | [], L => by simp [ddA]
  | x :: l, L => by
    unfold ddA
    by_cases q : x ∈ L
    · rw [if_pos q]; have := ddA_len l L; simp; omega
    · rw [if_neg q]; have := ddA_len l (L ++ [x]); simp at this ⊢; omega
/-- for name in names: found[name] = True -/
theorem put_all {G : GT} {a b o : Option (Bool × D)} : ∀ (ns l : List Nat) (z : Option (Bool × D)), l.length + ns.length ≤ 100 → ∃ z', execFor (.v 4) (fun ρ => exs FM CC G (.c (.put 2 (.v 4) (.bl true)) .n) ρ) (ns.map nm) [a, b, some (true, foundD l), o, z] = .ok (.nx [a, b, some (true, foundD (ddA l ns)), o, z'])
  | [], l, z, _ => ⟨z, rfl⟩
  | x :: ns, l, z, h => by
    have hlen : (if x ∈ l then l else l ++ [x]).length ≤ l.length + 1 := by split <;> simp
    obtain ⟨z', e⟩ := put_all (G := G) (a := a) (b := b) (o := o) ns (if x ∈ l then l else l ++ [x]) (some (false, nm x)) (by simp at h; omega)
    refine ⟨z', ?_⟩
    rw [List.map_cons]
    refine f_cons (ρ1 := [a, b, some (true, foundD l), o, some (false, nm x)]) rfl (put_step (l := l) (x := x) rfl rfl (by simp at h; omega)) ?_
    exact e
end Py
end
section
set_option maxHeartbeats 4000000
namespace Py
open PySem PySem.Spec PyProof.Rows L2 Py
theorem ddA_app : ∀ (a b L : List Nat), ddA L (a ++ b) = ddA (ddA L a) b
  | [], b, L => rfl
  | x :: a, b, L => by
    rw [List.cons_append]
    show ddA (if x ∈ L then L else L ++ [x]) (a ++ b) = _
    rw [ddA_app a b]; rfl
def W.rel (w : W) : Bool := w.atom && decide (w ≠ .yes)
/-- what open_in tells of a part -/
def OpP (G : GT) (w : W) (p : D × List Nat) : Prop := (w.rel = true ∧ ∃ j, p.2 = [j] ∧ p.1 = nm j) ∨ (w.rel = false ∧ callG G 3 [p.1] = .ok (.lst (p.2.map nm)))
abbrev bodyO : Ss := .c (.forr (.v 4) (.seq (.ite (.cmp .inn (.v 1) (.tup (.c (.str ⟨#[98,101,108,111,119]⟩) (.c (.str ⟨#[115,97,109,101]⟩) (.c (.str ⟨#[102,105,114,115,116]⟩) (.c (.str ⟨#[108,97,115,116]⟩) .n)))))) (.lst (.c (.v 3) .n)) (.call 3 (.c (.v 3) .n)))) (.c (.put 2 (.v 4) (.bl true)) .n)) .n
theorem open_loop {G : GT} {w : W} {x : Option (Bool × D)} : ∀ (ps : List (D × List Nat)) (L : List Nat) (o z : Option (Bool × D)), (∀ p ∈ ps, OpP G w p) → L.length + (ps.map (·.2)).flatten.length ≤ 100 →
    ∃ o' z', execFor (.v 3) (fun ρ => exs FM CC G bodyO ρ) (ps.map (·.1)) [x, some (false, .str w.str), some (true, foundD L), o, z] = .ok (.nx [x, some (false, .str w.str), some (true, foundD (ddA L (ps.map (·.2)).flatten)), o', z'])
  | [], L, o, z, _, _ => ⟨o, z, rfl⟩
  | p :: ps, L, o, z, h, hl => by
    have hl : L.length + (p.2.length + (ps.map (·.2)).flatten.length) ≤ 100 := by simpa using hl
    have h1 := ddA_len p.2 L
    obtain ⟨z1, e1⟩ := put_all (G := G) (a := x) (b := some (false, .str w.str)) (o := some (false, p.1)) p.2 L z (by omega)
    obtain ⟨o', z', e2⟩ := open_loop ps (ddA L p.2) (some (false, p.1)) z1 (fun q hq => h q (List.mem_cons_of_mem _ hq)) (by omega)
    refine ⟨o', z', ?_⟩
    rw [List.map_cons, List.map_cons, List.flatten_cons, ddA_app]
    refine f_cons (ρ1 := [x, some (false, .str w.str), some (true, foundD L), some (false, p.1), z]) rfl ?_ e2
    refine x_for (ds := p.2.map nm) ?_ e1 rfl
    have hcond : ev CC G (.cmp .inn (.v 1) (.tup (.c (.str ⟨#[98,101,108,111,119]⟩) (.c (.str ⟨#[115,97,109,101]⟩) (.c (.str ⟨#[102,105,114,115,116]⟩) (.c (.str ⟨#[108,97,115,116]⟩) .n)))))) [x, some (false, .str w.str), some (true, foundD L), some (false, p.1), z] = .ok (.bl w.rel) := by
      simp [ev, evs, inRel, W.rel]
    have hit : ev CC G (.ite (.cmp .inn (.v 1) (.tup (.c (.str ⟨#[98,101,108,111,119]⟩) (.c (.str ⟨#[115,97,109,101]⟩) (.c (.str ⟨#[102,105,114,115,116]⟩) (.c (.str ⟨#[108,97,115,116]⟩) .n)))))) (.lst (.c (.v 3) .n)) (.call 3 (.c (.v 3) .n))) [x, some (false, .str w.str), some (true, foundD L), some (false, p.1), z] = .ok (.lst (p.2.map nm)) := by
      refine e_ite hcond rfl ?_
      rcases h p List.mem_cons_self with ⟨hr, j, hj, hp⟩ | ⟨hr, hc⟩
      · rw [hr, if_pos rfl, hj, hp]
        simp [ev, evs]
      · rw [hr, if_neg Bool.false_ne_true]
        exact e_call1 (x := p.1) (by simp [ev]) hc
    simp only [evr]
    rw [hit]; rfl
theorem open_con {G : GT} {w : W} {ps : List (D × List Nat)} (hq : w.qu = false) (h : ∀ p ∈ ps, OpP G w p) (hl : (ps.map (·.2)).flatten.length ≤ 100) (h5 : ∀ x ∈ (ps.map (·.2)).flatten, x < 5) :
    F3.run FM CC G [.tup (.str w.str :: ps.map (·.1))] = .ok (.lst ((pick5 (ps.map (·.2)).flatten.contains).map nm)) := by
  refine x_run ?_
  refine x_set (d := .str w.str) (by simp [ev, startD, ixD, atI0]) ?_
  show exs FM CC G _ [some (false, .tup (.str w.str :: ps.map (·.1))), some (false, .str w.str), none, none, none] = _
  refine x_no (by simp [ev, evs, inQuL, hq]) ?_
  refine x_set (d := .dic [] []) (by simp [ev]) ?_
  show exs FM CC G _ [some (false, .tup (.str w.str :: ps.map (·.1))), some (false, .str w.str), some (true, foundD []), none, none] = _
  obtain ⟨o', z', e⟩ := open_loop (G := G) (x := some (false, .tup (.str w.str :: ps.map (·.1)))) ps [] none none h (by simpa using hl)
  refine x_for (ds := ps.map (·.1)) (by simp [evr, ev, isNop, intO, sl1, seqD]) e (x_ret ?_)
  refine e_blt (d := foundD (ddN (ps.map (·.2)).flatten)) (by simp [ev, ddN]) ?_
  rw [← pick_dd]
  exact sd_nm (vs := (ddN (ps.map (·.2)).flatten).map fun _ => .bl true) (ddN_nodup _) fun x hx => h5 x (ddN_mem.mp hx)
theorem open_qu {G : GT} {w : W} {i : Nat} {y : D} {p : Nat → Bool} (hq : w.qu = true) (h : callG G 3 [y] = .ok (.lst ((pick5 p).map nm))) : F3.run FM CC G [.tup [.str w.str, nm i, y]] = .ok (.lst ((pick5 fun k => p k && k != i).map nm)) := by
  refine x_run ?_
  refine x_set (d := .str w.str) (by simp [ev, startD, ixD, atI0]) ?_
  show exs FM CC G _ [some (false, .tup [.str w.str, nm i, y]), some (false, .str w.str), none, none, none] = _
  refine x_yes (by simp [ev, evs, inQuL, hq]) (x_ret ?_)
  have e : pick5 (fun k => p k && k != i) = (pick5 p).filter fun k => k != i := by
    unfold pick5; rw [List.filter_filter]; exact List.filter_congr fun x _ => by rw [Bool.and_comm]
  rw [e]
  refine compF_filter (l := pick5 p) (fun k => k != i) (en := nm) (g := nm) ?_ fun k hk => ?_
  · have hc : ev CC G (.call 3 (.c (.ix (.v 0) (.int 2)) .n)) [some (false, .tup [.str w.str, nm i, y]), some (false, .str w.str), none, none, none] = .ok (.lst ((pick5 p).map nm)) := e_call1 (x := y) (by simp [ev, ixD, atI2]) h
    simp only [evr]
    rw [hc]; rfl
  · have hcm : ev CC G (.cmp .ne (.v 4) (.ix (.v 0) (.int 1))) [some (false, .tup [.str w.str, nm i, y]), some (false, .str w.str), none, none, some (false, nm k)] = .ok (.bl (k != i)) := by
      refine e_cmp (x := nm k) (y := nm i) (by simp [ev]) (by simp [ev, ixD, atI1]) ?_
      rw [cmp_nm]
      by_cases e : k = i <;> simp [e]
    simp only [turn_v, isNop]
    show (if false = true then _ else _) >>= _ = _
    rw [if_neg Bool.false_ne_true]
    show (ev CC G (.cmp .ne (.v 4) (.ix (.v 0) (.int 1))) [some (false, .tup [.str w.str, nm i, y]), some (false, .str w.str), none, none, some (false, nm k)] >>= truR) >>= _ = _
    rw [hcm]
    by_cases e : k = i <;> simp [e, ev, wipeD]
section
variable {defs : Defs}
theorem pick5_congr {p q : Nat → Bool} (h : ∀ k, k < 5 → p k = q k) : pick5 p = pick5 q := List.filter_congr fun x hx => h x (List.mem_range.mp hx)
theorem pick5_has {p : Nat → Bool} {k : Nat} (h : k < 5) : (pick5 p).contains k = p k := by
  rw [Bool.eq_iff_iff, List.contains_iff_mem]
  unfold pick5
  rw [List.mem_filter, List.mem_range]
  exact ⟨fun z => z.2, fun z => ⟨h, z⟩⟩
theorem pick5_len (p : Nat → Bool) : (pick5 p).length ≤ 5 := by
  unfold pick5
  have := List.length_filter_le p (List.range 5)
  simpa using this
theorem c3 (h : HasS defs) : ∀ (s : Sy) (k : Nat), s.wf → s.dp ≤ k → callG (GA defs k) 3 [enc s] = .ok (.lst ((opL s).map nm))
  | s, 0, _, hk => by cases s <;> simp [Sy.dp] at hk
  | .yes, k + 1, _, _ => by
    rw [callG_at h.h3]
    have := open_con (G := GA defs k) (w := .yes) (ps := []) rfl (fun p hp => by cases hp) (by simp) (fun x hx => by cases hx)
    refine Eq.trans this ?_
    rfl
  | .one w i, k + 1, hw, _ => by
    rw [callG_at h.h3]
    have hw : i < 5 := hw
    have := open_con (G := GA defs k) (w := w1 w) (ps := [(nm i, [i])]) (by cases w <;> rfl) (fun p hp => by rw [List.mem_singleton.mp hp]; exact .inl ⟨by cases w <;> rfl, i, rfl, rfl⟩) (by simp) (fun x hx => by
      have : x = i := by simpa using hx
      omega)
    refine Eq.trans this ?_
    refine congrArg (fun l => RR.ok (D.lst (l.map nm))) (pick5_congr fun k _ => ?_)
    by_cases e : k = i
    · subst e; simp [opn]
    · have e2 : ¬ i = k := fun q => e q.symm
      simp [opn, e, e2]
  | .two w i j, k + 1, hw, _ => by
    rw [callG_at h.h3]
    have hw : i < 5 ∧ j < 5 := hw
    have := open_con (G := GA defs k) (w := w2 w) (ps := [(nm i, [i]), (nm j, [j])]) (by cases w <;> rfl) (fun p hp => by
      rcases List.mem_cons.mp hp with rfl | hp
      · exact .inl ⟨by cases w <;> rfl, i, rfl, rfl⟩
      · rw [List.mem_singleton.mp hp]; exact .inl ⟨by cases w <;> rfl, j, rfl, rfl⟩) (by simp) (fun x hx => by
      have : x = i ∨ x = j := by simpa using hx
      omega)
    refine Eq.trans this ?_
    refine congrArg (fun l => RR.ok (D.lst (l.map nm))) (pick5_congr fun k _ => ?_)
    by_cases e : k = i
    · subst e; simp [opn]
    · have e2 : ¬ i = k := fun q => e q.symm
      by_cases e3 : k = j
      · subst e3; simp [opn]
      · have e4 : ¬ j = k := fun q => e3 q.symm
        simp [opn, e, e2, e3, e4]
  | .not s, k + 1, hw, hk => by
    rw [callG_at h.h3]
    have hk : s.dp + 1 ≤ k + 1 := hk
    have := open_con (G := GA defs k) (w := .not) (ps := [(enc s, opL s)]) rfl (fun p hp => by rw [List.mem_singleton.mp hp]; exact .inr ⟨rfl, c3 h s k hw (by omega)⟩) (by have := pick5_len (opn s); simp [opL]; omega) (fun x hx => pick5_lt (p := opn s) (by simpa [opL] using hx))
    refine Eq.trans this ?_
    refine congrArg (fun l => RR.ok (D.lst (l.map nm))) (pick5_congr fun k hk => ?_)
    have := pick5_has (p := opn s) hk
    simpa [opn, opL] using this
  | .con w s t, k + 1, hw, hk => by
    rw [callG_at h.h3]
    have hk : max s.dp t.dp + 1 ≤ k + 1 := hk
    have := open_con (G := GA defs k) (w := wc w) (ps := [(enc s, opL s), (enc t, opL t)]) (by cases w <;> rfl) (fun p hp => by
      rcases List.mem_cons.mp hp with rfl | hp
      · exact .inr ⟨by cases w <;> rfl, c3 h s k hw.1 (by omega)⟩
      · rw [List.mem_singleton.mp hp]; exact .inr ⟨by cases w <;> rfl, c3 h t k hw.2 (by omega)⟩) (by have := pick5_len (opn s); have := pick5_len (opn t); simp [opL]; omega) (fun x hx => by
      have : x ∈ opL s ∨ x ∈ opL t := by simpa using hx
      exact this.elim pick5_lt pick5_lt)
    refine Eq.trans this ?_
    refine congrArg (fun l => RR.ok (D.lst (l.map nm))) (pick5_congr fun k hk => ?_)
    have h1 := pick5_has (p := opn s) hk
    have h2 := pick5_has (p := opn t) hk
    have : ([opL s, opL t].flatten).contains k = ((opL s).contains k || (opL t).contains k) := by simp
    refine Eq.trans this ?_
    unfold opL
    rw [h1, h2]; rfl
  | .qu w i s, k + 1, hw, hk => by
    rw [callG_at h.h3]
    have hk : s.dp + 1 ≤ k + 1 := hk
    exact open_qu (w := wq w) (by cases w <;> rfl) (c3 h s k hw.2 (by omega))
end
end Py
end
section
set_option maxHeartbeats 4000000
namespace Py
open PySem PySem.Spec PyProof.Rows L2 Py
theorem enc_th : ∀ s : Sy, th (enc s) = true
  | .yes => rfl
  | .one w _ => by cases w <;> rfl
  | .two w _ _ => by cases w <;> rfl
  | .not s => by have := enc_th s; show (true && (th (enc s) && true)) = true; rw [this]; rfl
  | .con w s t => by have := enc_th s; have := enc_th t; show (true && (th (enc s) && (th (enc t) && true))) = true; simp [*]
  | .qu w i s => by have := enc_th s; show (true && (true && (th (enc s) && true))) = true; rw [this]; rfl
theorem enc_dep : ∀ s : Sy, dep (enc s) = s.dp + 1
  | .yes => rfl
  | .one w _ => by cases w <;> rfl
  | .two w _ _ => by cases w <;> rfl
  | .not s => by have := enc_dep s; simp only [enc, wdD, dep, deps, Sy.dp, this]; omega
  | .con w s t => by have := enc_dep s; have := enc_dep t; simp only [enc, wdD, dep, deps, Sy.dp, *]; omega
  | .qu w i s => by have := enc_dep s; simp only [enc, wdD, nm, dep, deps, Sy.dp, this]; omega
theorem size_pos (s : Sy) : 0 < s.size := by cases s <;> simp only [Sy.size] <;> omega
theorem dp_size : ∀ s : Sy, s.dp ≤ s.size
  | .yes => by simp [Sy.dp, Sy.size]
  | .one _ _ => by simp [Sy.dp, Sy.size]
  | .two _ _ _ => by simp [Sy.dp, Sy.size]
  | .not s => by have := dp_size s; simp only [Sy.dp, Sy.size]; omega
  | .con _ s t => by have := dp_size s; have := dp_size t; simp only [Sy.dp, Sy.size]; omega
  | .qu _ _ s => by have := dp_size s; simp only [Sy.dp, Sy.size]; omega
/-- what counts as a saying is one -/
theorem pN_dec : ∀ (n : Nat) (x : D) (b : List Nat), dep x ≤ n → 0 < pN x (b.map nm) → ∃ s : Sy, s.wf ∧ x = enc s ∧ s.fit b = true
  | 0, x, b, hd, _ => by exfalso; cases x <;> simp [dep] at hd
  | n + 1, x, b, hd, h => by
    have fin : ∀ s : Sy, s.wf → x = enc s → ∃ s : Sy, s.wf ∧ x = enc s ∧ s.fit b = true := fun s hw e => by
      refine ⟨s, hw, e, ?_⟩
      rw [e, pN_enc s b hw] at h
      split at h
      · assumption
      · omega
    match x, hd, h, fin with
    | .tup (.str s :: l), hd, h, fin =>
      cases hw : wd s with
      | none => rw [pN, hw] at h; simp at h
      | some w =>
        obtain rfl := wd_some hw
        rw [pN, hw] at h
        simp only at h
        by_cases hl : l.length = w.n
        · rw [if_pos hl] at h
          by_cases ha : w.atom = true
          · rw [if_pos ha] at h
            have hall : l.all isNm = true := by
              by_cases q : l.all isNm = true
              · exact q
              · rw [if_neg q] at h; omega
            match l, hl, hall with
            | [], hl, _ =>
              have : w = .yes := by cases w <;> first | rfl | (simp [W.n] at hl; done) | (simp [W.atom] at ha; done)
              subst this
              exact fin .yes trivial rfl
            | [a], hl, hall =>
              obtain ⟨i, hi, rfl⟩ := nm_of (List.all_eq_true.mp hall a (by simp))
              cases w <;> first | (simp [W.n] at hl; done) | (simp [W.atom] at ha; done) | exact fin (.one true i) hi rfl | exact fin (.one false i) hi rfl
            | [a, c], hl, hall =>
              obtain ⟨i, hi, rfl⟩ := nm_of (List.all_eq_true.mp hall a (by simp))
              obtain ⟨j, hj, rfl⟩ := nm_of (List.all_eq_true.mp hall c (by simp))
              cases w <;> first | (simp [W.n] at hl; done) | (simp [W.atom] at ha; done) | exact fin (.two true i j) ⟨hi, hj⟩ rfl | exact fin (.two false i j) ⟨hi, hj⟩ rfl
            | _ :: _ :: _ :: _, hl, _ => cases w <;> simp [W.n] at hl
          · rw [if_neg ha] at h
            by_cases hq : w.qu = true
            · rw [if_pos hq] at h
              match l, hl with
              | [a, y], hl =>
                by_cases h1 : (isNm a && !hasP a (b.map nm)) = true
                · rw [Bool.and_eq_true] at h1
                  obtain ⟨i, hi, rfl⟩ := nm_of h1.1
                  have h2 : 0 < pN y ((b ++ [i]).map nm) := by
                    rw [List.map_append]
                    have e1 : (isNm ((([nm i, y] : List D)).headD .non) && !hasP ((([nm i, y] : List D)).headD .non) (b.map nm)) = true := by rw [Bool.and_eq_true]; exact h1
                    rw [if_pos e1] at h
                    simp only [pNs, List.take, List.getD_cons_succ, List.getD_cons_zero] at h
                    split at h
                    · assumption
                    · omega
                  obtain ⟨s, h3, h4, h5⟩ := pN_dec n y (b ++ [i]) (by have := dep_split (w := .str w.str) (l := [nm i, y]) (d := y) (by simp); omega) h2
                  subst h4
                  cases w <;> first | (simp [W.qu] at hq; done) | exact fin (.qu true i s) ⟨hi, h3⟩ rfl | exact fin (.qu false i s) ⟨hi, h3⟩ rfl
                · have e1 : ¬ (isNm ((([a, y] : List D)).headD .non) && !hasP ((([a, y] : List D)).headD .non) (b.map nm)) = true := h1
                  rw [if_neg e1] at h; omega
              | [], hl => cases w <;> first | (simp [W.n] at hl; done) | (simp [W.qu] at hq; done)
              | [_], hl => cases w <;> first | (simp [W.n] at hl; done) | (simp [W.qu] at hq; done)
              | _ :: _ :: _ :: _, hl => cases w <;> simp [W.n] at hl
            · rw [if_neg hq] at h
              have h0 : (pNs l (b.map nm)).contains 0 = false := by
                by_cases q : (pNs l (b.map nm)).contains 0 = true
                · rw [if_pos q] at h; omega
                · exact Bool.eq_false_iff.mpr q
              have each : ∀ d ∈ l, ∃ s : Sy, s.wf ∧ d = enc s ∧ s.fit b = true := fun d hd' => by
                refine pN_dec n d b (by have := dep_split (w := .str w.str) (l := l) (d := d) hd'; omega) ?_
                rcases Nat.eq_zero_or_pos (pN d (b.map nm)) with z | z
                · exfalso
                  have : (pNs l (b.map nm)).contains 0 = true := by
                    rw [List.contains_iff_mem, pNs_map, List.mem_map]; exact ⟨d, hd', z⟩
                  rw [h0] at this; cases this
                · exact z
              match l, hl, each with
              | [], hl, _ => cases w <;> first | (simp [W.n] at hl; done) | exact (ha rfl).elim | exact (hq rfl).elim
              | [a], hl, each =>
                obtain ⟨s, h1, rfl, _⟩ := each a (by simp)
                cases w <;> first | (simp [W.n] at hl; done) | exact (ha rfl).elim | exact (hq rfl).elim | exact fin (.not s) h1 rfl
              | [a, c], hl, each =>
                obtain ⟨s, h1, rfl, _⟩ := each a (by simp)
                obtain ⟨t, h2, rfl, _⟩ := each c (by simp)
                cases w <;> first | (simp [W.n] at hl; done) | exact (ha rfl).elim | exact (hq rfl).elim | exact fin (.con true s t) ⟨h1, h2⟩ rfl | exact fin (.con false s t) ⟨h1, h2⟩ rfl
              | _ :: _ :: _ :: _, hl, _ => cases w <;> simp [W.n] at hl
        · rw [if_neg hl] at h; omega
    | .tup [], _, h, _ => simp [pN] at h
    | .tup (.non :: _), _, h, _ => simp [pN] at h
    | .tup (.bl _ :: _), _, h, _ => simp [pN] at h
    | .tup (.int _ :: _), _, h, _ => simp [pN] at h
    | .tup (.tup _ :: _), _, h, _ => simp [pN] at h
    | .tup (.lst _ :: _), _, h, _ => simp [pN] at h
    | .tup (.dic _ _ :: _), _, h, _ => simp [pN] at h
    | .tup (.scr _ :: _), _, h, _ => simp [pN] at h
    | .tup (.obj _ :: _), _, h, _ => simp [pN] at h
    | .tup (.glo _ :: _), _, h, _ => simp [pN] at h
    | .non, _, h, _ => simp [pN] at h
    | .bl _, _, h, _ => simp [pN] at h
    | .int _, _, h, _ => simp [pN] at h
    | .str _, _, h, _ => simp [pN] at h
    | .lst _, _, h, _ => simp [pN] at h
    | .dic _ _, _, h, _ => simp [pN] at h
    | .scr _, _, h, _ => simp [pN] at h
    | .obj _, _, h, _ => simp [pN] at h
    | .glo _, _, h, _ => simp [pN] at h
/-- no name is both called and open -/
def clean (s : Sy) : Bool := (opL s).all fun i => !(bnd s).contains i
structure Good (s : Sy) : Prop where
  wf : s.wf
  fit : s.fit [] = true
  size : s.size ≤ 16
  clean : clean s = true
end Py
end
section
set_option maxHeartbeats 4000000
namespace Py
open PySem PySem.Spec PyProof.Rows L2 Py
def IsSay (x : D) : Prop := ∃ s, Good s ∧ x = enc s
theorem nods_nm : ∀ l : List Nat, nods (l.map nm) = true
  | [] => rfl
  | i :: l => by show (true && nods (l.map nm)) = true; rw [nods_nm l]; rfl
theorem in_nm (i : Nat) (l : List Nat) : cmpB .inn (nm i) (.lst (l.map nm)) = some (l.contains i) := by
  refine Eq.trans (b := inB (nm i) (.lst (l.map nm))) rfl ?_
  rw [(in_lst (x := nm i) rfl (nods_nm l) (by simp [nm, dep])).2, hasP_nm]
abbrev badS : Str := ⟨#[66,97,100,83,97,121,105,110,103]⟩
theorem e_chn {C : List D} {G : GT} {o o2 : Cop} {a b c : E} {ρ : Env} {x y z : D} {k r : Bool} (h1 : ev C G a ρ = .ok x) (h2 : ev C G b ρ = .ok y) (h3 : ev C G c ρ = .ok z) (h4 : cmpB o x y = some k) (h5 : k = true → cmpB o2 y z = some r) : ev C G (.chn o o2 a b c) ρ = .ok (.bl (k && r)) := by
  simp only [ev]
  rw [h1, RR.bind_ok, h2, RR.bind_ok, h4]
  cases k with
  | false => rfl
  | true =>
    show (ev C G c ρ >>= _) = _
    rw [h3, RR.bind_ok, h5 rfl]; rfl
theorem e_c1 {C : List D} {G : GT} {f : Nat} {a : E} {ρ : Env} {x : D} (h1 : ev C G a ρ = .ok x) : ev C G (.call f (.c a .n)) ρ = callG G f [x] := by
  simp only [ev, evs]; rw [h1]; rfl
theorem e_c2 {C : List D} {G : GT} {f : Nat} {a b : E} {ρ : Env} {x y : D} (h1 : ev C G a ρ = .ok x) (h2 : ev C G b ρ = .ok y) : ev C G (.call f (.c a (.c b .n))) ρ = callG G f [x, y] := by
  simp only [ev, evs]; rw [h1, h2]; rfl
section
variable {defs : Defs}
theorem c4_chn (h : HasS defs) {x : D} (hx : th x = true) (hd : dep x ≤ 58) (k : Nat) : ev CC (GA defs (k + 61)) (.chn .le .le (.int 1) (.call 1 (.c (.v 0) (.c (.tup .n) .n))) (.con 0)) [some (false, x), none] = .ok (.bl (decide (1 ≤ pN x []) && decide (pN x [] ≤ 16))) := by
  have e1 := c1 h 60 x [] k hx (by omega) (by omega) rfl (by simp)
  refine e_chn (x := .int 1) (y := .int ((pN x [] : Nat) : Int)) (z := .int 16) (by simp [ev]) (e_call2 (x := x) (y := .tup []) (by simp [ev]) (by simp [ev, evs]) e1) rfl ?_ ?_
  · rw [c_le]; congr 2; simp; omega
  · intro _; rw [c_le]; congr 2; simp; omega
theorem c4_enc (h : HasS defs) {s : Sy} (hw : s.wf) (hf : s.fit [] = true) (hs : s.size ≤ 16) (k : Nat) : callG (GA defs (k + 62)) 4 [enc s] = .ok (.bl (clean s)) := by
  rw [callG_at h.h4]
  have hd := enc_dep s
  have hp := dp_size s
  have hc := c4_chn h (enc_th s) (by omega) k
  have hz : pN (enc s) [] = s.size := by
    have := pN_enc s [] hw
    rw [hf] at this
    simpa using this
  have h1 := size_pos s
  rw [hz, decide_eq_true (by omega : 1 ≤ s.size), decide_eq_true hs] at hc
  refine x_run ?_
  refine x_no (e_nt (x := .bl true) hc rfl) (x_ret ?_)
  have h3 := c3 h s (k + 61) hw (by omega)
  have h2 := c2 h s (k + 61) (by omega) (by omega)
  have hcomp : ev CC (GA defs (k + 61)) (.comp (.v 1) [1] (.seq (.call 3 (.c (.v 0) .n))) .nop (.cmp .inn (.v 1) (.call 2 (.c (.v 0) .n)))) [some (false, enc s), none] = .ok (.lst (((opL s).map fun i => (bnd s).contains i).map D.bl)) := by
    rw [List.map_map]
    refine compF_map (l := opL s) (en := nm) (g := fun i => .bl ((bnd s).contains i)) ?_ fun i hi => ?_
    · simp only [evr]; rw [e_call1 (x := enc s) (by simp [ev]) h3]; rfl
    · have := e_cmp (C := CC) (G := GA defs (k + 61)) (o := .inn) (a := .v 1) (b := .call 2 (.c (.v 0) .n)) (ρ := [some (false, enc s), some (false, nm i)]) (by simp [ev]) (e_call1 (x := enc s) (by simp [ev]) h2) (in_nm i (bnd s))
      simp only [turn_v, isNop]
      show (ev _ _ _ [some (false, enc s), some (false, nm i)] >>= _) = _
      rw [this]; rfl
  have := e_nt (x := .bl (((opL s).map fun i => (bnd s).contains i).any id)) (e_blt (f := .any) hcomp (any_g _)) rfl
  refine Eq.trans this ?_
  congr 2
  unfold clean
  rw [List.any_map, List.not_any_eq_all_not]; rfl
theorem pN_pos {x : D} (h : 1 ≤ pN x []) : ∃ s : Sy, s.wf ∧ x = enc s ∧ s.fit [] = true ∧ pN x [] = s.size := by
  obtain ⟨s, hw, rfl, hf⟩ := pN_dec (dep x) x [] (Nat.le_refl _) h
  refine ⟨s, hw, rfl, hf, ?_⟩
  have := pN_enc s [] hw
  rw [hf] at this
  simpa using this
theorem c4 (h : HasS defs) {x : D} (hx : th x = true) (hd : dep x ≤ 58) (k : Nat) : (∀ s, Good s → x = enc s → callG (GA defs (k + 62)) 4 [x] = .ok (.bl true)) ∧ (¬ IsSay x → callG (GA defs (k + 62)) 4 [x] = .ok (.bl false)) := by
  constructor
  · intro s g e
    subst e
    rw [c4_enc h g.wf g.fit g.size k, g.clean]
  · intro hn
    by_cases hq : 1 ≤ pN x [] ∧ pN x [] ≤ 16
    · obtain ⟨s, hw, rfl, hf, hz⟩ := pN_pos hq.1
      rw [hz] at hq
      rw [c4_enc h hw hf hq.2 k, show clean s = false from Bool.eq_false_iff.mpr fun c => hn ⟨s, ⟨hw, hf, hq.2, c⟩, rfl⟩]
    · have hb : (decide (1 ≤ pN x []) && decide (pN x [] ≤ 16)) = false := by
        rw [Bool.and_eq_false_iff]
        by_cases q1 : 1 ≤ pN x []
        · right; exact decide_eq_false fun z => hq ⟨q1, z⟩
        · left; exact decide_eq_false q1
      rw [callG_at h.h4]
      refine x_run ?_
      refine x_yes (e_nt (x := .bl false) (by have := c4_chn h hx hd k; rw [hb] at this; exact this) rfl) (x_ret rfl)
theorem c5 (h : HasS defs) {x : D} (hx : th x = true) (hd : dep x ≤ 58) (k : Nat) : (∀ s, Good s → x = enc s → callG (GA defs (k + 63)) 5 [x] = .ok .non) ∧ (¬ IsSay x → callG (GA defs (k + 63)) 5 [x] = .ex badS) := by
  obtain ⟨h1, h2⟩ := c4 h hx hd k
  constructor
  · intro s g e
    rw [callG_at h.h5, run_eq]
    have : exs FM CC (GA defs (k + 62)) F5.body (startD F5.N.length [x]) = .ok (.nx [some (false, x)]) :=
      x_no (e_nt (x := .bl true) (e_call1 (x := x) (by simp [ev, startD]) (h1 s g e)) rfl) rfl
    rw [this]; rfl
  · intro hn
    rw [callG_at h.h5]
    refine x_runX ?_
    exact x_yesX (e_nt (x := .bl false) (e_call1 (x := x) (by simp [ev, startD]) (h2 hn)) rfl) rfl
theorem c6 (h : HasS defs) {x : D} (hx : th x = true) (hd : dep x ≤ 58) (k : Nat) : (∀ s, Good s → x = enc s → callG (GA defs (k + 64)) 6 [x] = .ok (.lst ((opL s).map nm))) ∧ (¬ IsSay x → callG (GA defs (k + 64)) 6 [x] = .ex badS) := by
  obtain ⟨h1, h2⟩ := c5 h hx hd k
  constructor
  · intro s g e
    rw [callG_at h.h6]
    refine x_run ?_
    have e3 : callG (GA defs (k + 63)) 3 [x] = .ok (.lst ((opL s).map nm)) := by
      rw [e]; exact c3 h s (k + 63) g.wf (by have := dp_size s; have := g.size; omega)
    refine x_one (ρ' := [some (false, x)]) ?_ (x_ret (e_call1 (x := x) (by simp [ev]) e3))
    simp only [ex]
    rw [e_call1 (x := x) (by simp [ev, startD]) (h1 s g e)]; rfl
  · intro hn
    rw [callG_at h.h6]
    refine x_runX ?_
    show exs FM CC _ (.c (.exp (.call 5 (.c (.v 0) .n))) _) _ = _
    simp only [exs, ex]
    have : ev CC (GA defs (k + 63)) (.call 5 (.c (.v 0) .n)) (startD F6.N.length [x]) = .ex badS := by
      rw [e_c1 (x := x) (by simp [ev, startD])]
      exact h2 hn
    rw [this]; rfl
end
end Py
end
section
set_option maxHeartbeats 4000000
namespace Py
open PySem PySem.Spec PyProof.Rows L2 Py
theorem add_loop {fm : List Md} {C : List D} {G : GT} {e : E} {x : Option (Bool × D)} {r : Env} (hm : (E.bin .add (.v 1) e).md fm = .sh) : ∀ (ps : List (D × List D)) (acc : List D) (o : Option (Bool × D)), (∀ p ∈ ps, ∀ acc', ev C G e (x :: some (false, .lst acc') :: some (false, p.1) :: r) = .ok (.lst p.2)) → acc.length + (ps.map (·.2)).flatten.length ≤ 1000000 →
    ∃ o', execFor (.v 2) (fun ρ => exs fm C G (.c (.set 1 (.bin .add (.v 1) e)) .n) ρ) (ps.map (·.1)) (x :: some (false, .lst acc) :: o :: r) = .ok (.nx (x :: some (false, .lst (acc ++ (ps.map (·.2)).flatten)) :: o' :: r))
  | [], acc, o, _, _ => ⟨o, by simp [execFor]⟩
  | p :: ps, acc, o, h, hl => by
    have hl : acc.length + (p.2.length + (ps.map (·.2)).flatten.length) ≤ 1000000 := by simpa using hl
    obtain ⟨o', e2⟩ := add_loop (x := x) (r := r) hm ps (acc ++ p.2) (some (false, p.1)) (fun q hq => h q (List.mem_cons_of_mem _ hq)) (by rw [List.length_append]; omega)
    refine ⟨o', ?_⟩
    rw [List.map_cons, List.map_cons, List.flatten_cons, ← List.append_assoc]
    refine f_cons (ρ1 := x :: some (false, .lst acc) :: some (false, p.1) :: r) rfl ?_ e2
    refine x_set (d := .lst (acc ++ p.2)) (e_bin (x := .lst acc) (y := .lst p.2) (by simp [ev]) (h p List.mem_cons_self acc) (add_lst (by omega))) ?_
    have e3 : mkV ((E.bin .add (.v 1) e).md fm) (.lst (acc ++ p.2)) = (false, .lst (acc ++ p.2)) := by rw [hm]; rfl
    rw [e3]; rfl
/-- a part: a name, or a saying -/
def LoP (G : GT) (p : D × List Nat) : Prop := (∃ j, p.2 = [j] ∧ p.1 = nm j) ∨ ((∃ l, p.1 = .tup l) ∧ callG G 14 [p.1] = .ok (.lst (p.2.map nm)))
theorem flat_nm : ∀ ps : List (D × List Nat), ((ps.map fun p => (p.1, p.2.map nm)).map (·.2)).flatten = ((ps.map (·.2)).flatten).map nm
  | [] => rfl
  | p :: ps => by
    have := flat_nm ps
    simp only [List.map_cons, List.flatten_cons, List.map_append] at this ⊢
    rw [this]
theorem lopen_con {G : GT} {w : W} {ps : List (D × List Nat)} (hq : w.qu = false) (h : ∀ p ∈ ps, LoP G p) (hl : (ps.map (·.2)).flatten.length ≤ 50) (h5 : ∀ x ∈ (ps.map (·.2)).flatten, x < 5) :
    F14.run FM CC G [.tup (.str w.str :: ps.map (·.1))] = .ok (.lst ((pick5 (ps.map (·.2)).flatten.contains).map nm)) := by
  refine x_run ?_
  refine x_no (by simp [ev, evs, startD, ixD, atI0, inQuL, hq]) ?_
  refine x_set (d := .lst []) (by simp [ev, evs]) ?_
  show exs FM CC G _ [some (false, .tup (.str w.str :: ps.map (·.1))), some (false, .lst []), none, none] = _
  obtain ⟨o', e⟩ := add_loop (fm := FM) (C := CC) (G := G) (e := .ite (.isi .tuple (.v 2)) (.call 14 (.c (.v 2) .n)) (.lst (.c (.v 2) .n))) (x := some (false, .tup (.str w.str :: ps.map (·.1)))) (r := [none]) rfl (ps.map fun p => (p.1, p.2.map nm)) [] none (fun q hq acc' => by
    obtain ⟨p, hp, rfl⟩ := List.mem_map.mp hq
    rcases h p hp with ⟨j, hj, hn⟩ | ⟨⟨l, hl⟩, hc⟩
    · refine e_ite (x := .bl false) (k := false) (by simp [ev, hn, nm, isiR, opq, isTy]) rfl ?_
      rw [if_neg Bool.false_ne_true]
      simp [ev, evs, hj, hn]
    · refine e_ite (x := .bl true) (k := true) (by simp [ev, hl, isiR, opq, isTy]) rfl ?_
      rw [if_pos rfl]
      exact e_call1 (x := p.1) (by simp [ev]) hc) (by rw [flat_nm]; simp only [List.length_nil, List.length_map]; omega)
  rw [flat_nm, List.map_map] at e
  have e0 : ev CC G (.sl (.v 0) (.int 1) .nop) [some (false, .tup (.str w.str :: ps.map (·.1))), some (false, .lst []), none, none] = .ok (.tup (ps.map (·.1))) := by
    simp [ev, isNop, intO, sl1]
  refine x_for (ds := ps.map (·.1)) (by simp only [evr]; rw [e0]; rfl) e (x_ret ?_)
  simp only [ev]
  rw [varD_s, varD_0, List.nil_append, RR.bind_ok]
  exact ss_nm h5 (by unfold scanBound; omega)
theorem lopen_qu {G : GT} {w : W} {i : Nat} {y : D} {p : Nat → Bool} (hq : w.qu = true) (h : callG G 14 [y] = .ok (.lst ((pick5 p).map nm))) : F14.run FM CC G [.tup [.str w.str, nm i, y]] = .ok (.lst ((pick5 fun k => p k && k != i).map nm)) := by
  refine x_run ?_
  refine x_yes (by simp [ev, evs, startD, ixD, atI0, inQuL, hq]) (x_ret ?_)
  show ev CC G _ [some (false, .tup [.str w.str, nm i, y]), none, none, none] = _
  have e : pick5 (fun k => p k && k != i) = (pick5 p).filter fun k => k != i := by
    unfold pick5; rw [List.filter_filter]; exact List.filter_congr fun x _ => by rw [Bool.and_comm]
  rw [e]
  refine compF_filter (l := pick5 p) (fun k => k != i) (en := nm) (g := nm) ?_ fun k hk => ?_
  · have hc : ev CC G (.call 14 (.c (.ix (.v 0) (.int 2)) .n)) [some (false, .tup [.str w.str, nm i, y]), none, none, none] = .ok (.lst ((pick5 p).map nm)) := e_call1 (x := y) (by simp [ev, ixD, atI2]) h
    simp only [evr]
    rw [hc]; rfl
  · have hcm : ev CC G (.cmp .ne (.v 3) (.ix (.v 0) (.int 1))) [some (false, .tup [.str w.str, nm i, y]), none, none, some (false, nm k)] = .ok (.bl (k != i)) := by
      refine e_cmp (x := nm k) (y := nm i) (by simp [ev]) (by simp [ev, ixD, atI1]) ?_
      rw [cmp_nm]
      by_cases e : k = i <;> simp [e]
    simp only [turn_v, isNop]
    show (if false = true then _ else _) >>= _ = _
    rw [if_neg Bool.false_ne_true]
    show (ev CC G (.cmp .ne (.v 3) (.ix (.v 0) (.int 1))) [some (false, .tup [.str w.str, nm i, y]), none, none, some (false, nm k)] >>= truR) >>= _ = _
    rw [hcm]
    by_cases e : k = i <;> simp [e, ev, wipeD]
theorem enc_tup (s : Sy) : ∃ l, enc s = .tup l := by cases s <;> exact ⟨_, rfl⟩
section
variable {defs : Defs}
theorem c14 (h : defs.lookup 14 = some F14) : ∀ (s : Sy) (k : Nat), s.wf → s.dp ≤ k → callG (GA defs k) 14 [enc s] = .ok (.lst ((opL s).map nm))
  | s, 0, _, hk => by cases s <;> simp [Sy.dp] at hk
  | .yes, k + 1, _, _ => by
    rw [callG_at h]
    have := lopen_con (G := GA defs k) (w := .yes) (ps := []) rfl (fun p hp => by cases hp) (by simp) (fun x hx => by cases hx)
    refine Eq.trans this ?_
    rfl
  | .one w i, k + 1, hw, _ => by
    rw [callG_at h]
    have hw : i < 5 := hw
    have := lopen_con (G := GA defs k) (w := w1 w) (ps := [(nm i, [i])]) (by cases w <;> rfl) (fun p hp => by rw [List.mem_singleton.mp hp]; exact .inl ⟨i, rfl, rfl⟩) (by simp) (fun x hx => by
      have : x = i := by simpa using hx
      omega)
    refine Eq.trans this ?_
    refine congrArg (fun l => RR.ok (D.lst (l.map nm))) (pick5_congr fun k _ => ?_)
    by_cases e : k = i
    · subst e; simp [opn]
    · have e2 : ¬ i = k := fun q => e q.symm
      simp [opn, e, e2]
  | .two w i j, k + 1, hw, _ => by
    rw [callG_at h]
    have hw : i < 5 ∧ j < 5 := hw
    have := lopen_con (G := GA defs k) (w := w2 w) (ps := [(nm i, [i]), (nm j, [j])]) (by cases w <;> rfl) (fun p hp => by
      rcases List.mem_cons.mp hp with rfl | hp
      · exact .inl ⟨i, rfl, rfl⟩
      · rw [List.mem_singleton.mp hp]; exact .inl ⟨j, rfl, rfl⟩) (by simp) (fun x hx => by
      have : x = i ∨ x = j := by simpa using hx
      omega)
    refine Eq.trans this ?_
    refine congrArg (fun l => RR.ok (D.lst (l.map nm))) (pick5_congr fun k _ => ?_)
    by_cases e : k = i
    · subst e; simp [opn]
    · have e2 : ¬ i = k := fun q => e q.symm
      by_cases e3 : k = j
      · subst e3; simp [opn]
      · have e4 : ¬ j = k := fun q => e3 q.symm
        simp [opn, e, e2, e3, e4]
  | .not s, k + 1, hw, hk => by
    rw [callG_at h]
    have hk : s.dp + 1 ≤ k + 1 := hk
    have := lopen_con (G := GA defs k) (w := .not) (ps := [(enc s, opL s)]) rfl (fun p hp => by rw [List.mem_singleton.mp hp]; exact .inr ⟨enc_tup s, c14 h s k hw (by omega)⟩) (by have := pick5_len (opn s); simp [opL]; omega) (fun x hx => pick5_lt (p := opn s) (by simpa [opL] using hx))
    refine Eq.trans this ?_
    refine congrArg (fun l => RR.ok (D.lst (l.map nm))) (pick5_congr fun k hk => ?_)
    have := pick5_has (p := opn s) hk
    simpa [opn, opL] using this
  | .con w s t, k + 1, hw, hk => by
    rw [callG_at h]
    have hk : max s.dp t.dp + 1 ≤ k + 1 := hk
    have := lopen_con (G := GA defs k) (w := wc w) (ps := [(enc s, opL s), (enc t, opL t)]) (by cases w <;> rfl) (fun p hp => by
      rcases List.mem_cons.mp hp with rfl | hp
      · exact .inr ⟨enc_tup s, c14 h s k hw.1 (by omega)⟩
      · rw [List.mem_singleton.mp hp]; exact .inr ⟨enc_tup t, c14 h t k hw.2 (by omega)⟩) (by have := pick5_len (opn s); have := pick5_len (opn t); simp [opL]; omega) (fun x hx => by
      have : x ∈ opL s ∨ x ∈ opL t := by simpa using hx
      exact this.elim pick5_lt pick5_lt)
    refine Eq.trans this ?_
    refine congrArg (fun l => RR.ok (D.lst (l.map nm))) (pick5_congr fun k hk => ?_)
    have h1 := pick5_has (p := opn s) hk
    have h2 := pick5_has (p := opn t) hk
    have : ([opL s, opL t].flatten).contains k = ((opL s).contains k || (opL t).contains k) := by simp
    refine Eq.trans this ?_
    unfold opL
    rw [h1, h2]; rfl
  | .qu w i s, k + 1, hw, hk => by
    rw [callG_at h]
    have hk : s.dp + 1 ≤ k + 1 := hk
    exact lopen_qu (w := wq w) (by cases w <;> rfl) (c14 h s k hw.2 (by omega))
end
end Py
end
section
set_option maxHeartbeats 4000000
namespace Py
open PySem PySem.Spec PyProof.Rows L2 Py
section
variable {fm : List Md} {C : List D} {G : GT}
theorem x_tpar {i j : Nat} {a b : E} {l : Ss} {ρ : Env} {x y : D} {r : RR Out} (h1 : ev C G a ρ = .ok x) (h2 : ev C G b ρ = .ok y) (h3 : exs fm C G l (setD [i, j] [x, y] ρ) = r) : exs fm C G (.c (.tpar i j (.c a (.c b .n))) l) ρ = r := by
  refine x_one (ρ' := setD [i, j] [x, y] ρ) ?_ h3
  simp only [ex, evs]
  rw [h1, h2]; rfl
theorem e_ix {a b : E} {ρ : Env} {x y r : D} (h1 : ev C G a ρ = .ok x) (h2 : ev C G b ρ = .ok y) (h3 : ixD x y = some r) : ev C G (.ix a b) ρ = .ok r := by
  simp only [ev]; rw [h1, RR.bind_ok, h2, RR.bind_ok, h3]; rfl
end
/-- the first names -/
def nmsD (j : Nat) : D := .lst ((List.range j).map nm)
theorem nms_ix {j : Nat} (r : Int) (h0 : 0 ≤ r) (h1 : r < (j : Int)) : ∃ i : Nat, i < j ∧ ixD (nmsD j) (.int r) = some (nm i) := by
  refine ⟨r.toNat, by omega, ?_⟩
  show L2.atI _ r = _
  rw [atI_ok _ _ h0 (by simpa using h1)]
  simp
theorem len_nms {j : Nat} : Blt.len.g [nmsD j] = some (.int ((j : Nat) : Int)) := by
  show some (D.int (((List.range j).map nm).length : Nat)) = _
  simp
section
variable {defs : Defs}
structure SyIn (s : Sy) (j d : Nat) : Prop where
  wf : s.wf
  opn : ∀ i, opn s i = true → i < j
  bnd : ∀ i ∈ bnd s, j ≤ i
  dp : s.dp ≤ d
  fit : ∀ b : List Nat, (∀ i ∈ b, i < j) → s.fit b = true
theorem pick_name {G : GT} {ρ : Env} {j : Nat} (hj : 0 < j) {more : Int} {m : Int} (hm : 0 < m) (hm2 : m < 1000) (h0 : varD 0 ρ = .ok (.int more)) (h1 : varD 1 ρ = .ok (nmsD j)) : ∃ i, i < j ∧ ev CC G (.ix (.v 1) (.bin .mod (.bin .fdiv (.v 0) (.int m)) (.blt .len (.c (.v 1) .n)))) ρ = .ok (nm i) := by
  have hb : 0 ≤ (more / m) % (j : Int) := Int.emod_nonneg _ (by omega)
  have hb2 : (more / m) % (j : Int) < (j : Int) := Int.emod_lt_of_pos _ (by omega)
  obtain ⟨i, hi, e⟩ := nms_ix _ hb hb2
  refine ⟨i, hi, e_ix (x := nmsD j) (y := .int ((more / m) % (j : Int))) (by simp only [ev]; exact h1) ?_ e⟩
  refine e_bin (x := .int (more / m)) (y := .int ((j : Nat) : Int)) (e_bin (x := .int more) (y := .int m) (by simp only [ev]; exact h0) rfl (b_fdiv _ _ hm (by omega))) (e_blt (d := nmsD j) (by simp only [ev]; exact h1) len_nms) (b_mod _ _ (by omega))
theorem c11 (h : defs.lookup 11 = some F11) (k : Nat) (more : Int) {j : Nat} (hj : 0 < j) (hj5 : j ≤ 5) : ∃ s, SyIn s j 1 ∧ callG (GA defs (k + 1)) 11 [.int more, nmsD j] = .ok (enc s) := by
  obtain ⟨x, hx, e1⟩ := pick_name (G := GA defs k) (ρ := [some (false, .int more), some (false, nmsD j), none, none, none]) hj (more := more) (m := 8) (by decide) (by decide) rfl rfl
  obtain ⟨y, hy, e2⟩ := pick_name (G := GA defs k) (ρ := [some (false, .int more), some (false, nmsD j), none, none, none]) hj (more := more) (m := 64) (by decide) (by decide) rfl rfl
  have i2 : ∀ (w : Bool) (a b : Nat), a < j → b < j → SyIn (.two w a b) j 1 := fun w a b ha hb => by
    refine ⟨⟨by omega, by omega⟩, fun i hi => ?_, fun i hi => (nomatch hi), Nat.le_refl _, fun _ _ => rfl⟩
    have : a = i ∨ b = i := by simpa [Py.opn] using hi
    omega
  have i1 : ∀ (w : Bool) (a : Nat), a < j → SyIn (.one w a) j 1 := fun w a ha => by
    refine ⟨show a < 5 by omega, fun i hi => ?_, fun i hi => (nomatch hi), Nat.le_refl _, fun _ _ => rfl⟩
    have : a = i := by simpa [Py.opn] using hi
    omega
  have i0 : SyIn .yes j 1 := ⟨trivial, fun i hi => (nomatch hi), fun i hi => (nomatch hi), Nat.le_refl _, fun _ _ => rfl⟩
  have r0 : 0 ≤ more % 8 := Int.emod_nonneg _ (by decide)
  have r1 : more % 8 < 8 := Int.emod_lt_of_pos _ (by decide)
  have key : ∀ d : D, L2.atI [enc (.two true x y), enc (.two false x y), enc (.two true y x), enc (.one true x), enc (.one false y), enc (.two true x y), enc .yes, enc (.two false x y)] (more % 8) = some d → callG (GA defs (k + 1)) 11 [.int more, nmsD j] = .ok d := by
    intro d hd
    rw [callG_at h]
    refine x_run ?_
    refine x_tpar e1 e2 ?_
    show exs FM CC _ _ [some (false, .int more), some (false, nmsD j), none, some (false, nm x), some (false, nm y)] = _
    refine x_set (d := .lst [enc (.two true x y), enc (.two false x y), enc (.two true y x), enc (.one true x), enc (.one false y), enc (.two true x y)]) (by simp [ev, evs, enc, wdD, w1, w2, W.str]) ?_
    refine x_ret ?_
    refine e_ix (x := .lst [enc (.two true x y), enc (.two false x y), enc (.two true y x), enc (.one true x), enc (.one false y), enc (.two true x y), enc .yes, enc (.two false x y)]) (y := .int (more % 8)) ?_ (e_bin (x := .int more) (y := .int 8) (by simp [ev]) rfl (b_mod _ _ (by decide))) hd
    refine e_bin (x := .lst [enc (.two true x y), enc (.two false x y), enc (.two true y x), enc (.one true x), enc (.one false y), enc (.two true x y)]) (y := .lst [enc .yes, enc (.two false x y)]) (by simp [ev, mkV, E.md]) (by simp [ev, evs, enc, wdD, w2, W.str]) (add_lst (by simp))
  have hr : more % 8 = 0 ∨ more % 8 = 1 ∨ more % 8 = 2 ∨ more % 8 = 3 ∨ more % 8 = 4 ∨ more % 8 = 5 ∨ more % 8 = 6 ∨ more % 8 = 7 := by omega
  rcases hr with e | e | e | e | e | e | e | e <;> rw [e] at key
  · exact ⟨_, i2 true x y hx hy, key _ rfl⟩
  · exact ⟨_, i2 false x y hx hy, key _ rfl⟩
  · exact ⟨_, i2 true y x hy hx, key _ rfl⟩
  · exact ⟨_, i1 true x hx, key _ rfl⟩
  · exact ⟨_, i1 false y hy, key _ rfl⟩
  · exact ⟨_, i2 true x y hx hy, key _ rfl⟩
  · exact ⟨_, i0, key _ rfl⟩
  · exact ⟨_, i2 false x y hx hy, key _ rfl⟩
end
end Py
end
section
set_option maxHeartbeats 4000000
namespace Py
open PySem PySem.Spec PyProof.Rows L2 Py
/-- the free names from the j-th on -/
def frS : Nat → Str
  | 0 => ⟨#[97,98,99,100]⟩
  | 1 => ⟨#[98,99,100]⟩
  | 2 => ⟨#[99,100]⟩
  | 3 => ⟨#[100]⟩
  | _ => ⟨#[]⟩
theorem fr_nil {j : Nat} (h : j ≤ 4) : cmpB .eq (.str (frS j)) (.str ⟨#[]⟩) = some (decide (j = 4)) := by
  have : j = 0 ∨ j = 1 ∨ j = 2 ∨ j = 3 ∨ j = 4 := by omega
  rcases this with rfl | rfl | rfl | rfl | rfl <;> rfl
theorem fr_ix {j : Nat} (h : j < 4) : ixD (.str (frS j)) (.int 0) = some (nm j) := by
  have : j = 0 ∨ j = 1 ∨ j = 2 ∨ j = 3 := by omega
  rcases this with rfl | rfl | rfl | rfl <;> rfl
theorem fr_sl {j : Nat} (h : j < 4) : slD (.str (frS j)) (some 1) none = some (.str (frS (j + 1))) := by
  have : j = 0 ∨ j = 1 ∨ j = 2 ∨ j = 3 := by omega
  rcases this with rfl | rfl | rfl | rfl <;> rfl
theorem nms_add (j : Nat) (h : j ≤ 5) : binD .add (nmsD j) (.lst [nm j]) = some (nmsD (j + 1)) := by
  have := add_lst (a := (List.range j).map nm) (b := [nm j]) (by simp; omega)
  unfold nmsD
  rw [this, List.range_succ, List.map_append]; rfl
theorem eq_lst {l : List D} (h : nods l = true) : cmpB .eq (.lst l) (.lst []) = some l.isEmpty := by
  show (if _ then _ else _) = _
  rw [if_pos (by
    have : nod (.lst l) = true := h
    rw [this]
    simp [nod, nods, dep, deps])]
  cases l with
  | nil => rfl
  | cons x l => simp [eqP, toPy, toPys, PyData.eqv, PyData.eqvAll]
theorem nms_nil (j : Nat) : cmpB .eq (nmsD j) (.lst []) = some (decide (j = 0)) := by
  refine (eq_lst (nods_nm _)).trans (congrArg some ?_)
  cases j <;> simp [List.range_succ]
theorem nms_nnil (j : Nat) : cmpB .ne (nmsD j) (.lst []) = some (!decide (j = 0)) := by
  show Option.map _ (cmpB .eq (nmsD j) (.lst [])) = _
  rw [nms_nil]; rfl
theorem eq_word (a b : W) : cmpB .eq (.str a.str) (.str b.str) = some (decide (a = b)) := by cases a <;> cases b <;> rfl
def W.con2 (w : W) : Bool := match w with
  | .and | .or => true | _ => false
/-- the words that a saying is grown of -/
def W.grow (w : W) : Bool := w.qu || w.con2 || decide (w = .not)
theorem pick_word (G : GT) (ρ : Env) (more : Int) (h0 : varD 0 ρ = .ok (.int more)) : ∃ w : W, w.grow = true ∧ ev CC G (.ix (.lst (.c (.str ⟨#[115,111,109,101]⟩) (.c (.str ⟨#[97,108,108]⟩) (.c (.str ⟨#[97,110,100]⟩) (.c (.str ⟨#[111,114]⟩) (.c (.str ⟨#[110,111,116]⟩) (.c (.str ⟨#[115,111,109,101]⟩) (.c (.str ⟨#[97,108,108]⟩) .n)))))))) (.bin .mod (.v 0) (.int 7))) ρ = .ok (.str w.str) := by
  have r0 : 0 ≤ more % 7 := Int.emod_nonneg _ (by decide)
  have r1 : more % 7 < 7 := Int.emod_lt_of_pos _ (by decide)
  have key : ∀ d : D, L2.atI [D.str W.some.str, .str W.all.str, .str W.and.str, .str W.or.str, .str W.not.str, .str W.some.str, .str W.all.str] (more % 7) = some d → ev CC G (.ix (.lst (.c (.str ⟨#[115,111,109,101]⟩) (.c (.str ⟨#[97,108,108]⟩) (.c (.str ⟨#[97,110,100]⟩) (.c (.str ⟨#[111,114]⟩) (.c (.str ⟨#[110,111,116]⟩) (.c (.str ⟨#[115,111,109,101]⟩) (.c (.str ⟨#[97,108,108]⟩) .n)))))))) (.bin .mod (.v 0) (.int 7))) ρ = .ok d := fun d hd =>
    e_ix (x := .lst [D.str W.some.str, .str W.all.str, .str W.and.str, .str W.or.str, .str W.not.str, .str W.some.str, .str W.all.str]) (y := .int (more % 7)) (by simp [ev, evs, W.str]) (e_bin (x := .int more) (y := .int 7) (by simp only [ev]; exact h0) rfl (b_mod _ _ (by decide))) hd
  have hr : more % 7 = 0 ∨ more % 7 = 1 ∨ more % 7 = 2 ∨ more % 7 = 3 ∨ more % 7 = 4 ∨ more % 7 = 5 ∨ more % 7 = 6 := by omega
  rcases hr with e | e | e | e | e | e | e <;> rw [e] at key
  · exact ⟨.some, rfl, key _ rfl⟩
  · exact ⟨.all, rfl, key _ rfl⟩
  · exact ⟨.and, rfl, key _ rfl⟩
  · exact ⟨.or, rfl, key _ rfl⟩
  · exact ⟨.not, rfl, key _ rfl⟩
  · exact ⟨.some, rfl, key _ rfl⟩
  · exact ⟨.all, rfl, key _ rfl⟩
theorem ninQuL (w : W) : cmpB .nin (.str w.str) (.tup [.str ⟨#[115,111,109,101]⟩, .str ⟨#[97,108,108]⟩]) = some (!w.qu) := by cases w <;> rfl
section
variable {defs : Defs}
theorem c8 (h : defs.lookup 8 = some F8) (k : Nat) (i j : Int) : ∃ r : Int, 0 ≤ r ∧ callG (GA defs (k + 1)) 8 [.int i, .int j] = .ok (.int r) := by
  rw [callG_at h]; exact r8 _ i j
theorem e_c4 {C : List D} {G : GT} {f : Nat} {a b c d : E} {ρ : Env} {x y z u : D} (h1 : ev C G a ρ = .ok x) (h2 : ev C G b ρ = .ok y) (h3 : ev C G c ρ = .ok z) (h4 : ev C G d ρ = .ok u) : ev C G (.call f (.c a (.c b (.c c (.c d .n))))) ρ = callG G f [x, y, z, u] := by
  simp only [ev, evs]; rw [h1, h2, h3, h4]; rfl
theorem e_tup2 {C : List D} {G : GT} {a b : E} {ρ : Env} {x y : D} (h1 : ev C G a ρ = .ok x) (h2 : ev C G b ρ = .ok y) : ev C G (.tup (.c a (.c b .n))) ρ = .ok (.tup [x, y]) := by
  simp only [ev, evs]; rw [h1, h2]; rfl
theorem e_tup3 {C : List D} {G : GT} {a b c : E} {ρ : Env} {x y z : D} (h1 : ev C G a ρ = .ok x) (h2 : ev C G b ρ = .ok y) (h3 : ev C G c ρ = .ok z) : ev C G (.tup (.c a (.c b (.c c .n)))) ρ = .ok (.tup [x, y, z]) := by
  simp only [ev, evs]; rw [h1, h2, h3]; rfl
theorem SyIn.mono {s : Sy} {j d d' : Nat} (h : SyIn s j d) (hd : d ≤ d') : SyIn s j d' := ⟨h.wf, h.opn, h.bnd, Nat.le_trans h.dp hd, h.fit⟩
def T12 : Ss := match F12.body with
  | .c _ (.c _ t) => t
  | _ => .n
theorem T12_ok {G : GT} {d j : Nat} {w : W} {more : Int} (hj : j ≤ 4) (hw : w.grow = true) (hq0 : j = 0 → w.qu = true) (hd10 : d ≤ 1000)
    (hA : 0 < j → ∀ m : Int, ∃ s, SyIn s j 1 ∧ callG G 11 [.int m, nmsD j] = .ok (enc s)) (h8 : ∀ a b : Int, ∃ r : Int, 0 ≤ r ∧ callG G 8 [.int a, .int b] = .ok (.int r))
    (hR : ∀ e, d = e + 1 → ∀ (m : Int) (i : Nat), i ≤ 4 → ∃ s, SyIn s i (e + 1) ∧ callG G 12 [.int m, nmsD i, .str (frS i), .int (e : Nat)] = .ok (enc s)) :
    ∃ s, SyIn s j (d + 1) ∧ exs FM CC G T12 [some (false, .int more), some (false, nmsD j), some (false, .str (frS j)), some (false, .int (d : Nat)), some (false, .str w.str), none, none] = .ok (.rt (enc s)) := by
  have hd : ((d : Nat) : Int) = 0 ↔ d = 0 := by omega
  by_cases hstop : d = 0 ∨ (j = 4 ∧ w.qu = true)
  · have hc : ev CC G (.or (.c (.cmp .eq (.v 3) (.int 0)) (.c (.and (.c (.cmp .eq (.v 2) (.str ⟨#[]⟩)) (.c (.cmp .inn (.v 4) (.tup (.c (.str ⟨#[115,111,109,101]⟩) (.c (.str ⟨#[97,108,108]⟩) .n)))) .n))) .n))) [some (false, .int more), some (false, nmsD j), some (false, .str (frS j)), some (false, .int (d : Nat)), some (false, .str w.str), none, none] = .ok (.bl true) := by
      by_cases e : d = 0
      · subst e; simp [ev, evs]
      · obtain ⟨e4, eq⟩ := hstop.resolve_left e
        have hf : cmpB .eq (.str (frS 4)) (.str ⟨#[]⟩) = some true := rfl
        simp [ev, evs, e, hf, e4, inQuL, eq]
    by_cases hj0 : j = 0
    · subst hj0
      refine ⟨.yes, ⟨trivial, fun i hi => (nomatch hi), fun i hi => (nomatch hi), by simp [Sy.dp], fun _ _ => rfl⟩, ?_⟩
      refine x_yes hc (x_ret ?_)
      refine e_ite (x := .bl false) (k := false) (by simp [ev, evs, nms_nnil]) rfl ?_
      rw [if_neg Bool.false_ne_true]
      simp [ev, evs, enc, wdD, W.str]
    · obtain ⟨s, hs, hcall⟩ := hA (by omega) (more / 8)
      refine ⟨s, hs.mono (by omega), ?_⟩
      refine x_yes hc (x_ret ?_)
      refine e_ite (x := .bl true) (k := true) (by simp [ev, evs, nms_nnil, hj0]) rfl ?_
      rw [if_pos rfl, e_c2 (x := .int (more / 8)) (y := nmsD j) (e_bin (x := .int more) (y := .int 8) (by simp [ev]) rfl (b_fdiv _ _ (by decide) (by decide))) (by simp [ev])]
      exact hcall
  · have hd0 : d ≠ 0 := fun e => hstop (.inl e)
    have hq4 : w.qu = true → j < 4 := fun e => by
      have : j ≠ 4 := fun z => hstop (.inr ⟨z, e⟩)
      omega
    obtain ⟨e, rfl⟩ : ∃ e, d = e + 1 := ⟨d - 1, by omega⟩
    obtain ⟨r1, _, c1⟩ := h8 more 1
    obtain ⟨r2, _, c2⟩ := h8 more 2
    have hR := hR e rfl
    have hc : ev CC G (.or (.c (.cmp .eq (.v 3) (.int 0)) (.c (.and (.c (.cmp .eq (.v 2) (.str ⟨#[]⟩)) (.c (.cmp .inn (.v 4) (.tup (.c (.str ⟨#[115,111,109,101]⟩) (.c (.str ⟨#[97,108,108]⟩) .n)))) .n))) .n))) [some (false, .int more), some (false, nmsD j), some (false, .str (frS j)), some (false, .int ((e + 1 : Nat) : Int)), some (false, .str w.str), none, none] = .ok (.bl false) := by
      have e0 : ¬ ((e : Int) + 1 = 0) := by omega
      by_cases e4 : j = 4
      · have : w.qu = false := Bool.eq_false_iff.mpr fun z => by have := hq4 z; omega
        have hf : cmpB .eq (.str (frS 4)) (.str ⟨#[]⟩) = some true := rfl
        simp [ev, evs, e0, hf, e4, inQuL, this]
      · simp [ev, evs, e0, fr_nil hj, e4]
    have hsub : binD .sub (.int ((e + 1 : Nat) : Int)) (.int 1) = some (.int ((e : Nat) : Int)) := by rw [b_sub]; congr 2; omega
    have st : ∀ {r : RR Out}, exs FM CC G (match T12 with | .c _ (.c _ t) => t | _ => .n) [some (false, .int more), some (false, nmsD j), some (false, .str (frS j)), some (false, .int ((e + 1 : Nat) : Int)), some (false, .str w.str), some (false, .int r1), some (false, .int r2)] = r →
        exs FM CC G T12 [some (false, .int more), some (false, nmsD j), some (false, .str (frS j)), some (false, .int ((e + 1 : Nat) : Int)), some (false, .str w.str), none, none] = r := fun h => by
      refine x_no hc ?_
      exact x_tpar (e_call2 (x := .int more) (y := .int 1) (by simp [ev]) (by simp [ev]) c1) (e_call2 (x := .int more) (y := .int 2) (by simp [ev]) (by simp [ev]) c2) h
    by_cases hq : w.qu = true
    · have hj4 := hq4 hq
      obtain ⟨s, hs, hcall⟩ := hR r1 (j + 1) (by omega)
      obtain ⟨q, hwq⟩ : ∃ q, w = wq q := by cases w <;> first | exact ⟨true, rfl⟩ | exact ⟨false, rfl⟩ | cases hq
      subst hwq
      refine ⟨.qu q j s, ⟨⟨by omega, hs.wf⟩, fun i hi => ?_, fun i hi => ?_, ?_, fun b hb => ?_⟩, st ?_⟩
      · have hi : opn s i = true ∧ ¬ i = j := by simpa [Py.opn] using hi
        have := hs.opn i hi.1
        omega
      · have hi : i = j ∨ i ∈ bnd s := by simpa [Py.bnd] using hi
        rcases hi with rfl | hi
        · exact Nat.le_refl _
        · have := hs.bnd i hi; omega
      · have := hs.dp; simp only [Sy.dp]; omega
      · have h1 := hs.fit (b ++ [j]) fun i hi => by
          rcases List.mem_append.mp hi with z | z
          · have := hb i z; omega
          · have : i = j := by simpa using z
            omega
        have h2 : b.contains j = false := by
          rw [← Bool.not_eq_true, List.contains_iff_mem]
          exact fun z => by have := hb j z; omega
        show (!b.contains j && s.fit (b ++ [j])) = true
        rw [h1, h2]; rfl
      · refine x_yes (by simp [ev, evs, inQuL, hq]) (x_ret ?_)
        have e1 : ev CC G (.ix (.v 2) (.int 0)) [some (false, .int more), some (false, nmsD j), some (false, .str (frS j)), some (false, .int ((e + 1 : Nat) : Int)), some (false, .str (wq q).str), some (false, .int r1), some (false, .int r2)] = .ok (nm j) := e_ix (x := .str (frS j)) (y := .int 0) (by simp [ev]) (by simp [ev]) (fr_ix hj4)
        refine e_tup3 (x := .str (wq q).str) (y := nm j) (by simp [ev]) e1 ?_
        rw [e_c4 (x := .int r1) (y := nmsD (j + 1)) (z := .str (frS (j + 1))) (u := .int (e : Nat)) (by simp [ev]) (e_bin (x := nmsD j) (y := .lst [nm j]) (by simp [ev]) ?_ (nms_add j (by omega))) ?_ (e_bin (x := .int ((e + 1 : Nat) : Int)) (y := .int 1) (by simp [ev]) (by simp [ev]) hsub)]
        · exact hcall
        · simp only [ev, evs] at e1 ⊢; rw [e1]; rfl
        · simp [ev, isNop, intO, fr_sl hj4]
    · have hq : w.qu = false := Bool.eq_false_iff.mpr hq
      have hj0 : 0 < j := by
        rcases Nat.eq_zero_or_pos j with z | z
        · rw [hq0 z] at hq; cases hq
        · exact z
      obtain ⟨s, hs, hcall⟩ := hR r1 j hj
      have nq : ev CC G (.cmp .inn (.v 4) (.tup (.c (.str ⟨#[115,111,109,101]⟩) (.c (.str ⟨#[97,108,108]⟩) .n)))) [some (false, .int more), some (false, nmsD j), some (false, .str (frS j)), some (false, .int ((e + 1 : Nat) : Int)), some (false, .str w.str), some (false, .int r1), some (false, .int r2)] = .ok (.bl false) := by simp [ev, evs, inQuL, hq]
      have hnot : ev CC G (.cmp .eq (.v 4) (.str ⟨#[110,111,116]⟩)) [some (false, .int more), some (false, nmsD j), some (false, .str (frS j)), some (false, .int ((e + 1 : Nat) : Int)), some (false, .str w.str), some (false, .int r1), some (false, .int r2)] = .ok (.bl (decide (w = .not))) := e_cmp (x := .str w.str) (y := .str W.not.str) (by simp [ev]) (by simp [ev, W.str]) (eq_word w .not)
      by_cases hn : w = .not
      · subst hn
        refine ⟨.not s, ⟨hs.wf, hs.opn, hs.bnd, ?_, hs.fit⟩, st ?_⟩
        · have := hs.dp; simp only [Sy.dp]; omega
        · refine x_no nq (x_yes hnot (x_ret (e_tup2 (x := .str W.not.str) (y := enc s) (by simp [ev]) ?_)))
          rw [e_c4 (x := .int r1) (y := nmsD j) (z := .str (frS j)) (u := .int (e : Nat)) (by simp [ev]) (by simp [ev]) (by simp [ev]) (e_bin (x := .int ((e + 1 : Nat) : Int)) (y := .int 1) (by simp [ev]) (by simp [ev]) hsub)]
          exact hcall
      · obtain ⟨t, ht, hcall2⟩ := hR r2 j hj
        obtain ⟨q, hwq⟩ : ∃ q, w = wc q := by cases w <;> first | exact ⟨true, rfl⟩ | exact ⟨false, rfl⟩ | (exact (hn rfl).elim) | (simp [W.grow, W.qu, W.con2] at hw; done) | cases hq
        subst hwq
        refine ⟨.con q s t, ⟨⟨hs.wf, ht.wf⟩, fun i hi => ?_, fun i hi => ?_, ?_, fun b hb => ?_⟩, st ?_⟩
        · have hi : opn s i = true ∨ opn t i = true := by simpa [Py.opn] using hi
          exact hi.elim (hs.opn i) (ht.opn i)
        · have hi : i ∈ bnd s ∨ i ∈ bnd t := by simpa [Py.bnd] using hi
          exact hi.elim (hs.bnd i) (ht.bnd i)
        · have := hs.dp; have := ht.dp; simp only [Sy.dp]; omega
        · show (s.fit b && t.fit b) = true
          rw [hs.fit b hb, ht.fit b hb]; rfl
        · rw [decide_eq_false hn] at hnot
          refine x_no nq (x_no hnot (x_ret (e_tup3 (x := .str (wc q).str) (y := enc s) (z := enc t) (by simp [ev]) ?_ ?_)))
          · rw [e_c4 (x := .int r1) (y := nmsD j) (z := .str (frS j)) (u := .int (e : Nat)) (by simp [ev]) (by simp [ev]) (by simp [ev]) (e_bin (x := .int ((e + 1 : Nat) : Int)) (y := .int 1) (by simp [ev]) (by simp [ev]) hsub)]
            exact hcall
          · rw [e_c4 (x := .int r2) (y := nmsD j) (z := .str (frS j)) (u := .int (e : Nat)) (by simp [ev]) (by simp [ev]) (by simp [ev]) (e_bin (x := .int ((e + 1 : Nat) : Int)) (y := .int 1) (by simp [ev]) (by simp [ev]) hsub)]
            exact hcall2
theorem c12_run {G : GT} {d j : Nat} {more : Int} (hj : j ≤ 4) (hd10 : d ≤ 1000)
    (hA : 0 < j → ∀ m : Int, ∃ s, SyIn s j 1 ∧ callG G 11 [.int m, nmsD j] = .ok (enc s)) (h8 : ∀ a b : Int, ∃ r : Int, 0 ≤ r ∧ callG G 8 [.int a, .int b] = .ok (.int r))
    (hR : ∀ e, d = e + 1 → ∀ (m : Int) (i : Nat), i ≤ 4 → ∃ s, SyIn s i (e + 1) ∧ callG G 12 [.int m, nmsD i, .str (frS i), .int (e : Nat)] = .ok (enc s)) :
    ∃ s, SyIn s j (d + 1) ∧ F12.run FM CC G [.int more, nmsD j, .str (frS j), .int (d : Nat)] = .ok (enc s) := by
  obtain ⟨w, hw, ew⟩ := pick_word G [some (false, .int more), some (false, nmsD j), some (false, .str (frS j)), some (false, .int (d : Nat)), none, none, none] more rfl
  by_cases h0 : j = 0 ∧ w.qu = false
  · obtain ⟨s, hs, he⟩ := T12_ok (w := .some) (more := more) hj rfl (fun _ => rfl) hd10 hA h8 hR
    refine ⟨s, hs, x_run ?_⟩
    refine x_set ew ?_
    show exs FM CC G _ [some (false, .int more), some (false, nmsD j), some (false, .str (frS j)), some (false, .int (d : Nat)), some (false, .str w.str), none, none] = _
    refine x_yesN (ρ' := [some (false, .int more), some (false, nmsD j), some (false, .str (frS j)), some (false, .int (d : Nat)), some (false, .str W.some.str), none, none]) ?_ (x_set (d := .str W.some.str) (by simp [ev, W.str]) rfl) he
    simp [ev, evs, nms_nil, h0.1, ninQuL, h0.2]
  · obtain ⟨s, hs, he⟩ := T12_ok (w := w) (more := more) hj hw (fun z => by
      by_cases q : w.qu = true
      · exact q
      · exact (h0 ⟨z, Bool.eq_false_iff.mpr q⟩).elim) hd10 hA h8 hR
    refine ⟨s, hs, x_run ?_⟩
    refine x_set ew ?_
    show exs FM CC G _ [some (false, .int more), some (false, nmsD j), some (false, .str (frS j)), some (false, .int (d : Nat)), some (false, .str w.str), none, none] = _
    refine x_no ?_ he
    by_cases z : j = 0
    · have : w.qu = true := by
        by_cases q : w.qu = true
        · exact q
        · exact (h0 ⟨z, Bool.eq_false_iff.mpr q⟩).elim
      simp [ev, evs, nms_nil, z, ninQuL, this]
    · simp [ev, evs, nms_nil, z]
theorem c12 (h8 : defs.lookup 8 = some F8) (h11 : defs.lookup 11 = some F11) (h12 : defs.lookup 12 = some F12) : ∀ (d k : Nat) (more : Int) (j : Nat), d ≤ 1000 → j ≤ 4 → ∃ s, SyIn s j (d + 1) ∧ callG (GA defs (k + d + 2)) 12 [.int more, nmsD j, .str (frS j), .int (d : Nat)] = .ok (enc s)
  | 0, k, more, j, hd, hj => by
    rw [callG_at h12]
    exact c12_run hj hd (fun hp m => c11 h11 k m hp (by omega)) (fun a b => c8 h8 k a b) fun e he => by omega
  | d + 1, k, more, j, hd, hj => by
    rw [show k + (d + 1) + 2 = (k + d + 2) + 1 by omega, callG_at h12]
    exact c12_run hj hd (fun hp m => c11 h11 (k + d + 1) m hp (by omega)) (fun a b => c8 h8 (k + d + 1) a b) fun e he m i hi => by
      obtain rfl : d = e := by omega
      exact c12 h8 h11 h12 d k m i (by omega) hi
theorem c13 (h8 : defs.lookup 8 = some F8) (h11 : defs.lookup 11 = some F11) (h12 : defs.lookup 12 = some F12) (h13 : defs.lookup 13 = some F13) (k : Nat) (more : Int) (j : Nat) (hj : j ≤ 3) : ∃ s, SyIn s j 5 ∧ callG (GA defs (k + 7)) 13 [.int more, .int (j : Nat)] = .ok (enc s) := by
  obtain ⟨r, _, e8⟩ := c8 h8 (k + 5) more 9
  have r0 : 0 ≤ more % 4 := Int.emod_nonneg _ (by decide)
  have r1 : more % 4 < 4 := Int.emod_lt_of_pos _ (by decide)
  obtain ⟨d, hd⟩ : ∃ d : Nat, (d : Int) = 1 + more % 4 := ⟨(1 + more % 4).toNat, by omega⟩
  have hd4 : d ≤ 4 := by omega
  obtain ⟨s, hs, e⟩ := c12 h8 h11 h12 d (k + 4 - d) r j (by omega) (by omega)
  rw [show k + 4 - d + d + 2 = k + 6 by omega] at e
  refine ⟨s, hs.mono (by omega), ?_⟩
  rw [callG_at h13]
  refine x_run ?_
  have hsl : slD (.lst [.str ⟨#[97]⟩, .str ⟨#[98]⟩, .str ⟨#[99]⟩]) none (some ((j : Nat) : Int)) = some (nmsD j) := by
    have : j = 0 ∨ j = 1 ∨ j = 2 ∨ j = 3 := by omega
    rcases this with rfl | rfl | rfl | rfl <;> rfl
  have hfr : slD (.str ⟨#[97,98,99,100,101]⟩) (some ((j : Nat) : Int)) (some 4) = some (.str (frS j)) := by
    have : j = 0 ∨ j = 1 ∨ j = 2 ∨ j = 3 := by omega
    rcases this with rfl | rfl | rfl | rfl <;> rfl
  refine x_set (d := nmsD j) (by simp [ev, evs, startD, isNop, intO, hsl]) ?_
  show exs FM CC _ _ [some (false, .int more), some (false, .int (j : Nat)), some (false, nmsD j)] = _
  refine x_ret ?_
  rw [e_c4 (x := .int r) (y := nmsD j) (z := .str (frS j)) (u := .int (d : Nat)) (e_call2 (x := .int more) (y := .int 9) (by simp [ev]) (by simp [ev]) e8) (by simp [ev]) (by simp [ev, isNop, intO, hfr]) ?_]
  · exact e
  · refine e_bin (x := .int 1) (y := .int (more % 4)) (by simp [ev]) (e_bin (x := .int more) (y := .int 4) (by simp [ev]) (by simp [ev]) (b_mod _ _ (by decide))) ?_
    rw [b_add, hd]
end
end Py
end
section
set_option exponentiation.threshold 2000
set_option maxHeartbeats 4000000
namespace Py
open PySem PySem.Spec PyProof.Rows L2 Py
mutual
theorem eqv_self : ∀ d : D, nod d = true → PyData.eqv (toPy d) (toPy d) = true
  | .non, _ => by simp [toPy, PyData.eqv]
  | .bl _, _ => by simp [toPy, PyData.eqv]
  | .int _, _ => by simp [toPy, PyData.eqv]
  | .str _, _ => by simp [toPy, PyData.eqv]
  | .tup l, h => by simp only [toPy, PyData.eqv]; exact eqvs_self l h
  | .lst l, h => by simp only [toPy, PyData.eqv]; exact eqvs_self l h
  | .scr l, _ => by
    simp only [toPy, PyData.eqv]
    induction l with
    | nil => rfl
    | cons x l ih => simp only [List.map_cons, PyData.eqvAll, PyData.eqv, ih (by rfl)]; simp
  | .dic _ _, h => by cases h
theorem eqvs_self : ∀ l : List D, nods l = true → PyData.eqvAll (toPys l) (toPys l) = true
  | [], _ => rfl
  | d :: l, h => by
    simp only [nods, Bool.and_eq_true] at h
    simp only [toPys, PyData.eqvAll, eqv_self d h.1, eqvs_self l h.2]; rfl
end
theorem ne_self {d : D} (h : nod d = true) (h2 : dep d ≤ 64) : cmpB .ne d d = some false := by
  show (eqB d d).map (!·) = _
  unfold eqB eqP
  rw [eqv_self d h, h]
  simp [h2]
theorem min2 (x y : Nat) : Blt.min.g [D.int (x : Nat), D.int (y : Nat)] = some (.int ((min x y : Nat) : Int)) := by
  show some (D.int (if ((y : Nat) : Int) < (x : Nat) then ((y : Nat) : Int) else ((x : Nat) : Int))) = _
  congr 2
  split <;> omega
theorem max2 (x y : Nat) : Blt.max.g [D.int (x : Nat), D.int (y : Nat)] = some (.int ((max x y : Nat) : Int)) := by
  show some (D.int (if ((y : Nat) : Int) > (x : Nat) then ((y : Nat) : Int) else ((x : Nat) : Int))) = _
  congr 2
  split <;> omega
/-- a loop over data that are told by numbers -/
theorem loop_inv {t : Tg} {body : Env → RR Out} {l : List D} (I : Nat → Env → Prop) (ρ : Env) (h0 : I 0 ρ) (h : ∀ (q : Nat) (d : D) ρ, l[q]? = some d → I q ρ → ∃ ρ1 ρ', bindT t d ρ = .ok ρ1 ∧ body ρ1 = .ok (.nx ρ') ∧ I (q + 1) ρ') : ∃ ρ', execFor t body l ρ = .ok (.nx ρ') ∧ I l.length ρ' := by
  induction l generalizing I ρ with
  | nil => exact ⟨ρ, rfl, h0⟩
  | cons d l ih =>
    obtain ⟨ρ1, ρ2, h1, h2, h3⟩ := h 0 d ρ rfl h0
    obtain ⟨ρ', e, h4⟩ := ih (fun q => I (q + 1)) ρ2 h3 fun q d ρ hq hi => h (q + 1) d ρ (by simpa using hq) hi
    exact ⟨ρ', f_cons h1 h2 e, by simpa using h4⟩
theorem rng1_ev {C : List D} {G : GT} {e : E} {ρ : Env} {n : Nat} (h : ev C G e ρ = .ok (.int (n : Int))) (hn : n ≤ 10000) : evr C G (.rng1 e) ρ = .ok ((List.range n).map fun i => D.int ((i : Nat) : Int)) := by
  simp only [evr]; rw [h, RR.bind_ok]; exact rng1_nat n (by omega)
theorem rng2_ev {C : List D} {G : GT} {a b : E} {ρ : Env} {i j : Nat} (h1 : ev C G a ρ = .ok (.int (i : Int))) (h2 : ev C G b ρ = .ok (.int (j : Int))) (hi : i ≤ 10000) (hj : j ≤ 10000) : evr C G (.rng2 a b) ρ = .ok ((List.range (j - i)).map fun q => D.int ((i + q : Nat) : Int)) := by
  simp only [evr]; rw [h1, RR.bind_ok, h2, RR.bind_ok]
  have e : rngOk (i : Int) (j : Int) = true := by
    unfold rngOk
    simp only [Bool.and_eq_true, decide_eq_true_eq]
    have : lim = 16777216 := rfl
    refine ⟨⟨⟨⟨by omega, by omega⟩, by omega⟩, by omega⟩, ?_⟩
    omega
  show (if rngOk (i : Int) (j : Int) then RR.ok (rangeD i j) else .bad) = _
  rw [if_pos e]
  unfold rangeD
  rw [show ((j : Int) - (i : Int)).toNat = j - i by omega]
  congr 1
theorem c7 {defs : Defs} (h : defs.lookup 7 = some F7) (k : Nat) (ns : List Int) (hl : ns.length ≤ 63) (i : Nat) : ∃ r : Int, callG (GA defs (k + 1)) 7 [.scr ns, .int (i : Nat)] = .ok (.int r) := by
  rw [callG_at h]; exact r7 _ ns hl i
end Py
end
section
set_option maxHeartbeats 4000000
namespace Py
open PySem PySem.Spec PyProof.Rows L2 Py
/-! ### whole numbers for fractions -/
abbrev TT : Int := 720720 * 1048576 * 997
structure PtOk (p : Int × Int) : Prop where
  b1 : 1 ≤ p.2
  b2 : p.2 ≤ 1000
  a1 : -1000 ≤ p.1
  a2 : p.1 ≤ 1000
def phi (p : Int × Int) : Int := TT * p.1 / p.2
theorem phi_le {p q : Int × Int} (hp : PtOk p) (hq : PtOk q) (h : p.1 * q.2 ≤ q.1 * p.2) : phi p ≤ phi q := by
  have b1 := hp.b1
  have b2 := hq.b1
  unfold phi
  rw [Int.le_ediv_iff_mul_le (by omega)]
  have h1 : TT * p.1 / p.2 * p.2 ≤ TT * p.1 := Int.ediv_mul_le _ (by omega)
  generalize TT * p.1 / p.2 = x at h1 ⊢
  -- x * p2 ≤ T p1, T p1 q2 ≤ T q1 p2; x * q2 ≤ T q1
  have h2 : x * p.2 * q.2 ≤ TT * p.1 * q.2 := Int.mul_le_mul_of_nonneg_right h1 (by omega)
  have h3 : TT * (p.1 * q.2) ≤ TT * (q.1 * p.2) := Int.mul_le_mul_of_nonneg_left h (by decide)
  have h4 : (x * q.2) * p.2 ≤ (TT * q.1) * p.2 := by
    calc (x * q.2) * p.2 = x * p.2 * q.2 := by rw [Int.mul_assoc, Int.mul_comm q.2, ← Int.mul_assoc]
      _ ≤ TT * p.1 * q.2 := h2
      _ = TT * (p.1 * q.2) := Int.mul_assoc ..
      _ ≤ TT * (q.1 * p.2) := h3
      _ = (TT * q.1) * p.2 := (Int.mul_assoc ..).symm
  exact Int.le_of_mul_le_mul_right h4 (by omega)
theorem phi_lt {p q : Int × Int} (hp : PtOk p) (hq : PtOk q) (h : p.1 * q.2 < q.1 * p.2) : phi p < phi q := by
  have b1 := hp.b1
  have b2 := hq.b1
  have b3 := hp.b2
  have b4 := hq.b2
  apply Int.not_le.mp
  intro hle
  unfold phi at hle
  have h1 : TT * p.1 / p.2 * p.2 ≤ TT * p.1 := Int.ediv_mul_le _ (by omega)
  have h2 : TT * q.1 < (TT * q.1 / q.2 + 1) * q.2 := Int.lt_ediv_add_one_mul_self _ (by omega)
  generalize TT * p.1 / p.2 = x at h1 hle
  generalize TT * q.1 / q.2 = y at h2 hle
  have h3 : (TT * q.1) * p.2 < (y + 1) * q.2 * p.2 := Int.mul_lt_mul_of_pos_right h2 (by omega)
  have h4 : (y + 1) * (q.2 * p.2) ≤ (x + 1) * (q.2 * p.2) := Int.mul_le_mul_of_nonneg_right (by omega) (Int.mul_nonneg (by omega) (by omega))
  have h5 : x * p.2 * q.2 ≤ TT * p.1 * q.2 := Int.mul_le_mul_of_nonneg_right h1 (by omega)
  have h6 : q.2 * p.2 ≤ 1000 * 1000 := Int.mul_le_mul b4 b3 (by omega) (by decide)
  have h7 : TT * (p.1 * q.2) + TT ≤ TT * (q.1 * p.2) := by
    have := Int.mul_le_mul_of_nonneg_left (show p.1 * q.2 + 1 ≤ q.1 * p.2 by omega) (show (0 : Int) ≤ TT by decide)
    rw [Int.mul_add, Int.mul_one] at this
    exact this
  have e1 : (x + 1) * (q.2 * p.2) = x * p.2 * q.2 + q.2 * p.2 := by rw [Int.add_mul, Int.one_mul, Int.mul_assoc x, Int.mul_comm q.2]
  have e2 : (y + 1) * q.2 * p.2 = (y + 1) * (q.2 * p.2) := Int.mul_assoc ..
  have e3 : TT * p.1 * q.2 = TT * (p.1 * q.2) := Int.mul_assoc ..
  have e4 : TT * q.1 * p.2 = TT * (q.1 * p.2) := Int.mul_assoc ..
  rw [e2] at h3
  rw [e1] at h4
  rw [e3] at h5
  rw [e4] at h3
  have h8 : TT > 1000000 := by decide
  generalize TT * (p.1 * q.2) = u at *
  generalize TT * (q.1 * p.2) = v at *
  generalize x * p.2 * q.2 = w at *
  generalize (y + 1) * (q.2 * p.2) = z at *
  generalize q.2 * p.2 = m at *
  generalize TT = t at *
  omega
theorem phi_eq {p q : Int × Int} (hp : PtOk p) (hq : PtOk q) : p.1 * q.2 = q.1 * p.2 ↔ phi p = phi q := by
  constructor
  · intro h
    have h1 := phi_le hp hq (by omega)
    have h2 := phi_le hq hp (by omega)
    omega
  · intro h
    rcases Int.lt_trichotomy (p.1 * q.2) (q.1 * p.2) with z | z | z
    · have := phi_lt hp hq z; omega
    · exact z
    · have := phi_lt hq hp z; omega
theorem phi_less {p q : Int × Int} (hp : PtOk p) (hq : PtOk q) : p.1 * q.2 < q.1 * p.2 ↔ phi p < phi q := by
  constructor
  · exact phi_lt hp hq
  · intro h
    rcases Int.lt_trichotomy (p.1 * q.2) (q.1 * p.2) with z | z | z
    · exact z
    · have := (phi_eq hp hq).mp z; omega
    · have := phi_lt hq hp z; omega
theorem ok01 : PtOk (0, 1) := ⟨by decide, by decide, by decide, by decide⟩
theorem ok11 : PtOk (1, 1) := ⟨by decide, by decide, by decide, by decide⟩
theorem phi_zero {p : Int × Int} (hp : PtOk p) : phi p = 0 ↔ p.1 = 0 := by
  have := phi_eq hp ok01
  have e : phi (0, 1) = 0 := by decide
  rw [e] at this
  rw [← this]; simp
theorem phi_one {p : Int × Int} (hp : PtOk p) : phi p = TT ↔ p.1 = p.2 := by
  have := phi_eq hp ok11
  have e : phi (1, 1) = TT := by decide
  rw [e] at this
  rw [← this]; simp
/-! ### each once -/
def ddI (L : List Int) : List Int → List Int
  | [] => L
  | x :: l => ddI (if x ∈ L then L else L ++ [x]) l
theorem ddI_cons (L : List Int) (x : Int) (l : List Int) : ddI L (x :: l) = ddI (if x ∈ L then L else L ++ [x]) l := rfl
theorem ddI_filter (p : Int → Bool) : ∀ (l L : List Int), (ddI L l).filter p = ddI (L.filter p) (l.filter p)
  | [], L => rfl
  | x :: l, L => by
    rw [ddI_cons, ddI_filter p l]
    by_cases hp : p x = true
    · rw [List.filter_cons_of_pos hp, ddI_cons]
      by_cases hx : x ∈ L
      · have : x ∈ L.filter p := List.mem_filter.mpr ⟨hx, hp⟩
        rw [if_pos hx, if_pos this]
      · have : x ∉ L.filter p := fun z => hx (List.mem_filter.mp z).1
        rw [if_neg hx, if_neg this, List.filter_append, List.filter_cons_of_pos hp]; rfl
    · rw [List.filter_cons_of_neg hp]
      by_cases hx : x ∈ L
      · rw [if_pos hx]
      · rw [if_neg hx, List.filter_append, List.filter_cons_of_neg hp]; simp
/-- the heads of points: of those that are one, the first -/
def hdP (L : List (Int × Int)) : List (Int × Int) → List (Int × Int)
  | [] => L
  | p :: l => hdP (if L.any fun o => decide (p.1 * o.2 = o.1 * p.2) then L else L ++ [p]) l
theorem hdP_ok : ∀ (l L : List (Int × Int)), (∀ p ∈ l, PtOk p) → (∀ p ∈ L, PtOk p) → (∀ p ∈ hdP L l, PtOk p) ∧ (hdP L l).map phi = ddI (L.map phi) (l.map phi) ∧ (hdP L l).length ≤ L.length + l.length
  | [], L, _, h => ⟨h, rfl, Nat.le_refl _⟩
  | p :: l, L, h, hL => by
    have hp := h p List.mem_cons_self
    have hl := fun q hq => h q (List.mem_cons_of_mem _ hq)
    unfold hdP
    have e : (L.any fun o => decide (p.1 * o.2 = o.1 * p.2)) = decide (phi p ∈ L.map phi) := by
      rw [Bool.eq_iff_iff, List.any_eq_true, decide_eq_true_eq, List.mem_map]
      constructor
      · rintro ⟨o, ho, z⟩
        exact ⟨o, ho, ((phi_eq hp (hL o ho)).mp (of_decide_eq_true z)).symm⟩
      · rintro ⟨o, ho, z⟩
        exact ⟨o, ho, decide_eq_true ((phi_eq hp (hL o ho)).mpr z.symm)⟩
    rw [e]
    by_cases q : phi p ∈ L.map phi
    · rw [decide_eq_true q, if_pos rfl]
      obtain ⟨h1, h2, h3⟩ := hdP_ok l L hl hL
      refine ⟨h1, ?_, by rw [List.length_cons]; omega⟩
      rw [h2, List.map_cons, ddI_cons, if_pos q]
    · rw [decide_eq_false q, if_neg Bool.false_ne_true]
      obtain ⟨h1, h2, h3⟩ := hdP_ok l (L ++ [p]) hl (fun x hx => (List.mem_append.mp hx).elim (hL x) fun z => by rw [List.mem_singleton.mp z]; exact hp)
      refine ⟨h1, ?_, by rw [List.length_append] at h3; rw [List.length_cons]; simp at h3; omega⟩
      rw [h2, List.map_append, List.map_cons (l := l), ddI_cons, if_neg q]; rfl
/-- the ranks, by the heads and by whole numbers -/
theorem rank_eq {l : List (Int × Int)} (h : ∀ p ∈ l, PtOk p) {p : Int × Int} (hp : PtOk p) : ((hdP [] l).filter fun o => decide (o.1 * p.2 < p.1 * o.2)).length = (ddI [] ((l.map phi).filter fun x => decide (x < phi p))).length := by
  obtain ⟨h1, h2, _⟩ := hdP_ok l [] h (fun _ z => by cases z)
  have e := ddI_filter (fun x => decide (x < phi p)) (l.map phi) []
  rw [List.filter_nil] at e
  rw [← e, show ([] : List Int) = ([] : List (Int × Int)).map phi from rfl, ← h2, List.filter_map, List.length_map]
  congr 1
  refine List.filter_congr fun o ho => ?_
  have := phi_less (h1 o ho) hp
  show decide _ = decide (phi o < phi p)
  exact decide_eq_decide.mpr this
end Py
end
section
namespace Py
open PySem PySem.Spec PyProof.Rows L2 Py
/-- is_line -/
def F20 : FDef := ⟨⟨#[105,115,95,108,105,110,101]⟩, .sh, [⟨#[116,104,105,110,103]⟩], [⟨#[116,104,105,110,103]⟩, ⟨#[111,110,101]⟩],
  (.c (.ret (.and (.c (.isi .tuple (.v 0)) (.c (.cmp .eq (.blt .len (.c (.v 0) .n)) (.int 2)) (.c (.blt .all (.c (.comp (.v 1) [1] (.seq (.v 0)) .nop (.isi .bool (.v 1))) .n)) .n))))) .n), false⟩
/-- need_line -/
def F21 : FDef := ⟨⟨#[110,101,101,100,95,108,105,110,101]⟩, .sh, [⟨#[108,105,110,101]⟩], [⟨#[108,105,110,101]⟩],
  (.c (.ifs (.nt (.call 20 (.c (.v 0) .n))) (.c (.raise ⟨#[66,97,100,76,105,110,101]⟩) .n) .n) .n), false⟩
/-- is_count -/
def F22 : FDef := ⟨⟨#[105,115,95,99,111,117,110,116]⟩, .sh, [⟨#[116,104,105,110,103]⟩, ⟨#[108,111,119]⟩, ⟨#[104,105,103,104]⟩], [⟨#[116,104,105,110,103]⟩, ⟨#[108,111,119]⟩, ⟨#[104,105,103,104]⟩],
  (.c (.ret (.and (.c (.isi .int (.v 0)) (.c (.nt (.isi .bool (.v 0))) (.c (.chn .le .le (.v 1) (.v 0) (.v 2)) .n))))) .n), false⟩
/-- need_many -/
def F23 : FDef := ⟨⟨#[110,101,101,100,95,109,97,110,121]⟩, .sh, [⟨#[109,97,110,121]⟩], [⟨#[109,97,110,121]⟩],
  (.c (.ifs (.nt (.call 22 (.c (.v 0) (.c (.int 0) (.c (.con 3) .n))))) (.c (.raise ⟨#[66,97,100,75,105,110,100]⟩) .n) .n) .n), false⟩
/-- ways_of -/
def F24 : FDef := ⟨⟨#[119,97,121,115,95,111,102]⟩, .fr, [⟨#[108,105,110,101]⟩, ⟨#[107,105,110,100]⟩], [⟨#[108,105,110,101]⟩, ⟨#[107,105,110,100]⟩, ⟨#[109,97,110,121]⟩, ⟨#[102,111,117,110,100]⟩, ⟨#[111,119,110]⟩, ⟨#[114,97,110,107,115]⟩, ⟨#[105,115,95,108,111,119]⟩, ⟨#[105,115,95,104,105,103,104]⟩, ⟨#[108,97,116,101,114]⟩, ⟨#[108,111,119,115]⟩, ⟨#[104,105,103,104,115]⟩, ⟨#[108,111,119]⟩, ⟨#[114,97,110,107]⟩, ⟨#[104,105,103,104]⟩],
  (.c (.tset [5,6,7] (.v 1)) (.c (.set 2 (.bin .add (.blt .max (.c (.bin .add (.v 5) (.tup (.c (.neg (.int 1)) .n))) .n)) (.int 1))) (.c (.set 3 (.lst .n)) (.c (.forr (.v 4) (.rng1 (.v 2)) (.c (.app 3 (.tup (.c (.bin .add (.v 5) (.tup (.c (.v 4) .n))) (.c (.v 6) (.c (.v 7) .n))))) .n)) (.c (.forr (.v 4) (.rng1 (.bin .add (.v 2) (.int 1))) (.c (.set 8 (.bin .add (.blt .tuple (.c (.comp (.v 12) [12] (.seq (.v 5)) .nop (.bin .add (.v 12) (.blt .int (.c (.cmp .ge (.v 12) (.v 4)) .n)))) .n)) (.tup (.c (.v 4) .n)))) (.c (.set 9 (.ite (.cmp .gt (.v 4) (.int 0)) (.lst (.c (.v 6) .n)) (.bin .add (.bin .mul (.lst (.c (.bl false) .n)) (.blt .int (.c (.nt (.v 6)) .n))) (.bin .mul (.lst (.c (.bl true) .n)) (.blt .int (.c (.and (.c (.ix (.v 0) (.int 0)) (.c (.nt (.v 6)) .n))) .n)))))) (.c (.set 10 (.ite (.cmp .lt (.v 4) (.v 2)) (.lst (.c (.v 7) .n)) (.bin .add (.bin .mul (.lst (.c (.bl false) .n)) (.blt .int (.c (.nt (.v 7)) .n))) (.bin .mul (.lst (.c (.bl true) .n)) (.blt .int (.c (.and (.c (.ix (.v 0) (.int 1)) (.c (.nt (.v 7)) .n))) .n)))))) (.c (.forr (.v 11) (.seq (.v 9)) (.c (.ext 3 (.comp (.v 13) [13] (.seq (.v 10)) (.or (.c (.cmp .gt (.v 2) (.int 0)) (.c (.nt (.and (.c (.v 11) (.c (.v 13) .n)))) .n))) (.tup (.c (.v 8) (.c (.v 11) (.c (.v 13) .n)))))) .n)) .n))))) (.c (.ret (.blt .sorted (.c (.o 3) .n))) .n)))))), false⟩
/-- kinds_of -/
def F25 : FDef := ⟨⟨#[107,105,110,100,115,95,111,102]⟩, .fr, [⟨#[108,105,110,101]⟩, ⟨#[109,97,110,121]⟩], [⟨#[108,105,110,101]⟩, ⟨#[109,97,110,121]⟩, ⟨#[102,111,117,110,100]⟩, ⟨#[116,117,114,110]⟩, ⟨#[108,111,110,103,101,114]⟩, ⟨#[107,105,110,100]⟩],
  (.c (.set 2 (.shr (.lst (.c (.tup (.c (.tup .n) (.c (.bl false) (.c (.bl false) .n)))) .n)))) (.c (.forr (.v 3) (.rng1 (.v 1)) (.c (.set 4 (.lst .n)) (.c (.forr (.v 5) (.seq (.v 2)) (.c (.ext 4 (.call 24 (.c (.v 0) (.c (.v 5) .n)))) .n)) (.c (.frz 4 (.set 2 (.v 4))) .n)))) (.c (.ret (.blt .sorted (.c (.v 2) .n))) .n))), false⟩
/-- kinds -/
def F26 : FDef := ⟨⟨#[107,105,110,100,115]⟩, .fr, [⟨#[108,105,110,101]⟩, ⟨#[109,97,110,121]⟩], [⟨#[108,105,110,101]⟩, ⟨#[109,97,110,121]⟩],
  (.c (.exp (.call 21 (.c (.v 0) .n))) (.c (.exp (.call 23 (.c (.v 1) .n))) (.c (.ret (.call 25 (.c (.v 0) (.c (.v 1) .n)))) .n))), false⟩
/-- is_kind -/
def F27 : FDef := ⟨⟨#[105,115,95,107,105,110,100]⟩, .sh, [⟨#[108,105,110,101]⟩, ⟨#[116,104,105,110,103]⟩], [⟨#[108,105,110,101]⟩, ⟨#[116,104,105,110,103]⟩, ⟨#[109,97,110,121]⟩, ⟨#[114,97,110,107]⟩, ⟨#[111,110,101]⟩],
  (.c (.ifs (.or (.c (.nt (.isi .tuple (.v 1))) (.c (.cmp .ne (.blt .len (.c (.v 1) .n)) (.int 3)) (.c (.nt (.isi .tuple (.ix (.v 1) (.int 0)))) .n)))) (.c (.ret (.bl false)) .n) .n) (.c (.ifs (.cmp .gt (.blt .len (.c (.ix (.v 1) (.int 0)) .n)) (.con 3)) (.c (.ret (.bl false)) .n) .n) (.c (.ifs (.nt (.blt .all (.c (.comp (.v 3) [3] (.seq (.ix (.v 1) (.int 0))) .nop (.call 22 (.c (.v 3) (.c (.int 0) (.c (.bin .sub (.con 3) (.int 1)) .n))))) .n))) (.c (.ret (.bl false)) .n) .n) (.c (.ifs (.nt (.blt .all (.c (.comp (.v 4) [4] (.seq (.sl (.v 1) (.int 1) .nop)) .nop (.isi .bool (.v 4))) .n))) (.c (.ret (.bl false)) .n) .n) (.c (.set 2 (.lset (.ix (.v 1) (.int 0)))) (.c (.ifs (.or (.c (.cmp .ne (.sset (.ix (.v 1) (.int 0))) (.lrng (.v 2))) (.c (.and (.c (.cmp .lt (.v 2) (.int 2)) (.c (.ix (.v 1) (.int 1)) (.c (.ix (.v 1) (.int 2)) .n)))) .n))) (.c (.ret (.bl false)) .n) .n) (.c (.ret (.and (.c (.or (.c (.cmp .gt (.v 2) (.int 0)) (.c (.nt (.or (.c (.ix (.v 1) (.int 1)) (.c (.ix (.v 1) (.int 2)) .n)))) .n))) (.c (.cmp .le (.ix (.v 1) (.int 1)) (.ix (.v 0) (.int 0))) (.c (.cmp .le (.ix (.v 1) (.int 2)) (.ix (.v 0) (.int 1))) .n))))) .n))))))), false⟩
/-- need_kind -/
def F28 : FDef := ⟨⟨#[110,101,101,100,95,107,105,110,100]⟩, .sh, [⟨#[108,105,110,101]⟩, ⟨#[107,105,110,100]⟩], [⟨#[108,105,110,101]⟩, ⟨#[107,105,110,100]⟩],
  (.c (.exp (.call 21 (.c (.v 0) .n))) (.c (.ifs (.nt (.call 27 (.c (.v 0) (.c (.v 1) .n)))) (.c (.raise ⟨#[66,97,100,75,105,110,100]⟩) .n) .n) .n)), false⟩
/-- ways -/
def F29 : FDef := ⟨⟨#[119,97,121,115]⟩, .fr, [⟨#[108,105,110,101]⟩, ⟨#[107,105,110,100]⟩], [⟨#[108,105,110,101]⟩, ⟨#[107,105,110,100]⟩],
  (.c (.exp (.call 28 (.c (.v 0) (.c (.v 1) .n)))) (.c (.exp (.call 23 (.c (.bin .add (.blt .len (.c (.ix (.v 1) (.int 0)) .n)) (.int 1)) .n))) (.c (.ret (.call 24 (.c (.v 0) (.c (.v 1) .n)))) .n))), false⟩
/-- less_one -/
def F30 : FDef := ⟨⟨#[108,101,115,115,95,111,110,101]⟩, .sh, [⟨#[107,105,110,100]⟩, ⟨#[112,108,97,99,101]⟩], [⟨#[107,105,110,100]⟩, ⟨#[112,108,97,99,101]⟩, ⟨#[111,119,110]⟩, ⟨#[114,101,115,116]⟩, ⟨#[108,97,116,101,114]⟩, ⟨#[114,97,110,107,115]⟩, ⟨#[105,115,95,108,111,119]⟩, ⟨#[105,115,95,104,105,103,104]⟩, ⟨#[114,97,110,107]⟩],
  (.c (.tset [5,6,7] (.v 0)) (.c (.set 2 (.ix (.v 5) (.v 1))) (.c (.set 3 (.bin .add (.sl (.v 5) .nop (.v 1)) (.sl (.v 5) (.bin .add (.v 1) (.int 1)) .nop))) (.c (.ifs (.cmp .inn (.v 2) (.v 3)) (.c (.ret (.tup (.c (.v 3) (.c (.v 6) (.c (.v 7) .n))))) .n) .n) (.c (.set 4 (.blt .tuple (.c (.comp (.v 8) [8] (.seq (.v 3)) .nop (.bin .sub (.v 8) (.blt .int (.c (.cmp .gt (.v 8) (.v 2)) .n)))) .n))) (.c (.ret (.tup (.c (.v 4) (.c (.and (.c (.v 6) (.c (.cmp .gt (.v 2) (.int 0)) .n))) (.c (.and (.c (.v 7) (.c (.cmp .lt (.v 2) (.blt .max (.c (.v 5) .n))) .n))) .n))))) .n)))))), false⟩
/-- without -/
def F31 : FDef := ⟨⟨#[119,105,116,104,111,117,116]⟩, .sh, [⟨#[108,105,110,101]⟩, ⟨#[107,105,110,100]⟩, ⟨#[112,108,97,99,101]⟩], [⟨#[108,105,110,101]⟩, ⟨#[107,105,110,100]⟩, ⟨#[112,108,97,99,101]⟩],
  (.c (.exp (.call 28 (.c (.v 0) (.c (.v 1) .n)))) (.c (.ifs (.nt (.call 22 (.c (.v 2) (.c (.int 0) (.c (.bin .sub (.blt .len (.c (.ix (.v 1) (.int 0)) .n)) (.int 1)) .n))))) (.c (.raise ⟨#[66,97,100,75,105,110,100]⟩) .n) .n) (.c (.ret (.call 30 (.c (.v 1) (.c (.v 2) .n)))) .n))), false⟩
/-- is_point -/
def F41 : FDef := ⟨⟨#[105,115,95,112,111,105,110,116]⟩, .sh, [⟨#[108,105,110,101]⟩, ⟨#[116,104,105,110,103]⟩], [⟨#[108,105,110,101]⟩, ⟨#[116,104,105,110,103]⟩, ⟨#[103,111,111,100]⟩],
  (.c (.set 2 (.and (.c (.isi .tuple (.v 1)) (.c (.cmp .eq (.blt .len (.c (.v 1) .n)) (.int 2)) .n)))) (.c (.ifs (.or (.c (.nt (.v 2)) (.c (.nt (.call 22 (.c (.ix (.v 1) (.int 0)) (.c (.bin .sub (.int 0) (.con 4)) (.c (.con 4) .n))))) (.c (.nt (.call 22 (.c (.ix (.v 1) (.int 1)) (.c (.int 1) (.c (.con 4) .n))))) .n)))) (.c (.ret (.bl false)) .n) .n) (.c (.ret (.and (.c (.nt (.and (.c (.ix (.v 0) (.int 0)) (.c (.cmp .lt (.ix (.v 1) (.int 0)) (.int 0)) .n)))) (.c (.nt (.and (.c (.ix (.v 0) (.int 1)) (.c (.cmp .gt (.ix (.v 1) (.int 0)) (.ix (.v 1) (.int 1))) .n)))) .n)))) .n))), false⟩
/-- need_points -/
def F42 : FDef := ⟨⟨#[110,101,101,100,95,112,111,105,110,116,115]⟩, .sh, [⟨#[108,105,110,101]⟩, ⟨#[112,111,105,110,116,115]⟩], [⟨#[108,105,110,101]⟩, ⟨#[112,111,105,110,116,115]⟩, ⟨#[112,111,105,110,116]⟩],
  (.c (.exp (.call 21 (.c (.v 0) .n))) (.c (.ifs (.or (.c (.nt (.isi .list (.v 1))) (.c (.cmp .gt (.blt .len (.c (.v 1) .n)) (.int 5)) (.c (.nt (.blt .all (.c (.comp (.v 2) [2] (.seq (.v 1)) .nop (.call 41 (.c (.v 0) (.c (.v 2) .n)))) .n))) .n)))) (.c (.raise ⟨#[66,97,100,80,111,105,110,116]⟩) .n) .n) .n)), false⟩
/-- is_less -/
def F43 : FDef := ⟨⟨#[105,115,95,108,101,115,115]⟩, .sh, [⟨#[111,110,101]⟩, ⟨#[111,116,104,101,114]⟩], [⟨#[111,110,101]⟩, ⟨#[111,116,104,101,114]⟩],
  (.c (.ret (.cmp .lt (.bin .mul (.ix (.v 0) (.int 0)) (.ix (.v 1) (.int 1))) (.bin .mul (.ix (.v 1) (.int 0)) (.ix (.v 0) (.int 1))))) .n), false⟩
/-- kind_at -/
def F44 : FDef := ⟨⟨#[107,105,110,100,95,97,116]⟩, .sh, [⟨#[108,105,110,101]⟩, ⟨#[112,111,105,110,116,115]⟩], [⟨#[108,105,110,101]⟩, ⟨#[112,111,105,110,116,115]⟩, ⟨#[104,101,97,100,115]⟩, ⟨#[112,111,105,110,116]⟩, ⟨#[114,97,110,107,115]⟩, ⟨#[105,115,95,108,111,119]⟩, ⟨#[111,110,101]⟩],
  (.c (.set 2 (.lst .n)) (.c (.forr (.v 3) (.seq (.v 1)) (.c (.ifs (.nt (.blt .any (.c (.comp (.v 6) [6] (.seq (.o 2)) .nop (.cmp .eq (.bin .mul (.ix (.v 3) (.int 0)) (.ix (.v 6) (.int 1))) (.bin .mul (.ix (.v 6) (.int 0)) (.ix (.v 3) (.int 1))))) .n))) (.c (.app 2 (.v 3)) .n) .n) .n)) (.c (.set 4 (.shr (.comp (.v 3) [3] (.seq (.v 1)) .nop (.blt .len (.c (.comp (.v 6) [6] (.seq (.o 2)) (.call 43 (.c (.v 6) (.c (.v 3) .n))) (.int 1)) .n))))) (.c (.set 5 (.and (.c (.ix (.v 0) (.int 0)) (.c (.blt .any (.c (.comp (.v 3) [3] (.seq (.v 1)) .nop (.cmp .eq (.ix (.v 3) (.int 0)) (.int 0))) .n)) .n)))) (.c (.ret (.tup (.c (.blt .tuple (.c (.v 4) .n)) (.c (.v 5) (.c (.and (.c (.ix (.v 0) (.int 1)) (.c (.blt .any (.c (.comp (.v 3) [3] (.seq (.v 1)) .nop (.cmp .eq (.ix (.v 3) (.int 0)) (.ix (.v 3) (.int 1)))) .n)) .n))) .n))))) .n))))), false⟩
/-- kind_of -/
def F45 : FDef := ⟨⟨#[107,105,110,100,95,111,102]⟩, .sh, [⟨#[108,105,110,101]⟩, ⟨#[112,111,105,110,116,115]⟩], [⟨#[108,105,110,101]⟩, ⟨#[112,111,105,110,116,115]⟩],
  (.c (.exp (.call 42 (.c (.v 0) (.c (.v 1) .n)))) (.c (.ret (.call 44 (.c (.v 0) (.c (.v 1) .n)))) .n)), false⟩
/-- points_at -/
def F46 : FDef := ⟨⟨#[112,111,105,110,116,115,95,97,116]⟩, .fr, [⟨#[107,105,110,100]⟩], [⟨#[107,105,110,100]⟩, ⟨#[109,97,110,121]⟩, ⟨#[102,111,117,110,100]⟩, ⟨#[114,97,110,107]⟩, ⟨#[114,97,110,107,115]⟩, ⟨#[105,115,95,108,111,119]⟩, ⟨#[105,115,95,104,105,103,104]⟩],
  (.c (.tset [4,5,6] (.v 0)) (.c (.set 1 (.bin .add (.blt .max (.c (.bin .add (.v 4) (.tup (.c (.neg (.int 1)) .n))) .n)) (.int 1))) (.c (.set 2 (.lst .n)) (.c (.forr (.v 3) (.seq (.v 4)) (.c (.ifs (.and (.c (.v 5) (.c (.cmp .eq (.v 3) (.int 0)) .n))) (.c (.app 2 (.tup (.c (.int 0) (.c (.int 1) .n)))) .n) (.c (.ifs (.and (.c (.v 6) (.c (.cmp .eq (.v 3) (.bin .sub (.v 1) (.int 1))) .n))) (.c (.app 2 (.tup (.c (.int 1) (.c (.int 1) .n)))) .n) (.c (.app 2 (.tup (.c (.bin .add (.v 3) (.int 1)) (.c (.bin .add (.v 1) (.int 1)) .n)))) .n)) .n)) .n)) (.c (.retO 2) .n))))), false⟩
/-- points_of -/
def F47 : FDef := ⟨⟨#[112,111,105,110,116,115,95,111,102]⟩, .fr, [⟨#[108,105,110,101]⟩, ⟨#[107,105,110,100]⟩], [⟨#[108,105,110,101]⟩, ⟨#[107,105,110,100]⟩],
  (.c (.exp (.call 28 (.c (.v 0) (.c (.v 1) .n)))) (.c (.ret (.call 46 (.c (.v 1) .n))) .n)), false⟩
/-- _law_line -/
def F32 : FDef := ⟨⟨#[95,108,97,119,95,108,105,110,101]⟩, .sh, [⟨#[95,108,97,119,95,109,111,114,101]⟩], [⟨#[95,108,97,119,95,109,111,114,101]⟩],
  (.c (.ret (.tup (.c (.cmp .eq (.bin .mod (.v 0) (.int 2)) (.int 0)) (.c (.cmp .eq (.bin .mod (.bin .fdiv (.v 0) (.int 2)) (.int 2)) (.int 0)) .n)))) .n), false⟩
/-- _law_top -/
def F34 : FDef := ⟨⟨#[95,108,97,119,95,116,111,112]⟩, .sh, [], [],
  (.c (.ret (.bin .mul (.int 720720) (.int 1048576))) .n), false⟩
/-- _law_dense -/
def F36 : FDef := ⟨⟨#[95,108,97,119,95,100,101,110,115,101]⟩, .sh, [⟨#[95,108,97,119,95,114,111,119]⟩], [⟨#[95,108,97,119,95,114,111,119]⟩, ⟨#[95,108,97,119,95,111,110,101]⟩, ⟨#[95,108,97,119,95,111,116,104,101,114]⟩],
  (.c (.ret (.blt .tuple (.c (.comp (.v 1) [1] (.seq (.v 0)) .nop (.lset (.comp (.v 2) [2] (.seq (.v 0)) (.cmp .lt (.v 2) (.v 1)) (.v 2)))) .n))) .n), false⟩
end Py
end
section
set_option exponentiation.threshold 2000
set_option maxHeartbeats 4000000
namespace Py
open PySem PySem.Spec PyProof.Rows L2 Py
abbrev intsD (l : List Int) : D := .lst (l.map D.int)
abbrev kyI (i : Int) : D × NestedKey := (.int i, .num i)
theorem pairs_int : ∀ l : List Int, pairsD (l.map D.int) = some (l.map kyI)
  | [] => rfl
  | i :: l => by
    rw [List.map_cons]
    unfold pairsD
    rw [pairs_int l]; rfl
theorem dd_int : ∀ (l L : List Int), (l.map kyI).foldl ddS (L.map kyI) = (ddI L l).map kyI
  | [], L => rfl
  | x :: l, L => by
    rw [List.map_cons, List.foldl_cons, ddI_cons]
    have e : (kyI x).2 ∈ (L.map kyI).map (·.2) ↔ x ∈ L := by
      rw [List.map_map, List.mem_map]
      constructor
      · rintro ⟨y, hy, q⟩
        have q : NestedKey.num y = .num x := q
        injection q with q
        rw [← q]; exact hy
      · exact fun h => ⟨x, h, rfl⟩
    by_cases q : x ∈ L
    · rw [if_pos q]
      have : ddS (L.map kyI) (kyI x) = L.map kyI := if_pos (e.mpr q)
      rw [this]; exact dd_int l L
    · rw [if_neg q]
      have : ddS (L.map kyI) (kyI x) = (L ++ [x]).map kyI := by
        rw [List.map_append]; exact if_neg fun z => q (e.mp z)
      rw [this]; exact dd_int l (L ++ [x])
theorem set_int {l : List Int} (hl : l.length + 1 < scanBound) : setL (l.map D.int) = some ((ddI [] l).map D.int) := by
  unfold setL
  rw [pairs_int]
  dsimp only
  have : setOk (l.map kyI) = true := by
    unfold setOk
    rw [Bool.or_eq_true]
    refine .inl ?_
    rw [Bool.and_eq_true, decide_eq_true_eq, List.length_map]
    exact ⟨by simp [isLeafK], hl⟩
  rw [if_pos this]
  have := dd_int l []
  unfold ddK
  rw [show ([] : List (D × NestedKey)) = [].map kyI from rfl, this, List.map_map]
  rfl
theorem lset_int {l : List Int} (hl : l.length ≤ 40) : lsD (intsD l) = .ok (.int ((ddI [] l).length : Nat)) := by
  show (RR.of (setL (l.map D.int)) >>= fun r => RR.ok (D.int r.length)) = _
  rw [set_int (by unfold scanBound; omega)]
  show RR.ok _ = _
  rw [List.length_map]
/-- the dense ranks of whole numbers -/
def dense (l : List Int) : List Int := l.map fun x => ((ddI [] (l.filter fun y => decide (y < x))).length : Int)
theorem e_lset {C : List D} {G : GT} {e : E} {ρ : Env} {d : D} {r : RR D} (h : ev C G e ρ = .ok d) (h2 : lsD d = r) : ev C G (.lset e) ρ = r := by
  simp only [ev]; rw [h, RR.bind_ok, h2]
theorem f36 {G : GT} {l : List Int} (hl : l.length ≤ 40) : F36.run FM CC G [intsD l] = .ok (.tup ((dense l).map D.int)) := by
  refine x_run (x_ret ?_)
  show ev CC G _ [some (false, intsD l), none, none] = _
  have hc : ev CC G (.comp (.v 1) [1] (.seq (.v 0)) .nop (.lset (.comp (.v 2) [2] (.seq (.v 0)) (.cmp .lt (.v 2) (.v 1)) (.v 2)))) [some (false, intsD l), none, none] = .ok (intsD (dense l)) := by
    have em : (dense l).map D.int = l.map fun x => D.int ((ddI [] (l.filter fun y => decide (y < x))).length : Nat) := by
      unfold dense; rw [List.map_map]; rfl
    show _ = RR.ok (D.lst ((dense l).map D.int))
    rw [em]
    refine compF_map (l := l) (en := D.int) (g := fun x => .int ((ddI [] (l.filter fun y => decide (y < x))).length : Nat)) (by simp [evr, ev, seqD]) fun x hx => ?_
    have hi : ev CC G (.comp (.v 2) [2] (.seq (.v 0)) (.cmp .lt (.v 2) (.v 1)) (.v 2)) [some (false, intsD l), some (false, .int x), none] = .ok (intsD (l.filter fun y => decide (y < x))) := by
      refine compF_filter (l := l) (fun y => decide (y < x)) (en := D.int) (g := D.int) (by simp [evr, ev, seqD]) fun y hy => ?_
      simp only [turn_v, isNop]
      show (if false = true then _ else _) >>= _ = _
      rw [if_neg Bool.false_ne_true]
      by_cases q : y < x <;> simp [ev, wipeD, q]
    simp only [turn_v, isNop]
    show (ev CC G (.lset (.comp (.v 2) [2] (.seq (.v 0)) (.cmp .lt (.v 2) (.v 1)) (.v 2))) [some (false, intsD l), some (false, .int x), none] >>= _) = _
    rw [e_lset hi (lset_int (Nat.le_trans (List.length_filter_le _ _) hl))]; rfl
  exact e_blt hc rfl
theorem f34 {G : GT} : F34.run FM CC G [] = .ok (.int (720720 * 1048576)) := by
  refine x_run (x_ret ?_)
  exact e_bin (x := .int 720720) (y := .int 1048576) (by simp [ev]) (by simp [ev]) (b_mul _ _ (.inl (by decide)))
/-! ### points -/
abbrev ptD (p : Int × Int) : D := .tup [.int p.1, .int p.2]
abbrev ptsD (l : List (Int × Int)) : D := .lst (l.map ptD)
def encL (a b : Bool) : D := .tup [.bl a, .bl b]
/-- it lies on the line -/
structure PtIn (a b : Bool) (p : Int × Int) : Prop extends PtOk p where
  lo : a = true → 0 ≤ p.1
  hi : b = true → p.1 ≤ p.2
theorem f22 {G : GT} (i lo hi : Int) : F22.run FM CC G [.int i, .int lo, .int hi] = .ok (.bl (decide (lo ≤ i) && decide (i ≤ hi))) := by
  refine x_run (x_ret ?_)
  have hc : ev CC G (.chn .le .le (.v 1) (.v 0) (.v 2)) [some (false, .int i), some (false, .int lo), some (false, .int hi)] = .ok (.bl (decide (lo ≤ i) && decide (i ≤ hi))) :=
    e_chn (x := .int lo) (y := .int i) (z := .int hi) (by simp [ev]) (by simp [ev]) (by simp [ev]) rfl fun _ => rfl
  simp only [ev] at hc ⊢
  simp [startD, isiR, opq, isTy, ev]
  simpa using hc
theorem e_c3 {C : List D} {G : GT} {f : Nat} {a b c : E} {ρ : Env} {x y z : D} (h1 : ev C G a ρ = .ok x) (h2 : ev C G b ρ = .ok y) (h3 : ev C G c ρ = .ok z) : ev C G (.call f (.c a (.c b (.c c .n)))) ρ = callG G f [x, y, z] := by
  simp only [ev, evs]; rw [h1, h2, h3]; rfl
theorem f41 {G : GT} {a b : Bool} {p : Int × Int} (h : PtIn a b p) (h22 : ∀ i lo hi : Int, callG G 22 [.int i, .int lo, .int hi] = .ok (.bl (decide (lo ≤ i) && decide (i ≤ hi)))) : F41.run FM CC G [encL a b, ptD p] = .ok (.bl true) := by
  have b1 := h.b1
  have b2 := h.b2
  have a1 := h.a1
  have a2 := h.a2
  have i0 : ∀ x y : D, ixD (.tup [x, y]) (.int 0) = some x := fun x y => atI0 _ _
  have i1 : ∀ x y : D, ixD (.tup [x, y]) (.int 1) = some y := fun x y => atI1 _ _ _
  refine x_run ?_
  refine x_set (d := .bl true) (by simp [ev, evs, startD, isiR, opq, isTy, Blt.g, lenD]) ?_
  show exs FM CC G _ [some (false, encL a b), some (false, ptD p), some (false, .bl true)] = _
  have e1 : ev CC G (.call 22 (.c (.ix (.v 1) (.int 0)) (.c (.bin .sub (.int 0) (.con 4)) (.c (.con 4) .n)))) [some (false, encL a b), some (false, ptD p), some (false, .bl true)] = .ok (.bl true) := by
    rw [e_c3 (x := .int p.1) (y := .int (-1000)) (z := .int 1000) (e_ix (x := ptD p) (y := .int 0) (by simp [ev]) (by simp [ev]) (i0 _ _)) (e_bin (x := .int 0) (y := .int 1000) (by simp [ev]) rfl rfl) rfl, h22]
    rw [decide_eq_true a1, decide_eq_true a2]; rfl
  have e2 : ev CC G (.call 22 (.c (.ix (.v 1) (.int 1)) (.c (.int 1) (.c (.con 4) .n)))) [some (false, encL a b), some (false, ptD p), some (false, .bl true)] = .ok (.bl true) := by
    rw [e_c3 (x := .int p.2) (y := .int 1) (z := .int 1000) (e_ix (x := ptD p) (y := .int 1) (by simp [ev]) (by simp [ev]) (i1 _ _)) (by simp [ev]) rfl, h22]
    rw [decide_eq_true b1, decide_eq_true b2]; rfl
  refine x_no ?_ (x_ret ?_)
  · simp only [evR2, evR1, ev] at e1 e2 ⊢
    simp [e1, e2]
  · have g1 : a = true → ¬ p.1 < 0 := fun z => by have := h.lo z; omega
    have g2 : b = true → ¬ p.2 < p.1 := fun z => by have := h.hi z; omega
    cases a <;> cases b <;> simp [ev, evs, encL, ptD, i0, i1, g1, g2]
end Py
end
section
set_option exponentiation.threshold 2000
set_option maxHeartbeats 4000000
namespace Py
open PySem PySem.Spec PyProof.Rows L2 Py
theorem i0 (x y : D) : ixD (.tup [x, y]) (.int 0) = some x := atI0 _ _
theorem i1 (x y : D) : ixD (.tup [x, y]) (.int 1) = some y := atI1 _ _ _
theorem f20 {G : GT} (a b : Bool) : F20.run FM CC G [encL a b] = .ok (.bl true) := by cases a <;> cases b <;> rfl
theorem f21 {G : GT} {a b : Bool} (h20 : callG G 20 [encL a b] = .ok (.bl true)) : F21.run FM CC G [encL a b] = .ok .non := by
  rw [run_eq]
  have : exs FM CC G F21.body (startD F21.N.length [encL a b]) = .ok (.nx [some (false, encL a b)]) :=
    x_no (e_nt (x := .bl true) (e_call1 (x := encL a b) (by simp [ev, startD]) h20) rfl) rfl
  rw [this]; rfl
theorem asBls_true : ∀ l : List (Int × Int), (l.map fun _ => true).all id = true
  | [] => rfl
  | _ :: l => by rw [List.map_cons, List.all_cons, asBls_true l]; rfl
theorem f42 {G : GT} {a b : Bool} {l : List (Int × Int)} (hl : l.length ≤ 5) (h21 : callG G 21 [encL a b] = .ok .non) (h41 : ∀ p ∈ l, callG G 41 [encL a b, ptD p] = .ok (.bl true)) : F42.run FM CC G [encL a b, ptsD l] = .ok .non := by
  rw [run_eq]
  have hc : ev CC G (.comp (.v 2) [2] (.seq (.v 1)) .nop (.call 41 (.c (.v 0) (.c (.v 2) .n)))) [some (false, encL a b), some (false, ptsD l), none] = .ok (.lst ((l.map fun _ => true).map D.bl)) := by
    rw [List.map_map]
    refine compF_map (l := l) (en := ptD) (g := fun _ => .bl true) (by simp [evr, ev, seqD]) fun p hp => ?_
    simp only [turn_v, isNop]
    show (ev CC G (.call 41 (.c (.v 0) (.c (.v 2) .n))) [some (false, encL a b), some (false, ptsD l), some (false, ptD p)] >>= _) = _
    rw [e_call2 (x := encL a b) (y := ptD p) (by simp [ev]) (by simp [ev]) (h41 p hp)]; rfl
  have hall : ev CC G (.nt (.blt .all (.c (.comp (.v 2) [2] (.seq (.v 1)) .nop (.call 41 (.c (.v 0) (.c (.v 2) .n)))) .n))) [some (false, encL a b), some (false, ptsD l), none] = .ok (.bl false) := by
    have := e_nt (e_blt (f := .all) hc (all_g _)) (k := true) (by rw [asBls_true]; rfl)
    exact this
  have : exs FM CC G F42.body (startD F42.N.length [encL a b, ptsD l]) = .ok (.nx [some (false, encL a b), some (false, ptsD l), none]) := by
    refine x_one (ρ' := [some (false, encL a b), some (false, ptsD l), none]) ?_ (x_no ?_ rfl)
    · simp only [ex]
      rw [e_call1 (x := encL a b) (by simp [ev, startD]) h21]; rfl
    · have hlen : ¬ (5 : Int) < (l.length : Int) := by omega
      have e3 : Blt.len.g [ptsD l] = some (.int (l.length : Int)) := by show some (D.int ((l.map ptD).length : Nat)) = _; rw [List.length_map]
      have e1 : ev CC G (.nt (.isi .list (.v 1))) [some (false, encL a b), some (false, ptsD l), none] = .ok (.bl false) := by simp [ev, isiR, opq, isTy]
      have e2 : ev CC G (.cmp .gt (.blt .len (.c (.v 1) .n)) (.int 5)) [some (false, encL a b), some (false, ptsD l), none] = .ok (.bl false) := by
        refine e_cmp (x := .int (l.length : Int)) (y := .int 5) (e_blt (d := ptsD l) (by simp [ev]) e3) (by simp [ev]) ?_
        rw [c_gt, decide_eq_false hlen]
      show ev CC G (.or (.c (.nt (.isi .list (.v 1))) (.c (.cmp .gt (.blt .len (.c (.v 1) .n)) (.int 5)) (.c (.nt (.blt .all (.c (.comp (.v 2) [2] (.seq (.v 1)) .nop (.call 41 (.c (.v 0) (.c (.v 2) .n)))) .n))) .n)))) [some (false, encL a b), some (false, ptsD l), none] = _
      rw [ev, evR2, e1, RR.bind_ok, tru_bl, RR.bind_ok, if_neg Bool.false_ne_true, evR2, e2, RR.bind_ok, tru_bl, RR.bind_ok, if_neg Bool.false_ne_true, evR1, hall]
  rw [this]; rfl
theorem mulP {p q : Int × Int} (hp : PtOk p) (hq : PtOk q) : binD .mul (.int p.1) (.int q.2) = some (.int (p.1 * q.2)) := by
  have := hp.a1; have := hp.a2
  exact b_mul _ _ (.inl (by omega))
theorem cross {G : GT} {o p : Int × Int} {i j : Nat} {ρ : Env} (ho : PtOk o) (hp : PtOk p) (h1 : varD i ρ = .ok (ptD o)) (h2 : varD j ρ = .ok (ptD p)) : ev CC G (.bin .mul (.ix (.v i) (.int 0)) (.ix (.v j) (.int 1))) ρ = .ok (.int (o.1 * p.2)) :=
  e_bin (x := .int o.1) (y := .int p.2) (e_ix (x := ptD o) (y := .int 0) (by simp only [ev]; exact h1) (by simp [ev]) (i0 _ _)) (e_ix (x := ptD p) (y := .int 1) (by simp only [ev]; exact h2) (by simp [ev]) (i1 _ _)) (mulP ho hp)
theorem f43 {G : GT} {o p : Int × Int} (ho : PtOk o) (hp : PtOk p) : F43.run FM CC G [ptD o, ptD p] = .ok (.bl (decide (o.1 * p.2 < p.1 * o.2))) :=
  x_run (x_ret (e_cmp (x := .int (o.1 * p.2)) (y := .int (p.1 * o.2)) (cross ho hp rfl rfl) (cross hp ho rfl rfl) rfl))
/-- the heads' loop -/
theorem heads_loop {G : GT} {o0 o1 o4 o5 o6 : Option (Bool × D)} : ∀ (l L : List (Int × Int)) (o3 : Option (Bool × D)), (∀ p ∈ l, PtOk p) → (∀ p ∈ L, PtOk p) → L.length + l.length ≤ 100 →
    ∃ o3', execFor (.v 3) (fun ρ => exs FM CC G (.c (.ifs (.nt (.blt .any (.c (.comp (.v 6) [6] (.seq (.o 2)) .nop (.cmp .eq (.bin .mul (.ix (.v 3) (.int 0)) (.ix (.v 6) (.int 1))) (.bin .mul (.ix (.v 6) (.int 0)) (.ix (.v 3) (.int 1))))) .n))) (.c (.app 2 (.v 3)) .n) .n) .n) ρ) (l.map ptD) [o0, o1, some (true, ptsD L), o3, o4, o5, o6] = .ok (.nx [o0, o1, some (true, ptsD (hdP L l)), o3', o4, o5, o6])
  | [], L, o3, _, _, _ => ⟨o3, rfl⟩
  | p :: l, L, o3, h, hL, hlen => by
    have hp := h p List.mem_cons_self
    have hl := fun q hq => h q (List.mem_cons_of_mem _ hq)
    rw [List.length_cons] at hlen
    have hc : ev CC G (.comp (.v 6) [6] (.seq (.o 2)) .nop (.cmp .eq (.bin .mul (.ix (.v 3) (.int 0)) (.ix (.v 6) (.int 1))) (.bin .mul (.ix (.v 6) (.int 0)) (.ix (.v 3) (.int 1))))) [o0, o1, some (true, ptsD L), some (false, ptD p), o4, o5, o6] = .ok (.lst ((L.map fun o => decide (p.1 * o.2 = o.1 * p.2)).map D.bl)) := by
      rw [List.map_map]
      refine compF_map (l := L) (en := ptD) (g := fun o => .bl (decide (p.1 * o.2 = o.1 * p.2))) (by simp [evr, ev, seqD]) fun o ho => ?_
      simp only [turn_v, isNop]
      have := e_cmp (o := .eq) (C := CC) (G := G) (a := .bin .mul (.ix (.v 3) (.int 0)) (.ix (.v 6) (.int 1))) (b := .bin .mul (.ix (.v 6) (.int 0)) (.ix (.v 3) (.int 1))) (ρ := [o0, o1, some (true, ptsD L), some (false, ptD p), o4, o5, some (false, ptD o)]) (cross hp (hL o ho) rfl rfl) (cross (hL o ho) hp rfl rfl) (c_eq _ _)
      show (ev CC G _ [o0, o1, some (true, ptsD L), some (false, ptD p), o4, o5, some (false, ptD o)] >>= _) = _
      rw [this]; rfl
    have hn := e_nt (e_blt (f := .any) hc (any_g _)) rfl
    have ea : ((L.map fun o => decide (p.1 * o.2 = o.1 * p.2)).any id) = L.any fun o => decide (p.1 * o.2 = o.1 * p.2) := by rw [List.any_map]; rfl
    rw [ea] at hn
    by_cases q : (L.any fun o => decide (p.1 * o.2 = o.1 * p.2)) = true
    · rw [q] at hn
      obtain ⟨o3', e⟩ := heads_loop (G := G) (o0 := o0) (o1 := o1) (o4 := o4) (o5 := o5) (o6 := o6) l L (some (false, ptD p)) hl hL (by omega)
      refine ⟨o3', ?_⟩
      rw [List.map_cons, hdP, if_pos q]
      exact f_cons (ρ1 := [o0, o1, some (true, ptsD L), some (false, ptD p), o4, o5, o6]) rfl (x_no hn rfl) e
    · have q0 : (L.any fun o => decide (p.1 * o.2 = o.1 * p.2)) = false := Bool.eq_false_iff.mpr q
      rw [q0] at hn
      obtain ⟨o3', e⟩ := heads_loop (G := G) (o0 := o0) (o1 := o1) (o4 := o4) (o5 := o5) (o6 := o6) l (L ++ [p]) (some (false, ptD p)) hl (fun x hx => (List.mem_append.mp hx).elim (hL x) fun z => by rw [List.mem_singleton.mp z]; exact hp) (by rw [List.length_append]; simp; omega)
      refine ⟨o3', ?_⟩
      rw [List.map_cons, hdP, if_neg q]
      refine f_cons (ρ1 := [o0, o1, some (true, ptsD L), some (false, ptD p), o4, o5, o6]) (ρ2 := [o0, o1, some (true, ptsD (L ++ [p])), some (false, ptD p), o4, o5, o6]) rfl ?_ e
      refine x_yesN (ρ' := [o0, o1, some (true, ptsD (L ++ [p])), some (false, ptD p), o4, o5, o6]) hn (x_one (ρ' := [o0, o1, some (true, ptsD (L ++ [p])), some (false, ptD p), o4, o5, o6]) ?_ rfl) rfl
      simp only [ex]
      rw [appO_ok (l := L.map ptD) rfl (by rw [List.length_map]; omega)]
      simp [ev, ptsD]
/-- the kind of points -/
def kindP (a b : Bool) (l : List (Int × Int)) : D := .tup [.tup (l.map fun p => .int ((hdP [] l).filter fun o => decide (o.1 * p.2 < p.1 * o.2)).length), .bl (a && l.any fun p => decide (p.1 = 0)), .bl (b && l.any fun p => decide (p.1 = p.2))]
theorem f44 {G : GT} {a b : Bool} {l : List (Int × Int)} (hl : l.length ≤ 50) (h : ∀ p ∈ l, PtOk p) (h43 : ∀ o p : Int × Int, PtOk o → PtOk p → callG G 43 [ptD o, ptD p] = .ok (.bl (decide (o.1 * p.2 < p.1 * o.2)))) : F44.run FM CC G [encL a b, ptsD l] = .ok (kindP a b l) := by
  obtain ⟨hh, _, _⟩ := hdP_ok l [] h (fun _ z => by cases z)
  unfold kindP
  refine x_run ?_
  refine x_set (d := .lst []) (by simp [ev, evs]) ?_
  show exs FM CC G _ [some (false, encL a b), some (false, ptsD l), some (true, ptsD []), none, none, none, none] = _
  obtain ⟨o3, e⟩ := heads_loop (G := G) (o0 := some (false, encL a b)) (o1 := some (false, ptsD l)) (o4 := none) (o5 := none) (o6 := none) l [] none h (fun _ z => by cases z) (by simp; omega)
  refine x_for (ds := l.map ptD) (by simp [evr, ev, seqD]) e ?_
  have hr : ev CC G (.comp (.v 3) [3] (.seq (.v 1)) .nop (.blt .len (.c (.comp (.v 6) [6] (.seq (.o 2)) (.call 43 (.c (.v 6) (.c (.v 3) .n))) (.int 1)) .n))) [some (false, encL a b), some (false, ptsD l), some (true, ptsD (hdP [] l)), o3, none, none, none] = .ok (.lst (l.map fun p => .int ((hdP [] l).filter fun o => decide (o.1 * p.2 < p.1 * o.2)).length)) := by
    refine compF_map (l := l) (en := ptD) (g := fun p => .int ((hdP [] l).filter fun o => decide (o.1 * p.2 < p.1 * o.2)).length) ?_ fun p hp => ?_
    · simp only [evr, ev]; rfl
    have hi : ev CC G (.comp (.v 6) [6] (.seq (.o 2)) (.call 43 (.c (.v 6) (.c (.v 3) .n))) (.int 1)) [some (false, encL a b), some (false, ptsD l), some (true, ptsD (hdP [] l)), some (false, ptD p), none, none, none] = .ok (.lst (((hdP [] l).filter fun o => decide (o.1 * p.2 < p.1 * o.2)).map fun _ => .int 1)) := by
      refine compF_filter (l := hdP [] l) (fun o => decide (o.1 * p.2 < p.1 * o.2)) (en := ptD) (g := fun _ => .int 1) (by simp [evr, ev, seqD]) fun o ho => ?_
      simp only [turn_v, isNop]
      show (if false = true then _ else _) >>= _ = _
      rw [if_neg Bool.false_ne_true]
      have e43 : ev CC G (.call 43 (.c (.v 6) (.c (.v 3) .n))) [some (false, encL a b), some (false, ptsD l), some (true, ptsD (hdP [] l)), some (false, ptD p), none, none, some (false, ptD o)] = .ok (.bl (decide (o.1 * p.2 < p.1 * o.2))) := e_call2 (x := ptD o) (y := ptD p) (by simp [ev]) (by simp [ev]) (h43 o p (hh o ho) (h p hp))
      show (ev CC G (.call 43 (.c (.v 6) (.c (.v 3) .n))) [some (false, encL a b), some (false, ptsD l), some (true, ptsD (hdP [] l)), some (false, ptD p), none, none, some (false, ptD o)] >>= truR) >>= _ = _
      rw [e43]
      by_cases q : o.1 * p.2 < p.1 * o.2 <;> simp [q, ev]
    simp only [turn_v, isNop]
    show (ev CC G (.blt .len (.c (.comp (.v 6) [6] (.seq (.o 2)) (.call 43 (.c (.v 6) (.c (.v 3) .n))) (.int 1)) .n)) [some (false, encL a b), some (false, ptsD l), some (true, ptsD (hdP [] l)), some (false, ptD p), none, none, none] >>= _) = _
    rw [e_blt hi (show Blt.len.g _ = some (.int _) from rfl)]
    simp
  refine x_set (e_shr hr) ?_
  show exs FM CC G _ [some (false, encL a b), some (false, ptsD l), some (true, ptsD (hdP [] l)), o3, some (false, .lst (l.map fun p => .int ((hdP [] l).filter fun o => decide (o.1 * p.2 < p.1 * o.2)).length)), none, none] = _
  generalize (l.map fun p => D.int ((hdP [] l).filter fun o => decide (o.1 * p.2 < p.1 * o.2)).length) = rk at *
  have lo : ∀ (o3 o5 : Option (Bool × D)), ev CC G (.blt .any (.c (.comp (.v 3) [3] (.seq (.v 1)) .nop (.cmp .eq (.ix (.v 3) (.int 0)) (.int 0))) .n)) [some (false, encL a b), some (false, ptsD l), some (true, ptsD (hdP [] l)), o3, some (false, .lst rk), o5, none] = .ok (.bl (l.any fun p => decide (p.1 = 0))) := fun o3 o5 => by
    have hc : ev CC G (.comp (.v 3) [3] (.seq (.v 1)) .nop (.cmp .eq (.ix (.v 3) (.int 0)) (.int 0))) [some (false, encL a b), some (false, ptsD l), some (true, ptsD (hdP [] l)), o3, some (false, .lst rk), o5, none] = .ok (.lst ((l.map fun p => decide (p.1 = 0)).map D.bl)) := by
      rw [List.map_map]
      refine compF_map (l := l) (en := ptD) (g := fun p => .bl (decide (p.1 = 0))) (by simp [evr, ev, seqD]) fun p hp => ?_
      simp only [turn_v, isNop]
      simp [ev, i0, wipeD]
    have := e_blt (f := .any) hc (any_g _)
    rw [List.any_map] at this
    exact this
  have hi : ∀ (o3 o5 : Option (Bool × D)), ev CC G (.blt .any (.c (.comp (.v 3) [3] (.seq (.v 1)) .nop (.cmp .eq (.ix (.v 3) (.int 0)) (.ix (.v 3) (.int 1)))) .n)) [some (false, encL a b), some (false, ptsD l), some (true, ptsD (hdP [] l)), o3, some (false, .lst rk), o5, none] = .ok (.bl (l.any fun p => decide (p.1 = p.2))) := fun o3 o5 => by
    have hc : ev CC G (.comp (.v 3) [3] (.seq (.v 1)) .nop (.cmp .eq (.ix (.v 3) (.int 0)) (.ix (.v 3) (.int 1)))) [some (false, encL a b), some (false, ptsD l), some (true, ptsD (hdP [] l)), o3, some (false, .lst rk), o5, none] = .ok (.lst ((l.map fun p => decide (p.1 = p.2)).map D.bl)) := by
      rw [List.map_map]
      refine compF_map (l := l) (en := ptD) (g := fun p => .bl (decide (p.1 = p.2))) (by simp [evr, ev, seqD]) fun p hp => ?_
      simp only [turn_v, isNop]
      simp [ev, i0, i1, wipeD]
    have := e_blt (f := .any) hc (any_g _)
    rw [List.any_map] at this
    exact this
  have il : ixD (encL a b) (.int 0) = some (.bl a) := i0 _ _
  have ih : ixD (encL a b) (.int 1) = some (.bl b) := i1 _ _
  refine x_set (d := .bl (a && l.any fun p => decide (p.1 = 0))) ?_ ?_
  · rw [ev, evA2, e_ix (x := encL a b) (y := .int 0) (by simp [ev]) (by simp [ev]) il, RR.bind_ok, tru_bl, RR.bind_ok, evA1, lo]
    cases a <;> rfl
  show exs FM CC G _ [some (false, encL a b), some (false, ptsD l), some (true, ptsD (hdP [] l)), o3, some (false, .lst rk), some (false, .bl (a && l.any fun p => decide (p.1 = 0))), none] = _
  refine x_ret ?_
  have e3 : ev CC G (.and (.c (.ix (.v 0) (.int 1)) (.c (.blt .any (.c (.comp (.v 3) [3] (.seq (.v 1)) .nop (.cmp .eq (.ix (.v 3) (.int 0)) (.ix (.v 3) (.int 1)))) .n)) .n))) [some (false, encL a b), some (false, ptsD l), some (true, ptsD (hdP [] l)), o3, some (false, .lst rk), some (false, .bl (a && l.any fun p => decide (p.1 = 0))), none] = .ok (.bl (b && l.any fun p => decide (p.1 = p.2))) := by
    rw [ev, evA2, e_ix (x := encL a b) (y := .int 1) (by simp [ev]) (by simp [ev]) ih, RR.bind_ok, tru_bl, RR.bind_ok, evA1, hi]
    cases b <;> rfl
  exact e_tup3 (e_blt (d := .lst rk) (by simp [ev]) rfl) (by simp [ev]) e3
theorem f45 {G : GT} {x y k : D} (h42 : callG G 42 [x, y] = .ok .non) (h44 : callG G 44 [x, y] = .ok k) : F45.run FM CC G [x, y] = .ok k := by
  refine x_run ?_
  refine x_one (ρ' := [some (false, x), some (false, y)]) ?_ (x_ret (e_call2 (x := x) (y := y) (by simp [ev]) (by simp [ev]) h44))
  simp only [ex]
  rw [e_call2 (x := x) (y := y) (by simp [ev, startD]) (by simp [ev, startD]) h42]; rfl
end Py
end
section
namespace Py.K21
open PySem PySem.Spec PyProof.Rows L2 Py
def CLS : List (Str × Str) := [(⟨#[66,97,100,75,105,110,100]⟩, ⟨#[66,97,100,75,105,110,100]⟩), (⟨#[66,97,100,76,105,110,101]⟩, ⟨#[66,97,100,76,105,110,101]⟩), (⟨#[66,97,100,80,111,105,110,116]⟩, ⟨#[66,97,100,80,111,105,110,116]⟩), (⟨#[66,97,100,83,97,121,105,110,103]⟩, ⟨#[66,97,100,83,97,121,105,110,103]⟩), (⟨#[66,97,100,84,101,120,116]⟩, ⟨#[66,97,100,84,101,120,116]⟩), (⟨#[78,111,116,67,108,111,115,101,100]⟩, ⟨#[78,111,116,67,108,111,115,101,100]⟩)]
/-- _law_refused -/
def F48 : FDef := ⟨⟨#[95,108,97,119,95,114,101,102,117,115,101,100]⟩, .sh, [⟨#[95,108,97,119,95,108,105,110,101,95,104,101,114,101]⟩], [⟨#[95,108,97,119,95,108,105,110,101,95,104,101,114,101]⟩, ⟨#[95,108,97,119,95,98,97,100]⟩, ⟨#[95,108,97,119,95,110,111,110,101]⟩, ⟨#[95,108,97,119,95,115,111,109,101]⟩],
  (.c (.forr (.v 1) (.seq (.lst (.c .non (.c (.tup .n) (.c (.tup (.c (.bl true) .n)) (.c (.tup (.c (.bl true) (.c (.bl true) (.c (.bl true) .n)))) (.c (.lst (.c (.bl true) (.c (.bl true) .n))) (.c (.tup (.c (.int 1) (.c (.bl true) .n))) (.c (.tup (.c (.bl true) (.c .non .n))) .n))))))))) (.c (.set 3 (.lst (.c (.told CLS (.call 21 (.c (.v 1) .n))) .n))) (.c (.app 3 (.told CLS (.call 26 (.c (.v 1) (.c .non .n))))) (.c (.app 3 (.told CLS (.call 29 (.c (.v 1) (.c .non .n))))) (.c (.app 3 (.told CLS (.call 31 (.c (.v 1) (.c .non (.c .non .n)))))) (.c (.app 3 (.told CLS (.call 45 (.c (.v 1) (.c .non .n))))) (.c (.ifs (.or (.c (.cmp .ne (.o 3) (.bin .mul (.lst (.c (.str ⟨#[66,97,100,76,105,110,101]⟩) .n)) (.int 5))) (.c (.cmp .ne (.told CLS (.call 47 (.c (.v 1) (.c .non .n)))) (.str ⟨#[66,97,100,76,105,110,101]⟩)) .n))) (.c (.ret (.bl false)) .n) .n) .n))))))) (.c (.set 2 (.shr (.lst (.c .non (.c (.tup .n) (.c (.tup (.c (.tup (.c (.int 0) .n)) (.c (.bl false) .n))) (.c (.tup (.c (.lst (.c (.int 0) .n)) (.c (.bl false) (.c (.bl false) .n)))) (.c (.tup (.c (.tup (.c (.int 1) .n)) (.c (.bl false) (.c (.bl false) .n)))) (.c (.tup (.c (.tup (.c (.int 0) .n)) (.c (.int 0) (.c (.bl false) .n)))) .n))))))))) (.c (.set 2 (.bin .add (.v 2) (.lst (.c (.tup (.c (.tup (.c (.int 0) (.c (.int 2) .n))) (.c (.bl false) (.c (.bl false) .n)))) (.c (.tup (.c (.tup (.c (.int 0) .n)) (.c (.bl true) (.c (.bl true) .n)))) (.c (.tup (.c (.tup (.c (.int 0) .n)) (.c (.or (.c (.nt (.ix (.v 0) (.int 0))) (.c .non .n))) (.c (.bl false) .n)))) .n)))))) (.c (.set 2 (.bin .add (.v 2) (.lst (.c (.tup (.c (.tup .n) (.c (.bl true) (.c (.bl false) .n)))) (.c (.tup (.c (.bin .mul (.tup (.c (.int 0) .n)) (.int 6)) (.c (.bl false) (.c (.bl false) .n)))) .n))))) (.c (.forr (.v 1) (.seq (.v 2)) (.c (.set 3 (.lst (.c (.told CLS (.call 28 (.c (.v 0) (.c (.v 1) .n)))) .n))) (.c (.app 3 (.told CLS (.call 47 (.c (.v 0) (.c (.v 1) .n))))) (.c (.app 3 (.told CLS (.call 29 (.c (.v 0) (.c (.v 1) .n))))) (.c (.app 3 (.told CLS (.call 31 (.c (.v 0) (.c (.v 1) (.c (.int 0) .n)))))) (.c (.ifs (.cmp .ne (.o 3) (.bin .mul (.lst (.c (.str ⟨#[66,97,100,75,105,110,100]⟩) .n)) (.int 4))) (.c (.ret (.bl false)) .n) .n) .n)))))) (.c (.set 3 (.lst (.c (.told CLS (.call 26 (.c (.v 0) (.c (.int 6) .n)))) .n))) (.c (.app 3 (.told CLS (.call 26 (.c (.v 0) (.c (.bl true) .n))))) (.c (.app 3 (.told CLS (.call 29 (.c (.v 0) (.c (.tup (.c (.bin .mul (.tup (.c (.int 0) .n)) (.int 5)) (.c (.bl false) (.c (.bl false) .n)))) .n))))) (.c (.app 3 (.told CLS (.call 31 (.c (.v 0) (.c (.tup (.c (.tup .n) (.c (.bl false) (.c (.bl false) .n)))) (.c (.int 0) .n)))))) (.c (.ret (.cmp .eq (.o 3) (.bin .mul (.lst (.c (.str ⟨#[66,97,100,75,105,110,100]⟩) .n)) (.int 4)))) .n)))))))))), true⟩
/-- _law_points_refused -/
def F49 : FDef := ⟨⟨#[95,108,97,119,95,112,111,105,110,116,115,95,114,101,102,117,115,101,100]⟩, .sh, [⟨#[95,108,97,119,95,108,105,110,101,95,104,101,114,101]⟩], [⟨#[95,108,97,119,95,108,105,110,101,95,104,101,114,101]⟩, ⟨#[95,108,97,119,95,98,97,100]⟩],
  (.c (.forr (.v 1) (.seq (.lst (.c .non (.c (.tup .n) (.c (.lst (.c .non .n)) (.c (.lst (.c (.tup (.c (.int 1) (.c (.int 0) .n))) .n)) (.c (.lst (.c (.tup (.c (.int 1001) (.c (.int 1) .n))) .n)) (.c (.lst (.c (.tup (.c (.int 1) .n)) .n)) (.c (.lst (.c (.tup (.c (.bl true) (.c (.int 1) .n))) .n)) (.c (.lst (.c (.lst (.c (.int 1) (.c (.int 2) .n))) .n)) (.c (.bin .mul (.lst (.c (.tup (.c (.int 0) (.c (.int 1) .n))) .n)) (.int 6)) .n))))))))))) (.c (.ifs (.cmp .ne (.told CLS (.call 45 (.c (.v 0) (.c (.v 1) .n)))) (.str ⟨#[66,97,100,80,111,105,110,116]⟩)) (.c (.ret (.bl false)) .n) .n) .n)) (.c (.ifs (.and (.c (.ix (.v 0) (.int 0)) (.c (.cmp .ne (.told CLS (.call 45 (.c (.v 0) (.c (.lst (.c (.tup (.c (.neg (.int 1)) (.c (.int 5) .n))) .n)) .n)))) (.str ⟨#[66,97,100,80,111,105,110,116]⟩)) .n))) (.c (.ret (.bl false)) .n) .n) (.c (.ifs (.and (.c (.ix (.v 0) (.int 1)) (.c (.cmp .ne (.told CLS (.call 45 (.c (.v 0) (.c (.lst (.c (.tup (.c (.int 6) (.c (.int 5) .n))) .n)) .n)))) (.str ⟨#[66,97,100,80,111,105,110,116]⟩)) .n))) (.c (.ret (.bl false)) .n) .n) (.c (.ret (.bl true)) .n)))), true⟩
/-- law -/
def F50 : FDef := ⟨⟨#[108,97,119]⟩, .sh, [⟨#[95,108,97,119,95,115,99,114,105,112,116]⟩], [⟨#[95,108,97,119,95,115,99,114,105,112,116]⟩, ⟨#[95,108,97,119,95,107]⟩, ⟨#[95,108,97,119,95,109,111,114,101]⟩, ⟨#[95,108,97,119,95,108,105,110,101,95,104,101,114,101]⟩, ⟨#[95,108,97,119,95,106]⟩, ⟨#[95,108,97,119,95,107,105,110,100]⟩, ⟨#[95,108,97,119,95,104,101,114,101]⟩, ⟨#[95,108,97,119,95,112,111,105,110,116,115]⟩, ⟨#[95,108,97,119,95,110]⟩, ⟨#[95,108,97,119,95,119,104,111,108,101]⟩, ⟨#[95,108,97,119,95,100,117,101]⟩, ⟨#[95,108,97,119,95,109,111,115,116]⟩, ⟨#[95,108,97,119,95,111,110,101]⟩, ⟨#[95,108,97,119,95,117,110,100,101,114]⟩, ⟨#[95,108,97,119,95,116,111,112,95,104,101,114,101]⟩, ⟨#[95,108,97,119,95,112,111,105,110,116]⟩, ⟨#[95,108,97,119,95,114,97,110,107]⟩],
  (.c (.forr (.v 1) (.rng1 (.blt .max (.c (.int 1) (.c (.blt .min (.c (.int 3) (.c (.blt .len (.c (.v 0) .n)) .n))) .n)))) (.c (.set 2 (.call 8 (.c (.call 7 (.c (.v 0) (.c (.v 1) .n))) (.c (.v 1) .n)))) (.c (.set 3 (.call 32 (.c (.v 2) .n))) (.c (.forr (.v 4) (.rng1 (.int 12)) (.c (.set 6 (.call 8 (.c (.v 2) (.c (.bin .add (.int 10) (.v 4)) .n)))) (.c (.set 7 (.lst .n)) (.c (.forr (.v 8) (.rng1 (.bin .mod (.v 6) (.int 6))) (.c (.set 12 (.call 8 (.c (.v 6) (.c (.v 8) .n)))) (.c (.set 13 (.ix (.lst (.c (.int 1) (.c (.int 2) (.c (.int 3) (.c (.int 6) (.c (.int 1000) (.c (.int 7) .n))))))) (.bin .mod (.v 12) (.int 6)))) (.c (.set 14 (.ite (.or (.c (.ix (.v 3) (.int 0)) (.c (.ix (.v 3) (.int 1)) .n))) (.bin .mod (.bin .fdiv (.v 12) (.int 8)) (.bin .add (.v 13) (.int 1))) (.bin .sub (.bin .mod (.bin .fdiv (.v 12) (.int 8)) (.int 2001)) (.int 1000)))) (.c (.app 7 (.ix (.lst (.c (.tup (.c (.v 14) (.c (.v 13) .n))) (.c (.tup (.c (.int 0) (.c (.int 1) .n))) (.c (.tup (.c (.int 1) (.c (.int 1) .n))) (.c (.tup (.c (.bin .fdiv (.v 14) (.int 2)) (.c (.v 13) .n))) .n))))) (.bin .mod (.bin .fdiv (.v 12) (.bin .pow (.int 2) (.int 20))) (.int 4)))) .n))))) (.c (.set 7 (.comp (.v 15) [15] (.seq (.o 7)) (.or (.c (.nt (.ix (.v 3) (.int 1))) (.c (.cmp .le (.ix (.v 15) (.int 0)) (.ix (.v 15) (.int 1))) .n))) (.v 15))) (.c (.set 9 (.shr (.comp (.v 15) [15] (.seq (.o 7)) .nop (.bin .fdiv (.bin .mul (.bin .mul (.call 34 .n) (.int 997)) (.ix (.v 15) (.int 0))) (.ix (.v 15) (.int 1)))))) (.c (.set 10 (.tup (.c (.call 36 (.c (.v 9) .n)) (.c (.and (.c (.ix (.v 3) (.int 0)) (.c (.cmp .inn (.int 0) (.v 9)) .n))) (.c (.and (.c (.ix (.v 3) (.int 1)) (.c (.cmp .inn (.bin .mul (.call 34 .n) (.int 997)) (.v 9)) .n))) .n))))) (.c (.frz 7 (.ifs (.cmp .ne (.call 45 (.c (.v 3) (.c (.v 7) .n))) (.v 10)) (.c (.ret (.bl false)) .n) .n)) .n)))))))) (.c (.forr (.v 5) (.seq (.call 26 (.c (.v 3) (.c (.bin .mod (.bin .fdiv (.v 2) (.int 4)) (.int 4)) .n)))) (.c (.set 7 (.call 47 (.c (.v 3) (.c (.v 5) .n)))) (.c (.set 11 (.bin .add (.blt .max (.c (.bin .add (.ix (.v 5) (.int 0)) (.tup (.c (.neg (.int 1)) .n))) .n)) (.int 1))) (.c (.set 10 (.shr (.comp (.v 16) [16] (.seq (.ix (.v 5) (.int 0))) .nop (.tup (.c (.bin .add (.v 16) (.int 1)) (.c (.bin .add (.v 11) (.int 1)) .n)))))) (.c (.set 10 (.shr (.comp (.t [12,16]) [12,16] (.zip (.v 10) (.ix (.v 5) (.int 0))) .nop (.ite (.and (.c (.ix (.v 5) (.int 1)) (.c (.cmp .eq (.v 16) (.int 0)) .n))) (.tup (.c (.int 0) (.c (.int 1) .n))) (.v 12))))) (.c (.set 10 (.shr (.comp (.t [12,16]) [12,16] (.zip (.v 10) (.ix (.v 5) (.int 0))) .nop (.ite (.and (.c (.ix (.v 5) (.int 2)) (.c (.cmp .eq (.v 16) (.bin .sub (.v 11) (.int 1))) .n))) (.tup (.c (.int 1) (.c (.int 1) .n))) (.v 12))))) (.c (.frz 7 (.ifs (.or (.c (.cmp .ne (.o 7) (.v 10)) (.c (.cmp .ne (.call 45 (.c (.v 3) (.c (.v 7) .n))) (.v 5)) .n))) (.c (.ret (.bl false)) .n) .n)) .n))))))) (.c (.ifs (.or (.c (.nt (.call 48 (.c (.v 3) .n))) (.c (.nt (.call 49 (.c (.v 3) .n))) .n))) (.c (.ret (.bl false)) .n) .n) .n)))))) (.c (.ret (.bl true)) .n)), false⟩
def top (i : Nat) : Stmt := PySem.Challenge.pw_denselines_k21_whole_worlds.main.body.getD i (.Pass ⟨0, 0, 0, 0⟩)
def L : Law := ⟨[(20, F20), (21, F21), (22, F22), (23, F23), (24, F24), (25, F25), (26, F26), (27, F27), (28, F28), (29, F29), (30, F30), (31, F31), (41, F41), (42, F42), (43, F43), (44, F44), (45, F45), (46, F46), (47, F47), (7, F7), (8, F8), (32, F32), (34, F34), (36, F36), (48, F48), (49, F49), (50, F50)], [top 10, top 11, top 12, top 13, top 14, top 15, top 16, top 17, top 18, top 19, top 20, top 21, top 24, top 25, top 26, top 27, top 28, top 29, top 30, top 32, top 33, top 36, top 37, top 38, top 39, top 40, top 41], FM, CC, [⟨#[105,115,105,110,115,116,97,110,99,101]⟩, ⟨#[116,117,112,108,101]⟩, ⟨#[108,101,110]⟩, ⟨#[97,108,108]⟩, ⟨#[98,111,111,108]⟩, ⟨#[105,110,116]⟩, ⟨#[109,97,120]⟩, ⟨#[114,97,110,103,101]⟩, ⟨#[115,111,114,116,101,100]⟩, ⟨#[115,101,116]⟩, ⟨#[108,105,115,116]⟩, ⟨#[97,110,121]⟩, ⟨#[109,105,110]⟩, ⟨#[122,105,112]⟩], [(3, ⟨#[77,79,83,84,95,80,79,73,78,84,83]⟩, 5), (4, ⟨#[77,79,83,84]⟩, 1000)], [⟨#[66,97,100,76,105,110,101]⟩, ⟨#[66,97,100,75,105,110,100]⟩, ⟨#[66,97,100,80,111,105,110,116]⟩], [], [], some ⟨⟨⟨#[95,108,97,119,95,116,111,108,100]⟩, ⟨#[95,108,97,119,95,100,101,101,100]⟩, ⟨#[76,105,110,101,69,114,114,111,114]⟩, ⟨#[95,108,97,119,95,101]⟩, ⟨#[95,108,97,119,95,119,111,114,100]⟩⟩, top 35, ⟨⟨#[95,108,97,119,95,101]⟩, ⟨#[95,108,97,119,95,102,108,97,103,115]⟩, ⟨#[95,108,97,119,95,102,108,97,103]⟩, [⟨#[66,97,100,75,105,110,100]⟩, ⟨#[66,97,100,76,105,110,101]⟩, ⟨#[66,97,100,80,111,105,110,116]⟩, ⟨#[66,97,100,83,97,121,105,110,103]⟩], [⟨#[66,97,100,84,101,120,116]⟩, ⟨#[78,111,116,67,108,111,115,101,100]⟩], [⟨#[66,97,100,75,105,110,100]⟩, ⟨#[66,97,100,76,105,110,101]⟩, ⟨#[66,97,100,80,111,105,110,116]⟩, ⟨#[66,97,100,83,97,121,105,110,103]⟩, ⟨#[66,97,100,84,101,120,116]⟩, ⟨#[78,111,116,67,108,111,115,101,100]⟩]⟩, top 34, CLS⟩⟩
abbrev loose : List Str := [("is_line" : Str), ("need_line" : Str), ("is_count" : Str), ("need_many" : Str), ("ways_of" : Str), ("kinds_of" : Str), ("kinds" : Str), ("is_kind" : Str), ("need_kind" : Str), ("ways" : Str), ("less_one" : Str), ("without" : Str), ("is_point" : Str), ("need_points" : Str), ("is_less" : Str), ("kind_at" : Str), ("kind_of" : Str), ("points_at" : Str), ("points_of" : Str), ("_law_cell" : Str), ("_law_drawn" : Str), ("_law_word" : Str), ("_law_told" : Str), ("_law_line" : Str), ("_law_top" : Str), ("_law_dense" : Str), ("_law_refused" : Str), ("_law_points_refused" : Str), ("LineError" : Str), ("BadLine" : Str), ("BadSaying" : Str), ("BadKind" : Str), ("BadPoint" : Str), ("NotClosed" : Str), ("BadText" : Str), ("MOST_POINTS" : Str), ("MOST" : Str)]
-- law at 41 number 50
-- 20 is_line sh
-- 21 need_line sh
-- 22 is_count sh
-- 23 need_many sh
-- 24 ways_of fr
-- 25 kinds_of fr
-- 26 kinds fr
-- 27 is_kind sh
-- 28 need_kind sh
-- 29 ways fr
-- 30 less_one sh
-- 31 without sh
-- 41 is_point sh
-- 42 need_points sh
-- 43 is_less sh
-- 44 kind_at sh
-- 45 kind_of sh
-- 46 points_at fr
-- 47 points_of fr
-- 7 _law_cell sh
-- 8 _law_drawn sh
-- 32 _law_line sh
-- 34 _law_top sh
-- 36 _law_dense sh
-- 48 _law_refused sh
-- 49 _law_points_refused sh
-- 50 law sh
theorem chk : L.chk = true := by decide +kernel
end Py.K21
end
section
set_option maxHeartbeats 0
namespace Py.K21
open PySem PySem.Spec PyProof.Rows L2 Py
abbrev R : PySem.W.OpenRow := PySem.W.OpenLaw.row PySem.Challenge.rw_denselines_k21_whole_worlds
abbrev hk : PySem.W.Hook := He.hookX 4 L.fa L.fn L.ts L.tf L.exB
def ob (s : PySem.W.SharedT) : He.AlX := He.obsX 4 L.fa L.fn L.ts L.tf L.exB (HandSHeadRun.getT s)
theorem ob_eq (s : PySem.W.SharedT) : ob s = hk.obs s.abs := He.obsX_eq (HandSHeadRun.getT_eq s)
theorem runF (w : World) : HandSHeadRun.RunEq R (PySem.W.view R.prog [41]) hk ob 6000 loose (w.withFollow "special-get-raises" false) := by
  intro os
  kernel_rfl
theorem runT (w : World) : HandSHeadRun.RunEq R (PySem.W.view R.prog [41]) hk ob 6000 loose (w.withFollow "special-get-raises" true) := by
  intro os
  kernel_rfl
theorem run (w : World) : HandSHeadRun.RunEq R (PySem.W.view R.prog [41]) hk ob 6000 loose w := PySem.W.byRow2 "special-get-raises" runF runT w
end Py.K21
end
section
set_option maxHeartbeats 0
namespace Py.K21
open PySem PySem.Spec PyProof.Rows L2 Py
abbrev GL (k : Nat) : GT := GA L.defs k
def ssAt : Nat → Ss → S
  | 0, .c s _ => s
  | n + 1, .c _ l => ssAt n l
  | _, .n => .pass
def forB : S → Ss
  | .forr _ _ b => b
  | _ => .n
/-- the law's outer loop's body; its loop over kinds -/
def B0 : Ss := forB (ssAt 0 F50.body)
def B3 : Ss := forB (ssAt 3 B0)
def ksL (a b : Bool) (m : Int) : List D := match callG (GL 60) 26 [encL a b, .int m] with
  | .ok (.lst l) => l
  | _ => []
def run3 (a b : Bool) (m : Int) (ρ : Env) : RR Out := execFor (.v 5) (fun ρ => exs FM CC (GL 60) B3 ρ) (ksL a b m) ρ
def fin3 (a b : Bool) (m : Int) (i : Nat) : Option (Bool × D) := match run3 a b m [none, none, none, some (false, encL a b), none, none, none, none, none, none, none, none, none, none, none, none, none] with
  | .ok (.nx ρ) => (ρ[i]?).getD none
  | _ => none
def isT : RR D → Bool
  | .ok (.bl true) => true
  | _ => false
theorem isT_of {r : RR D} (h : isT r = true) : r = .ok (.bl true) := by
  unfold isT at h
  split at h
  · rfl
  · cases h
def After (a b : Bool) (m : Int) : Prop := ∀ o0 o1 o2 o4 o5 o6 o7 o8 o9 o10 o11 o12 o13 o14 o15 o16 : Option (Bool × D), run3 a b m [o0, o1, o2, some (false, encL a b), o4, o5, o6, o7, o8, o9, o10, o11, o12, o13, o14, o15, o16] = .ok (.nx [o0, o1, o2, some (false, encL a b), o4, fin3 a b m 5, o6, fin3 a b m 7, o8, o9, fin3 a b m 10, fin3 a b m 11, o12, o13, o14, o15, o16])
def isL (r : RR D) : Bool := match r with
  | .ok (.lst _) => true
  | _ => false
theorem isL_of {r : RR D} (h : isL r = true) : ∃ l, r = .ok (.lst l) := by
  unfold isL at h
  split at h
  · exact ⟨_, rfl⟩
  · cases h
theorem af_t_t_0 : After true true 0 := by
  intro o0 o1 o2 o4 o5 o6 o7 o8 o9 o10 o11 o12 o13 o14 o15 o16
  kernel_rfl
theorem kl_t_t_0 : isL (callG (GL 60) 26 [encL true true, .int 0]) = true := by decide +kernel
theorem af_t_t_1 : After true true 1 := by
  intro o0 o1 o2 o4 o5 o6 o7 o8 o9 o10 o11 o12 o13 o14 o15 o16
  kernel_rfl
theorem kl_t_t_1 : isL (callG (GL 60) 26 [encL true true, .int 1]) = true := by decide +kernel
theorem af_t_t_2 : After true true 2 := by
  intro o0 o1 o2 o4 o5 o6 o7 o8 o9 o10 o11 o12 o13 o14 o15 o16
  kernel_rfl
theorem kl_t_t_2 : isL (callG (GL 60) 26 [encL true true, .int 2]) = true := by decide +kernel
theorem af_t_t_3 : After true true 3 := by
  intro o0 o1 o2 o4 o5 o6 o7 o8 o9 o10 o11 o12 o13 o14 o15 o16
  kernel_rfl
theorem kl_t_t_3 : isL (callG (GL 60) 26 [encL true true, .int 3]) = true := by decide +kernel
theorem rf_t_t : isT (callG (GL 60) 48 [encL true true]) = true ∧ isT (callG (GL 60) 49 [encL true true]) = true := by constructor <;> decide +kernel
theorem af_t_f_0 : After true false 0 := by
  intro o0 o1 o2 o4 o5 o6 o7 o8 o9 o10 o11 o12 o13 o14 o15 o16
  kernel_rfl
theorem kl_t_f_0 : isL (callG (GL 60) 26 [encL true false, .int 0]) = true := by decide +kernel
theorem af_t_f_1 : After true false 1 := by
  intro o0 o1 o2 o4 o5 o6 o7 o8 o9 o10 o11 o12 o13 o14 o15 o16
  kernel_rfl
theorem kl_t_f_1 : isL (callG (GL 60) 26 [encL true false, .int 1]) = true := by decide +kernel
theorem af_t_f_2 : After true false 2 := by
  intro o0 o1 o2 o4 o5 o6 o7 o8 o9 o10 o11 o12 o13 o14 o15 o16
  kernel_rfl
theorem kl_t_f_2 : isL (callG (GL 60) 26 [encL true false, .int 2]) = true := by decide +kernel
theorem af_t_f_3 : After true false 3 := by
  intro o0 o1 o2 o4 o5 o6 o7 o8 o9 o10 o11 o12 o13 o14 o15 o16
  kernel_rfl
theorem kl_t_f_3 : isL (callG (GL 60) 26 [encL true false, .int 3]) = true := by decide +kernel
theorem rf_t_f : isT (callG (GL 60) 48 [encL true false]) = true ∧ isT (callG (GL 60) 49 [encL true false]) = true := by constructor <;> decide +kernel
theorem af_f_t_0 : After false true 0 := by
  intro o0 o1 o2 o4 o5 o6 o7 o8 o9 o10 o11 o12 o13 o14 o15 o16
  kernel_rfl
theorem kl_f_t_0 : isL (callG (GL 60) 26 [encL false true, .int 0]) = true := by decide +kernel
theorem af_f_t_1 : After false true 1 := by
  intro o0 o1 o2 o4 o5 o6 o7 o8 o9 o10 o11 o12 o13 o14 o15 o16
  kernel_rfl
theorem kl_f_t_1 : isL (callG (GL 60) 26 [encL false true, .int 1]) = true := by decide +kernel
theorem af_f_t_2 : After false true 2 := by
  intro o0 o1 o2 o4 o5 o6 o7 o8 o9 o10 o11 o12 o13 o14 o15 o16
  kernel_rfl
theorem kl_f_t_2 : isL (callG (GL 60) 26 [encL false true, .int 2]) = true := by decide +kernel
theorem af_f_t_3 : After false true 3 := by
  intro o0 o1 o2 o4 o5 o6 o7 o8 o9 o10 o11 o12 o13 o14 o15 o16
  kernel_rfl
theorem kl_f_t_3 : isL (callG (GL 60) 26 [encL false true, .int 3]) = true := by decide +kernel
theorem rf_f_t : isT (callG (GL 60) 48 [encL false true]) = true ∧ isT (callG (GL 60) 49 [encL false true]) = true := by constructor <;> decide +kernel
theorem af_f_f_0 : After false false 0 := by
  intro o0 o1 o2 o4 o5 o6 o7 o8 o9 o10 o11 o12 o13 o14 o15 o16
  kernel_rfl
theorem kl_f_f_0 : isL (callG (GL 60) 26 [encL false false, .int 0]) = true := by decide +kernel
theorem af_f_f_1 : After false false 1 := by
  intro o0 o1 o2 o4 o5 o6 o7 o8 o9 o10 o11 o12 o13 o14 o15 o16
  kernel_rfl
theorem kl_f_f_1 : isL (callG (GL 60) 26 [encL false false, .int 1]) = true := by decide +kernel
theorem af_f_f_2 : After false false 2 := by
  intro o0 o1 o2 o4 o5 o6 o7 o8 o9 o10 o11 o12 o13 o14 o15 o16
  kernel_rfl
theorem kl_f_f_2 : isL (callG (GL 60) 26 [encL false false, .int 2]) = true := by decide +kernel
theorem af_f_f_3 : After false false 3 := by
  intro o0 o1 o2 o4 o5 o6 o7 o8 o9 o10 o11 o12 o13 o14 o15 o16
  kernel_rfl
theorem kl_f_f_3 : isL (callG (GL 60) 26 [encL false false, .int 3]) = true := by decide +kernel
theorem rf_f_f : isT (callG (GL 60) 48 [encL false false]) = true ∧ isT (callG (GL 60) 49 [encL false false]) = true := by constructor <;> decide +kernel
theorem after : ∀ (a b : Bool) (m : Nat), m ≤ 3 → After a b (m : Nat)
  | true, true, 0, _ => af_t_t_0
  | true, true, 1, _ => af_t_t_1
  | true, true, 2, _ => af_t_t_2
  | true, true, 3, _ => af_t_t_3
  | true, false, 0, _ => af_t_f_0
  | true, false, 1, _ => af_t_f_1
  | true, false, 2, _ => af_t_f_2
  | true, false, 3, _ => af_t_f_3
  | false, true, 0, _ => af_f_t_0
  | false, true, 1, _ => af_f_t_1
  | false, true, 2, _ => af_f_t_2
  | false, true, 3, _ => af_f_t_3
  | false, false, 0, _ => af_f_f_0
  | false, false, 1, _ => af_f_f_1
  | false, false, 2, _ => af_f_f_2
  | false, false, 3, _ => af_f_f_3
  | _, _, n + 4, h => absurd h (by omega)
theorem kinds_isL : ∀ (a b : Bool) (m : Nat), m ≤ 3 → isL (callG (GL 60) 26 [encL a b, .int (m : Nat)]) = true
  | true, true, 0, _ => kl_t_t_0
  | true, true, 1, _ => kl_t_t_1
  | true, true, 2, _ => kl_t_t_2
  | true, true, 3, _ => kl_t_t_3
  | true, false, 0, _ => kl_t_f_0
  | true, false, 1, _ => kl_t_f_1
  | true, false, 2, _ => kl_t_f_2
  | true, false, 3, _ => kl_t_f_3
  | false, true, 0, _ => kl_f_t_0
  | false, true, 1, _ => kl_f_t_1
  | false, true, 2, _ => kl_f_t_2
  | false, true, 3, _ => kl_f_t_3
  | false, false, 0, _ => kl_f_f_0
  | false, false, 1, _ => kl_f_f_1
  | false, false, 2, _ => kl_f_f_2
  | false, false, 3, _ => kl_f_f_3
  | _, _, n + 4, h => absurd h (by omega)
theorem kinds_is (a b : Bool) (m : Nat) (h : m ≤ 3) : callG (GL 60) 26 [encL a b, .int (m : Nat)] = .ok (.lst (ksL a b (m : Nat))) := by
  obtain ⟨l, e⟩ := isL_of (kinds_isL a b m h)
  unfold ksL
  rw [e]
theorem refB : ∀ a b : Bool, isT (callG (GL 60) 48 [encL a b]) = true ∧ isT (callG (GL 60) 49 [encL a b]) = true
  | true, true => rf_t_t
  | true, false => rf_t_f
  | false, true => rf_f_t
  | false, false => rf_f_f
theorem refused (a b : Bool) : callG (GL 60) 48 [encL a b] = .ok (.bl true) ∧ callG (GL 60) 49 [encL a b] = .ok (.bl true) := ⟨isT_of (refB a b).1, isT_of (refB a b).2⟩
end Py.K21
end
section
set_option exponentiation.threshold 2000
set_option maxHeartbeats 4000000
namespace Py.K21
open PySem PySem.Spec PyProof.Rows L2 Py
abbrev GM : GT := GA L.defs 60
abbrev sh (d : D) : Option (Bool × D) := some (false, d)
theorem c22' (k : Nat) (i lo hi : Int) : callG (GA L.defs (k + 1)) 22 [.int i, .int lo, .int hi] = .ok (.bl (decide (lo ≤ i) && decide (i ≤ hi))) := by
  rw [callG_at (show L.defs.lookup 22 = some F22 from rfl)]; exact f22 i lo hi
theorem c45' (k : Nat) {a b : Bool} {l : List (Int × Int)} (hl : l.length ≤ 5) (h : ∀ p ∈ l, PtIn a b p) : callG (GA L.defs (k + 6)) 45 [encL a b, ptsD l] = .ok (kindP a b l) := by
  rw [callG_at (show L.defs.lookup 45 = some F45 from rfl)]
  refine f45 ?_ ?_
  · rw [callG_at (show L.defs.lookup 42 = some F42 from rfl)]
    refine f42 hl ?_ fun p hp => ?_
    · rw [callG_at (show L.defs.lookup 21 = some F21 from rfl)]
      refine f21 ?_
      rw [callG_at (show L.defs.lookup 20 = some F20 from rfl)]
      exact f20 a b
    · rw [callG_at (show L.defs.lookup 41 = some F41 from rfl)]
      exact f41 (h p hp) (c22' (k + 2))
  · rw [callG_at (show L.defs.lookup 44 = some F44 from rfl)]
    refine f44 (by omega) (fun p hp => (h p hp).toPtOk) fun o p ho hp => ?_
    rw [callG_at (show L.defs.lookup 43 = some F43 from rfl)]
    exact f43 ho hp
theorem hasP_int (x : Int) : ∀ l : List Int, hasP (.int x) (l.map D.int) = decide (x ∈ l)
  | [] => by simp [hasP]
  | y :: l => by
    show ((y == x) || hasP _ _) = _
    rw [hasP_int x l]
    by_cases e : y = x
    · subst e; simp
    · have e2 : ¬ x = y := fun z => e z.symm
      simp [e, e2]
theorem nods_int : ∀ l : List Int, nods (l.map D.int) = true
  | [] => rfl
  | i :: l => by show (true && nods (l.map D.int)) = true; rw [nods_int l]; rfl
theorem deps_int : ∀ l : List Int, deps (l.map D.int) ≤ 1
  | [] => by simp [deps]
  | i :: l => by have := deps_int l; show max 1 _ ≤ 1; omega
theorem in_int (x : Int) (l : List Int) : cmpB .inn (.int x) (intsD l) = some (decide (x ∈ l)) := by
  refine Eq.trans (b := inB (.int x) (.lst (l.map D.int))) rfl ?_
  rw [(in_lst (x := .int x) rfl (nods_int l) (by simp [dep])).2, hasP_int]
/-- what the law holds due -/
theorem due_eq {a b : Bool} {l : List (Int × Int)} (h : ∀ p ∈ l, PtOk p) : (.tup [.tup ((dense (l.map phi)).map D.int), .bl (a && decide (0 ∈ l.map phi)), .bl (b && decide (TT ∈ l.map phi))] : D) = kindP a b l := by
  unfold kindP
  have e1 : (dense (l.map phi)).map D.int = l.map fun p => D.int ((hdP [] l).filter fun o => decide (o.1 * p.2 < p.1 * o.2)).length := by
    unfold dense
    rw [List.map_map, List.map_map]
    refine List.map_congr_left fun p hp => ?_
    show D.int _ = D.int _
    rw [rank_eq h (h p hp)]
  have e2 : decide (0 ∈ l.map phi) = l.any fun p => decide (p.1 = 0) := by
    rw [Bool.eq_iff_iff, decide_eq_true_eq, List.any_eq_true, List.mem_map]
    constructor
    · rintro ⟨p, hp, e⟩; exact ⟨p, hp, decide_eq_true ((phi_zero (h p hp)).mp e)⟩
    · rintro ⟨p, hp, e⟩; exact ⟨p, hp, (phi_zero (h p hp)).mpr (of_decide_eq_true e)⟩
  have e3 : decide (TT ∈ l.map phi) = l.any fun p => decide (p.1 = p.2) := by
    rw [Bool.eq_iff_iff, decide_eq_true_eq, List.any_eq_true, List.mem_map]
    constructor
    · rintro ⟨p, hp, e⟩; exact ⟨p, hp, decide_eq_true ((phi_one (h p hp)).mp e)⟩
    · rintro ⟨p, hp, e⟩; exact ⟨p, hp, (phi_one (h p hp)).mpr (of_decide_eq_true e)⟩
  rw [e1, e2, e3]
theorem kindP_ne (a b : Bool) (l : List (Int × Int)) : cmpB .ne (kindP a b l) (kindP a b l) = some false := by
  have e : (l.map fun p => D.int ((hdP [] l).filter fun o => decide (o.1 * p.2 < p.1 * o.2)).length) = (l.map fun p => (((hdP [] l).filter fun o => decide (o.1 * p.2 < p.1 * o.2)).length : Int)).map D.int := by rw [List.map_map]; rfl
  refine ne_self ?_ ?_
  · show (nods _ && (true && (true && true))) = true
    rw [e, nods_int]; rfl
  · have := deps_int (l.map fun p => (((hdP [] l).filter fun o => decide (o.1 * p.2 < p.1 * o.2)).length : Int))
    rw [← e] at this
    show max (deps _ + 1) _ + 1 ≤ 64
    simp only [dep, deps]
    omega
/-- what is drawn -/
structure PtG (a : Bool) (p : Int × Int) : Prop extends PtOk p where
  lo : a = true → 0 ≤ p.1
abbrev B2 : Ss := .c (.set 12 (.call 8 (.c (.v 6) (.c (.v 8) .n)))) (.c (.set 13 (.ix (.lst (.c (.int 1) (.c (.int 2) (.c (.int 3) (.c (.int 6) (.c (.int 1000) (.c (.int 7) .n))))))) (.bin .mod (.v 12) (.int 6)))) (.c (.set 14 (.ite (.or (.c (.ix (.v 3) (.int 0)) (.c (.ix (.v 3) (.int 1)) .n))) (.bin .mod (.bin .fdiv (.v 12) (.int 8)) (.bin .add (.v 13) (.int 1))) (.bin .sub (.bin .mod (.bin .fdiv (.v 12) (.int 8)) (.int 2001)) (.int 1000)))) (.c (.app 7 (.ix (.lst (.c (.tup (.c (.v 14) (.c (.v 13) .n))) (.c (.tup (.c (.int 0) (.c (.int 1) .n))) (.c (.tup (.c (.int 1) (.c (.int 1) .n))) (.c (.tup (.c (.bin .fdiv (.v 14) (.int 2)) (.c (.v 13) .n))) .n))))) (.bin .mod (.bin .fdiv (.v 12) (.bin .pow (.int 2) (.int 20))) (.int 4)))) .n)))
theorem point_ok {a b : Bool} {here : Int} {n : Nat} {l : List (Int × Int)} (hl : l.length ≤ 100) (o0 o1 o2 o4 o5 o9 o10 o11 o12 o13 o14 o15 o16 : Option (Bool × D)) :
    ∃ p q12 q13 q14, PtG a p ∧ exs FM CC GM B2 [o0, o1, o2, sh (encL a b), o4, o5, sh (.int here), some (true, ptsD l), sh (.int (n : Nat)), o9, o10, o11, o12, o13, o14, o15, o16] = .ok (.nx [o0, o1, o2, sh (encL a b), o4, o5, sh (.int here), some (true, ptsD (l ++ [p])), sh (.int (n : Nat)), o9, o10, o11, q12, q13, q14, o15, o16]) := by
  obtain ⟨one, h1, e8⟩ := c8 (defs := L.defs) rfl 59 here (n : Nat)
  have r0 : 0 ≤ one % 6 := Int.emod_nonneg _ (by decide)
  have r1 : one % 6 < 6 := Int.emod_lt_of_pos _ (by decide)
  obtain ⟨u, hu1, hu2, eu⟩ : ∃ u : Int, 1 ≤ u ∧ u ≤ 1000 ∧ L2.atI [D.int 1, .int 2, .int 3, .int 6, .int 1000, .int 7] (one % 6) = some (.int u) := by
    have hr : one % 6 = 0 ∨ one % 6 = 1 ∨ one % 6 = 2 ∨ one % 6 = 3 ∨ one % 6 = 4 ∨ one % 6 = 5 := by omega
    rcases hr with e | e | e | e | e | e <;> rw [e]
    · exact ⟨1, by decide, by decide, rfl⟩
    · exact ⟨2, by decide, by decide, rfl⟩
    · exact ⟨3, by decide, by decide, rfl⟩
    · exact ⟨6, by decide, by decide, rfl⟩
    · exact ⟨1000, by decide, by decide, rfl⟩
    · exact ⟨7, by decide, by decide, rfl⟩
  obtain ⟨t, ht1, ht2, ht3, et⟩ : ∃ t : Int, -1000 ≤ t ∧ t ≤ 1000 ∧ (a = true → 0 ≤ t) ∧ ev CC GM (.ite (.or (.c (.ix (.v 3) (.int 0)) (.c (.ix (.v 3) (.int 1)) .n))) (.bin .mod (.bin .fdiv (.v 12) (.int 8)) (.bin .add (.v 13) (.int 1))) (.bin .sub (.bin .mod (.bin .fdiv (.v 12) (.int 8)) (.int 2001)) (.int 1000))) [o0, o1, o2, sh (encL a b), o4, o5, sh (.int here), some (true, ptsD l), sh (.int (n : Nat)), o9, o10, o11, sh (.int one), sh (.int u), o14, o15, o16] = .ok (.int t) := by
    have il : ixD (encL a b) (.int 0) = some (.bl a) := i0 _ _
    have ih : ixD (encL a b) (.int 1) = some (.bl b) := i1 _ _
    have hor : ev CC GM (.or (.c (.ix (.v 3) (.int 0)) (.c (.ix (.v 3) (.int 1)) .n))) [o0, o1, o2, sh (encL a b), o4, o5, sh (.int here), some (true, ptsD l), sh (.int (n : Nat)), o9, o10, o11, sh (.int one), sh (.int u), o14, o15, o16] = .ok (.bl (a || b)) := by
      rw [ev, evR2, e_ix (x := encL a b) (y := .int 0) (by simp [ev]) (by simp [ev]) il, RR.bind_ok, tru_bl, RR.bind_ok, evR1, e_ix (x := encL a b) (y := .int 1) (by simp [ev]) (by simp [ev]) ih]
      cases a <;> rfl
    have e8' : binD .fdiv (.int one) (.int 8) = some (.int (one / 8)) := b_fdiv _ _ (by decide) (by decide)
    by_cases hab : (a || b) = true
    · refine ⟨one / 8 % (u + 1), ?_, ?_, fun _ => Int.emod_nonneg _ (by omega), e_ite (k := true) hor (by rw [hab]; rfl) ?_⟩
      · have := Int.emod_nonneg (one / 8) (show u + 1 ≠ 0 by omega); omega
      · have := Int.emod_lt_of_pos (one / 8) (show 0 < u + 1 by omega); omega
      · rw [if_pos rfl]
        exact e_bin (x := .int (one / 8)) (y := .int (u + 1)) (e_bin (x := .int one) (y := .int 8) (by simp [ev]) (by simp [ev]) e8') (by simp [ev]) (b_mod _ _ (by omega))
    · have hab : (a || b) = false := Bool.eq_false_iff.mpr hab
      refine ⟨one / 8 % 2001 - 1000, ?_, ?_, (fun z => by rw [z] at hab; cases hab), e_ite (k := false) hor (by rw [hab]; rfl) ?_⟩
      · have := Int.emod_nonneg (one / 8) (show (2001 : Int) ≠ 0 by decide); omega
      · have := Int.emod_lt_of_pos (one / 8) (show (0 : Int) < 2001 by decide); omega
      · rw [if_neg Bool.false_ne_true]
        exact e_bin (x := .int (one / 8 % 2001)) (y := .int 1000) (e_bin (x := .int (one / 8)) (y := .int 2001) (e_bin (x := .int one) (y := .int 8) (by simp [ev]) (by simp [ev]) e8') (by simp [ev]) (b_mod _ _ (by decide))) (by simp [ev]) rfl
  have s0 : 0 ≤ one / 1048576 % 4 := Int.emod_nonneg _ (by decide)
  have s1 : one / 1048576 % 4 < 4 := Int.emod_lt_of_pos _ (by decide)
  obtain ⟨p, hp, ep⟩ : ∃ p, PtG a p ∧ L2.atI [D.tup [.int t, .int u], .tup [.int 0, .int 1], .tup [.int 1, .int 1], .tup [.int (t / 2), .int u]] (one / 1048576 % 4) = some (ptD p) := by
    have hr : one / 1048576 % 4 = 0 ∨ one / 1048576 % 4 = 1 ∨ one / 1048576 % 4 = 2 ∨ one / 1048576 % 4 = 3 := by omega
    rcases hr with e | e | e | e <;> rw [e]
    · exact ⟨(t, u), ⟨⟨hu1, hu2, ht1, ht2⟩, ht3⟩, rfl⟩
    · exact ⟨(0, 1), ⟨ok01, fun _ => by decide⟩, rfl⟩
    · exact ⟨(1, 1), ⟨ok11, fun _ => by decide⟩, rfl⟩
    · exact ⟨(t / 2, u), ⟨⟨hu1, hu2, by show -1000 ≤ t / 2; omega, by show t / 2 ≤ 1000; omega⟩, fun z => by have := ht3 z; show 0 ≤ t / 2; omega⟩, rfl⟩
  refine ⟨p, sh (.int one), sh (.int u), sh (.int t), hp, ?_⟩
  refine x_set (d := .int one) ?_ ?_
  · rw [e_c2 (x := .int here) (y := .int (n : Nat)) (by simp [ev]) (by simp [ev])]; exact e8
  show exs FM CC GM _ [o0, o1, o2, sh (encL a b), o4, o5, sh (.int here), some (true, ptsD l), sh (.int (n : Nat)), o9, o10, o11, sh (.int one), o13, o14, o15, o16] = _
  refine x_set (d := .int u) (e_ix (x := .lst [D.int 1, .int 2, .int 3, .int 6, .int 1000, .int 7]) (y := .int (one % 6)) (by simp [ev, evs]) (e_bin (x := .int one) (y := .int 6) (by simp [ev]) (by simp [ev]) (b_mod _ _ (by decide))) eu) ?_
  show exs FM CC GM _ [o0, o1, o2, sh (encL a b), o4, o5, sh (.int here), some (true, ptsD l), sh (.int (n : Nat)), o9, o10, o11, sh (.int one), sh (.int u), o14, o15, o16] = _
  refine x_set (d := .int t) et ?_
  show exs FM CC GM _ [o0, o1, o2, sh (encL a b), o4, o5, sh (.int here), some (true, ptsD l), sh (.int (n : Nat)), o9, o10, o11, sh (.int one), sh (.int u), sh (.int t), o15, o16] = _
  refine x_one (ρ' := [o0, o1, o2, sh (encL a b), o4, o5, sh (.int here), some (true, ptsD (l ++ [p])), sh (.int (n : Nat)), o9, o10, o11, sh (.int one), sh (.int u), sh (.int t), o15, o16]) ?_ rfl
  have epow : binD .pow (.int 2) (.int 20) = some (.int 1048576) := by
    show (if (0 : Int) ≤ 20 ∧ (20 : Int) ≤ 1000 ∧ (2 : Int).natAbs < 2 ^ 64 then some (D.int ((2 : Int) ^ (20 : Int).toNat)) else none) = _
    rw [if_pos (by decide)]
    rfl
  have eix : ev CC GM (.ix (.lst (.c (.tup (.c (.v 14) (.c (.v 13) .n))) (.c (.tup (.c (.int 0) (.c (.int 1) .n))) (.c (.tup (.c (.int 1) (.c (.int 1) .n))) (.c (.tup (.c (.bin .fdiv (.v 14) (.int 2)) (.c (.v 13) .n))) .n))))) (.bin .mod (.bin .fdiv (.v 12) (.bin .pow (.int 2) (.int 20))) (.int 4))) [o0, o1, o2, sh (encL a b), o4, o5, sh (.int here), some (true, ptsD l), sh (.int (n : Nat)), o9, o10, o11, sh (.int one), sh (.int u), sh (.int t), o15, o16] = .ok (ptD p) := by
    have et2 : binD .fdiv (.int t) (.int 2) = some (.int (t / 2)) := b_fdiv _ _ (by decide) (by decide)
    refine e_ix (x := .lst [D.tup [.int t, .int u], .tup [.int 0, .int 1], .tup [.int 1, .int 1], .tup [.int (t / 2), .int u]]) (y := .int (one / 1048576 % 4)) (by simp [ev, evs, et2]) ?_ ep
    exact e_bin (x := .int (one / 1048576)) (y := .int 4) (e_bin (x := .int one) (y := .int 1048576) (by simp [ev]) (e_bin (x := .int 2) (y := .int 20) (by simp [ev]) (by simp [ev]) epow) (b_fdiv _ _ (by decide) (by decide))) (by simp [ev]) (b_mod _ _ (by decide))
  simp only [ex]
  rw [appO_ok (l := l.map ptD) rfl (by rw [List.length_map]; omega), eix]
  show RR.ok _ = _
  congr 2
  simp [ptsD]
end Py.K21
end
section
set_option exponentiation.threshold 2000
set_option maxHeartbeats 4000000
namespace Py.K21
open PySem PySem.Spec PyProof.Rows L2 Py
theorem x_frz {fm : List Md} {C : List D} {G : GT} {i : Nat} {s : S} {l : Ss} {ρ : Env} {d : D} {r : RR Out} (h : ρ[i]? = some (some (true, d))) (h2 : exs fm C G (.c s l) (ρ.set i (some (false, d))) = r) : exs fm C G (.c (.frz i s) l) ρ = r := by
  have : frzD i ρ = .ok (ρ.set i (some (false, d))) := by unfold frzD; rw [h]
  simp only [exs, ex] at h2 ⊢
  rw [this, RR.bind_ok]; exact h2
theorem e_and {C : List D} {G : GT} {e f : E} {ρ : Env} {x y : Bool} (h1 : ev C G e ρ = .ok (.bl x)) (h2 : ev C G f ρ = .ok (.bl y)) : ev C G (.and (.c e (.c f .n))) ρ = .ok (.bl (x && y)) := by
  rw [ev, evA2, h1, RR.bind_ok, tru_bl, RR.bind_ok, evA1, h2]
  cases x <;> rfl
abbrev cOr : E := .or (.c (.nt (.ix (.v 3) (.int 1))) (.c (.cmp .le (.ix (.v 15) (.int 0)) (.ix (.v 15) (.int 1))) .n))
abbrev eTop : E := .bin .mul (.call 34 .n) (.int 997)
theorem top_ok (ρ : Env) : ev CC GM eTop ρ = .ok (.int TT) := by
  refine e_bin (x := .int (720720 * 1048576)) (y := .int 997) ?_ (by simp [ev]) (b_mul _ _ (.inr (by decide)))
  have : callG GM 34 [] = .ok (.int (720720 * 1048576)) := by
    show callG (GA L.defs (59 + 1)) 34 [] = _
    rw [callG_at (show L.defs.lookup 34 = some F34 from rfl)]; exact f34
  simp only [ev, evs]
  exact this
abbrev B1 : Ss := .c (.set 6 (.call 8 (.c (.v 2) (.c (.bin .add (.int 10) (.v 4)) .n)))) (.c (.set 7 (.lst .n)) (.c (.forr (.v 8) (.rng1 (.bin .mod (.v 6) (.int 6))) B2) (.c (.set 7 (.comp (.v 15) [15] (.seq (.o 7)) cOr (.v 15))) (.c (.set 9 (.shr (.comp (.v 15) [15] (.seq (.o 7)) .nop (.bin .fdiv (.bin .mul eTop (.ix (.v 15) (.int 0))) (.ix (.v 15) (.int 1)))))) (.c (.set 10 (.tup (.c (.call 36 (.c (.v 9) .n)) (.c (.and (.c (.ix (.v 3) (.int 0)) (.c (.cmp .inn (.int 0) (.v 9)) .n))) (.c (.and (.c (.ix (.v 3) (.int 1)) (.c (.cmp .inn eTop (.v 9)) .n))) .n))))) (.c (.frz 7 (.ifs (.cmp .ne (.call 45 (.c (.v 3) (.c (.v 7) .n))) (.v 10)) (.c (.ret (.bl false)) .n) .n)) .n))))))
theorem turn_ok {a b : Bool} (more : Int) (j : Nat) (o0 o1 o5 o6 o7 o8 o9 o10 o11 o12 o13 o14 o15 o16 : Option (Bool × D)) :
    ∃ p6 p7 p8 p9 p10 p12 p13 p14, exs FM CC GM B1 [o0, o1, sh (.int more), sh (encL a b), sh (.int (j : Nat)), o5, o6, o7, o8, o9, o10, o11, o12, o13, o14, o15, o16] = .ok (.nx [o0, o1, sh (.int more), sh (encL a b), sh (.int (j : Nat)), o5, p6, p7, p8, p9, p10, o11, p12, p13, p14, o15, o16]) := by
  obtain ⟨here, _, e8⟩ := c8 (defs := L.defs) rfl 59 more (10 + (j : Int))
  have r0 : 0 ≤ here % 6 := Int.emod_nonneg _ (by decide)
  have r1 : here % 6 < 6 := Int.emod_lt_of_pos _ (by decide)
  obtain ⟨n, hn⟩ : ∃ n : Nat, (n : Int) = here % 6 := ⟨(here % 6).toNat, by omega⟩
  have hn6 : n ≤ 5 := by omega
  obtain ⟨ρ', e, l, p8, p12, p13, p14, hlen, hl, hρ⟩ := loop_inv (t := .v 8) (body := fun ρ => exs FM CC GM B2 ρ) (l := (List.range n).map fun i => D.int ((i : Nat) : Int)) (fun q ρ => ∃ (l : List (Int × Int)) (p8 p12 p13 p14 : Option (Bool × D)), l.length = q ∧ (∀ p ∈ l, PtG a p) ∧ ρ = [o0, o1, sh (.int more), sh (encL a b), sh (.int (j : Nat)), o5, sh (.int here), some (true, ptsD l), p8, o9, o10, o11, p12, p13, p14, o15, o16]) [o0, o1, sh (.int more), sh (encL a b), sh (.int (j : Nat)), o5, sh (.int here), some (true, ptsD []), o8, o9, o10, o11, o12, o13, o14, o15, o16] ⟨[], _, _, _, _, rfl, (fun _ z => by cases z), rfl⟩ (by
    rintro q d ρ hq ⟨l, p8, p12, p13, p14, hlen, hl, rfl⟩
    have hq : q < n ∧ d = .int ((q : Nat) : Int) := by
      rw [List.getElem?_map] at hq
      by_cases h : q < n
      · rw [List.getElem?_range h] at hq
        exact ⟨h, (Option.some.inj hq).symm⟩
      · rw [List.getElem?_eq_none (by simp; omega)] at hq; cases hq
    obtain ⟨hqn, rfl⟩ := hq
    obtain ⟨p, q12, q13, q14, hp, e⟩ := point_ok (a := a) (b := b) (here := here) (n := q) (l := l) (by omega) o0 o1 (sh (.int more)) (sh (.int (j : Nat))) o5 o9 o10 o11 p12 p13 p14 o15 o16
    exact ⟨_, _, rfl, e, l ++ [p], _, _, _, _, by rw [List.length_append, hlen]; rfl, fun x hx => (List.mem_append.mp hx).elim (hl x) (fun z => by rw [List.mem_singleton.mp z]; exact hp), rfl⟩)
  have hlen : l.length ≤ 5 := by rw [hlen]; simp; omega
  subst hρ
  have il : ixD (encL a b) (.int 0) = some (.bl a) := i0 _ _
  have ih : ixD (encL a b) (.int 1) = some (.bl b) := i1 _ _
  generalize hF : (l.filter fun p => !b || decide (p.1 ≤ p.2)) = f
  have hf : ∀ p ∈ f, PtIn a b p := fun p hp => by
    rw [← hF] at hp
    obtain ⟨h1, h2⟩ := List.mem_filter.mp hp
    have g := hl p h1
    refine ⟨g.toPtOk, g.lo, fun hb => ?_⟩
    rw [hb] at h2
    simpa using h2
  have hfl : f.length ≤ 5 := by rw [← hF]; exact Nat.le_trans (List.length_filter_le _ _) hlen
  refine ⟨sh (.int here), sh (ptsD f), p8, sh (intsD (f.map phi)), sh (kindP a b f), p12, p13, p14, ?_⟩
  refine x_set (d := .int here) ?_ ?_
  · rw [e_c2 (x := .int more) (y := .int (10 + (j : Int))) (by simp [ev]) (by simp [ev])]; exact e8
  show exs FM CC GM _ [o0, o1, sh (.int more), sh (encL a b), sh (.int (j : Nat)), o5, sh (.int here), o7, o8, o9, o10, o11, o12, o13, o14, o15, o16] = _
  refine x_set (d := .lst []) (by simp [ev, evs]) ?_
  show exs FM CC GM _ [o0, o1, sh (.int more), sh (encL a b), sh (.int (j : Nat)), o5, sh (.int here), some (true, ptsD []), o8, o9, o10, o11, o12, o13, o14, o15, o16] = _
  refine x_for (rng1_ev (n := n) (e_bin (x := .int here) (y := .int 6) (by simp [ev]) (by simp [ev]) (by rw [b_mod _ _ (by decide), hn])) (by omega)) e ?_
  have hfil : ev CC GM (.comp (.v 15) [15] (.seq (.o 7)) cOr (.v 15)) [o0, o1, sh (.int more), sh (encL a b), sh (.int (j : Nat)), o5, sh (.int here), some (true, ptsD l), p8, o9, o10, o11, p12, p13, p14, o15, o16] = .ok (ptsD f) := by
    rw [← hF]
    refine compF_filter (l := l) (fun p => !b || decide (p.1 ≤ p.2)) (en := ptD) (g := ptD) (by simp [evr, ev, seqD]) fun p hp => ?_
    have hor : ev CC GM cOr [o0, o1, sh (.int more), sh (encL a b), sh (.int (j : Nat)), o5, sh (.int here), some (true, ptsD l), p8, o9, o10, o11, p12, p13, p14, sh (ptD p), o16] = .ok (.bl (!b || decide (p.1 ≤ p.2))) := by
      rw [ev, evR2, e_nt (e_ix (x := encL a b) (y := .int 1) (by simp [ev]) (by simp [ev]) ih) rfl, RR.bind_ok, tru_bl, RR.bind_ok, evR1, e_cmp (x := .int p.1) (y := .int p.2) (e_ix (x := ptD p) (y := .int 0) (by simp [ev]) (by simp [ev]) (i0 _ _)) (e_ix (x := ptD p) (y := .int 1) (by simp [ev]) (by simp [ev]) (i1 _ _)) (c_le _ _)]
      cases b <;> rfl
    simp only [turn_v, isNop]
    show (if false = true then _ else _) >>= _ = _
    rw [if_neg Bool.false_ne_true]
    show (ev CC GM cOr [o0, o1, sh (.int more), sh (encL a b), sh (.int (j : Nat)), o5, sh (.int here), some (true, ptsD l), p8, o9, o10, o11, p12, p13, p14, sh (ptD p), o16] >>= truR) >>= _ = _
    rw [hor]
    by_cases q : (!b || decide (p.1 ≤ p.2)) = true
    · rw [q]; simp [ev, wipeD]
    · rw [Bool.eq_false_iff.mpr q]; simp
  refine x_set hfil ?_
  show exs FM CC GM _ [o0, o1, sh (.int more), sh (encL a b), sh (.int (j : Nat)), o5, sh (.int here), some (true, ptsD f), p8, o9, o10, o11, p12, p13, p14, o15, o16] = _
  have hwh : ev CC GM (.comp (.v 15) [15] (.seq (.o 7)) .nop (.bin .fdiv (.bin .mul eTop (.ix (.v 15) (.int 0))) (.ix (.v 15) (.int 1)))) [o0, o1, sh (.int more), sh (encL a b), sh (.int (j : Nat)), o5, sh (.int here), some (true, ptsD f), p8, o9, o10, o11, p12, p13, p14, o15, o16] = .ok (intsD (f.map phi)) := by
    have em : (f.map phi).map D.int = f.map fun p => D.int (phi p) := by rw [List.map_map]; rfl
    show _ = RR.ok (D.lst ((f.map phi).map D.int))
    rw [em]
    refine compF_map (l := f) (en := ptD) (g := fun p => .int (phi p)) (by simp [evr, ev, seqD]) fun p hp => ?_
    have g := hf p hp
    have b1 := g.b1
    have b2 := g.b2
    have a1 := g.a1
    have a2 := g.a2
    have := e_bin (o := .fdiv) (C := CC) (G := GM) (a := .bin .mul eTop (.ix (.v 15) (.int 0))) (b := .ix (.v 15) (.int 1)) (ρ := [o0, o1, sh (.int more), sh (encL a b), sh (.int (j : Nat)), o5, sh (.int here), some (true, ptsD f), p8, o9, o10, o11, p12, p13, p14, sh (ptD p), o16]) (r := .int (phi p)) (e_bin (x := .int TT) (y := .int p.1) (top_ok _) (e_ix (x := ptD p) (y := .int 0) (by simp [ev]) (by simp [ev]) (i0 _ _)) (b_mul _ _ (.inr (by omega)))) (e_ix (x := ptD p) (y := .int 1) (by simp [ev]) (by simp [ev]) (i1 _ _)) (b_fdiv _ _ (by omega) (by omega))
    simp only [turn_v, isNop]
    show (ev CC GM _ [o0, o1, sh (.int more), sh (encL a b), sh (.int (j : Nat)), o5, sh (.int here), some (true, ptsD f), p8, o9, o10, o11, p12, p13, p14, sh (ptD p), o16] >>= _) = _
    rw [this]; rfl
  refine x_set (e_shr hwh) ?_
  show exs FM CC GM _ [o0, o1, sh (.int more), sh (encL a b), sh (.int (j : Nat)), o5, sh (.int here), some (true, ptsD f), p8, sh (intsD (f.map phi)), o10, o11, p12, p13, p14, o15, o16] = _
  refine x_set (d := kindP a b f) ?_ ?_
  · rw [← due_eq (fun p hp => (hf p hp).toPtOk)]
    refine e_tup3 ?_ (e_and (e_ix (x := encL a b) (y := .int 0) (by simp [ev]) (by simp [ev]) il) (e_cmp (x := .int 0) (y := intsD (f.map phi)) (by simp [ev]) (by simp [ev]) (in_int _ _))) (e_and (e_ix (x := encL a b) (y := .int 1) (by simp [ev]) (by simp [ev]) ih) (e_cmp (x := .int TT) (y := intsD (f.map phi)) (top_ok _) (by simp [ev]) (in_int _ _)))
    rw [e_c1 (x := intsD (f.map phi)) (by simp [ev])]
    show callG (GA L.defs (59 + 1)) 36 _ = _
    rw [callG_at (show L.defs.lookup 36 = some F36 from rfl)]
    exact f36 (by rw [List.length_map]; omega)
  show exs FM CC GM _ [o0, o1, sh (.int more), sh (encL a b), sh (.int (j : Nat)), o5, sh (.int here), some (true, ptsD f), p8, sh (intsD (f.map phi)), sh (kindP a b f), o11, p12, p13, p14, o15, o16] = _
  refine x_frz (d := ptsD f) rfl ?_
  show exs FM CC GM _ [o0, o1, sh (.int more), sh (encL a b), sh (.int (j : Nat)), o5, sh (.int here), sh (ptsD f), p8, sh (intsD (f.map phi)), sh (kindP a b f), o11, p12, p13, p14, o15, o16] = _
  refine x_no (e_cmp (x := kindP a b f) (y := kindP a b f) ?_ (by simp [ev]) (kindP_ne a b f)) rfl
  rw [e_c2 (x := encL a b) (y := ptsD f) (by simp [ev]) (by simp [ev])]
  exact c45' 54 hfl hf
end Py.K21
end
section
set_option exponentiation.threshold 2000
set_option maxHeartbeats 4000000
namespace Py.K21
open PySem PySem.Spec PyProof.Rows L2 Py
theorem f32 (more : Int) : ∃ a b, callG GM 32 [.int more] = .ok (encL a b) := by
  refine ⟨decide (more % 2 = 0), decide (more / 2 % 2 = 0), ?_⟩
  show callG (GA L.defs (59 + 1)) 32 _ = _
  rw [callG_at (show L.defs.lookup 32 = some F32 from rfl)]
  refine x_run (x_ret (e_tup2 ?_ ?_))
  · exact e_cmp (x := .int (more % 2)) (y := .int 0) (e_bin (x := .int more) (y := .int 2) (by simp [ev, startD]) (by simp [ev]) (b_mod _ _ (by decide))) (by simp [ev]) (c_eq _ _)
  · exact e_cmp (x := .int (more / 2 % 2)) (y := .int 0) (e_bin (x := .int (more / 2)) (y := .int 2) (e_bin (x := .int more) (y := .int 2) (by simp [ev, startD]) (by simp [ev]) (b_fdiv _ _ (by decide) (by decide))) (by simp [ev]) (b_mod _ _ (by decide))) (by simp [ev]) (c_eq _ _)
theorem rng_mem {n q : Nat} {d : D} (hq : ((List.range n).map fun i => D.int ((i : Nat) : Int))[q]? = some d) : q < n ∧ d = .int ((q : Nat) : Int) := by
  rw [List.getElem?_map] at hq
  by_cases h : q < n
  · rw [List.getElem?_range h] at hq
    exact ⟨h, (Option.some.inj hq).symm⟩
  · rw [List.getElem?_eq_none (by simp; omega)] at hq; cases hq
theorem outer_ok (ns : List Int) (hl : ns.length ≤ 63) (q : Nat) (o2 o3 o4 o5 o6 o7 o8 o9 o10 o11 o12 o13 o14 o15 o16 : Option (Bool × D)) :
    ∃ p2 p3 p4 p5 p6 p7 p8 p9 p10 p11 p12 p13 p14, exs FM CC GM B0 [sh (.scr ns), sh (.int (q : Nat)), o2, o3, o4, o5, o6, o7, o8, o9, o10, o11, o12, o13, o14, o15, o16] = .ok (.nx [sh (.scr ns), sh (.int (q : Nat)), p2, p3, p4, p5, p6, p7, p8, p9, p10, p11, p12, p13, p14, o15, o16]) := by
  obtain ⟨cell, e7⟩ := c7 (defs := L.defs) rfl 59 ns hl q
  obtain ⟨more, _, e8⟩ := c8 (defs := L.defs) rfl 59 cell (q : Int)
  obtain ⟨a, b, e32⟩ := f32 more
  have r0 : 0 ≤ more / 4 % 4 := Int.emod_nonneg _ (by decide)
  have r1 : more / 4 % 4 < 4 := Int.emod_lt_of_pos _ (by decide)
  obtain ⟨m, hm⟩ : ∃ m : Nat, (m : Int) = more / 4 % 4 := ⟨(more / 4 % 4).toNat, by omega⟩
  obtain ⟨ρ', e, p4, p6, p7, p8, p9, p10, p12, p13, p14, hρ⟩ := loop_inv (t := .v 4) (body := fun ρ => exs FM CC GM B1 ρ) (l := (List.range 12).map fun i => D.int ((i : Nat) : Int)) (fun _ ρ => ∃ p4 p6 p7 p8 p9 p10 p12 p13 p14 : Option (Bool × D), ρ = [sh (.scr ns), sh (.int (q : Nat)), sh (.int more), sh (encL a b), p4, o5, p6, p7, p8, p9, p10, o11, p12, p13, p14, o15, o16]) [sh (.scr ns), sh (.int (q : Nat)), sh (.int more), sh (encL a b), o4, o5, o6, o7, o8, o9, o10, o11, o12, o13, o14, o15, o16] ⟨_, _, _, _, _, _, _, _, _, rfl⟩ (by
    rintro j d ρ hj ⟨p4, p6, p7, p8, p9, p10, p12, p13, p14, rfl⟩
    obtain ⟨_, rfl⟩ := rng_mem hj
    obtain ⟨q6, q7, q8, q9, q10, q12, q13, q14, e⟩ := turn_ok (a := a) (b := b) more j (sh (.scr ns)) (sh (.int (q : Nat))) o5 p6 p7 p8 p9 p10 o11 p12 p13 p14 o15 o16
    exact ⟨_, _, rfl, e, _, _, _, _, _, _, _, _, _, rfl⟩)
  subst hρ
  have haf := after a b m (by omega) (sh (.scr ns)) (sh (.int (q : Nat))) (sh (.int more)) p4 o5 p6 p7 p8 p9 p10 o11 p12 p13 p14 o15 o16
  refine ⟨sh (.int more), sh (encL a b), p4, fin3 a b m 5, p6, fin3 a b m 7, p8, p9, fin3 a b m 10, fin3 a b m 11, p12, p13, p14, ?_⟩
  refine x_set (d := .int more) ?_ ?_
  · rw [e_c2 (x := .int cell) (y := .int (q : Int)) (by rw [e_c2 (x := .scr ns) (y := .int (q : Nat)) (by simp [ev]) (by simp [ev])]; exact e7) (by simp [ev])]
    exact e8
  show exs FM CC GM _ [sh (.scr ns), sh (.int (q : Nat)), sh (.int more), o3, o4, o5, o6, o7, o8, o9, o10, o11, o12, o13, o14, o15, o16] = _
  refine x_set (d := encL a b) ((e_c1 (x := .int more) (by simp [ev])).trans e32) ?_
  show exs FM CC GM _ [sh (.scr ns), sh (.int (q : Nat)), sh (.int more), sh (encL a b), o4, o5, o6, o7, o8, o9, o10, o11, o12, o13, o14, o15, o16] = _
  refine x_for (rng1_ev (n := 12) (by simp [ev]) (by decide)) e ?_
  refine x_for (ds := ksL a b m) ?_ haf ?_
  · have hk := kinds_is a b m (by omega)
    have : ev CC GM (.call 26 (.c (.v 3) (.c (.bin .mod (.bin .fdiv (.v 2) (.int 4)) (.int 4)) .n))) [sh (.scr ns), sh (.int (q : Nat)), sh (.int more), sh (encL a b), p4, o5, p6, p7, p8, p9, p10, o11, p12, p13, p14, o15, o16] = .ok (.lst (ksL a b m)) := by
      rw [e_c2 (x := encL a b) (y := .int (m : Nat)) (by simp [ev]) (e_bin (x := .int (more / 4)) (y := .int 4) (e_bin (x := .int more) (y := .int 4) (by simp [ev]) (by simp [ev]) (b_fdiv _ _ (by decide) (by decide))) (by simp [ev]) (by rw [b_mod _ _ (by decide), hm]))]
      exact hk
    simp only [evr]
    rw [this]; rfl
  · obtain ⟨h48, h49⟩ := refused a b
    refine x_no ?_ rfl
    rw [ev, evR2, e_nt (e_call1 (x := encL a b) (by simp [ev]) h48) rfl, RR.bind_ok, tru_bl, RR.bind_ok]
    show (if false = true then _ else _) = _
    rw [if_neg Bool.false_ne_true, evR1, e_nt (e_call1 (x := encL a b) (by simp [ev]) h49) rfl]; rfl
theorem law_run (ns : List Int) (hl : ns.length ≤ 63) : L.run 61 50 ns = .ok (.bl true) := by
  show callG (GA L.defs (60 + 1)) 50 [.scr ns] = _
  rw [callG_at (show L.defs.lookup 50 = some F50 from rfl)]
  refine x_run ?_
  show exs FM CC GM _ [sh (.scr ns), none, none, none, none, none, none, none, none, none, none, none, none, none, none, none, none] = _
  have hlen : ev CC GM (.blt .max (.c (.int 1) (.c (.blt .min (.c (.int 3) (.c (.blt .len (.c (.v 0) .n)) .n))) .n))) [sh (.scr ns), none, none, none, none, none, none, none, none, none, none, none, none, none, none, none, none] = .ok (.int ((max 1 (min 3 ns.length) : Nat) : Int)) := by
    have e0 : Blt.len.g [D.scr ns] = some (.int ((ns.length : Nat) : Int)) := rfl
    have e1 : Blt.min.g [D.int 3, D.int ((ns.length : Nat) : Int)] = some (.int ((min 3 ns.length : Nat) : Int)) := min2 3 _
    have e2 : Blt.max.g [D.int 1, D.int ((min 3 ns.length : Nat) : Int)] = some (.int ((max 1 (min 3 ns.length) : Nat) : Int)) := max2 1 _
    simp only [ev, evs, varD_0, RR.bind_ok, e0, e1, e2, of_some]
  obtain ⟨ρ', e, p1, p2, p3, p4, p5, p6, p7, p8, p9, p10, p11, p12, p13, p14, p15, p16, hρ⟩ := loop_inv (t := .v 1) (body := fun ρ => exs FM CC GM B0 ρ) (l := (List.range (max 1 (min 3 ns.length))).map fun i => D.int ((i : Nat) : Int)) (fun _ ρ => ∃ p1 p2 p3 p4 p5 p6 p7 p8 p9 p10 p11 p12 p13 p14 p15 p16 : Option (Bool × D), ρ = [sh (.scr ns), p1, p2, p3, p4, p5, p6, p7, p8, p9, p10, p11, p12, p13, p14, p15, p16]) [sh (.scr ns), none, none, none, none, none, none, none, none, none, none, none, none, none, none, none, none] ⟨_, _, _, _, _, _, _, _, _, _, _, _, _, _, _, _, rfl⟩ (by
    rintro q d ρ hq ⟨p1, p2, p3, p4, p5, p6, p7, p8, p9, p10, p11, p12, p13, p14, p15, p16, rfl⟩
    obtain ⟨_, rfl⟩ := rng_mem hq
    obtain ⟨q2, q3, q4, q5, q6, q7, q8, q9, q10, q11, q12, q13, q14, e⟩ := outer_ok ns hl q p2 p3 p4 p5 p6 p7 p8 p9 p10 p11 p12 p13 p14 p15 p16
    exact ⟨_, _, rfl, e, _, _, _, _, _, _, _, _, _, _, _, _, _, _, _, _, rfl⟩)
  refine x_for (rng1_ev hlen (by omega)) e ?_
  subst hρ
  exact x_ret (by simp [ev])
end Py.K21
end
section
set_option maxHeartbeats 0
open PySem PySem.W PySem.Calls PyProof.Rows
theorem PySem.Challenge.cw_denselines_k21_whole_worlds_holds : PySem.Challenge.rw_denselines_k21_whole_worlds.Holds := by
  w_on; o_law
  refine HandSHeadRun.head_any (r := OpenLaw.row PySem.Challenge.rw_denselines_k21_whole_worlds) (q := view (OpenLaw.row PySem.Challenge.rw_denselines_k21_whole_worlds).prog [41]) (H := Py.K21.hk) (ob := Py.K21.ob) (M := 6000) (loose := Py.K21.loose) (d := HandSHeadRun.topDef (OpenLaw.row PySem.Challenge.rw_denselines_k21_whole_worlds).prog 41) (kwd := []) Py.K21.ob_eq
    (by kernel_rfl) (fun s => by kernel_rfl) Py.K21.run (by kernel_rfl) (by kernel_rfl) (by kernel_rfl) (by rfl) (by first | assumption | decide +kernel) (by decide +kernel) ⟨rfl, rfl, rfl, rfl, rfl, by decide +kernel⟩ ?hw ?hc
  case hw => w_witness2
  case hc =>
    refine LamX.walk_ofTsE (l := PySem.Challenge.rw_denselines_k21_whole_worlds) (n := 63) (k := 61) (x := "_law_script") (CX := fun w => L2N.CX (PySem.Challenge.rw_denselines_k21_whole_worlds).prog w) rfl (by decide) (by kernel_rfl) ⟨rfl, by decide, by decide⟩ ?F (fun _ _ _ _ _ z => by obtain ⟨_, _, _, _, _, _, _, _, _, _, _, _, z⟩ := z; exact z)
    intro w mg fa h Y G hmg0
    obtain ⟨K, KX, c⟩ := Y
    have hmg : mg (Py.K21.F50).name = some (.ref fa) := by
      have e : (HandSHeadRun.topDef (OpenLaw.row PySem.Challenge.rw_denselines_k21_whole_worlds).prog 41).name = (Py.K21.F50).name := by kernel_rfl
      rw [← e]
      exact hmg0
    exact ⟨K, KX, Py.Law.walkT Py.K21.L Py.K21.chk (i := 50) (d := Py.K21.F50) (k := 61) (p := "_law_script") (Nat.le_refl 63) KX G c rfl rfl (by decide +kernel) hmg Py.K21.law_run⟩
end
