import PyProof.Rows.All
import Wide.All
import OpenK.AllK
import Wide.FinOn
import HandS.ForMost
import HandS.Exc
import HandS.WordsExc
import HandS.CallSlots
import HandS.Star
import HandS.Zip
import HandS.DictComp
import HandS.TupAny
import HandS.Style
import HandS.IsInst
import HandS.SortInts
import HandS.Conv
import HandS.WideBits
import HandS.Deep
import HandS.TupLen
import HandS.More
import HandS.Small
import HandS.RaiseMore
import HandS.Sort
import HandS.DictTup
import HandS.ListItems
import KE.KDictList
import HandS.SortKw
import KE.SortKeyHeap
import HandS.EndBits
import HandS.Dict
import KE.KDictPairs
import HandS.ExcOwn
import HandS.TryOnly
import PySem.Challenge.RW_oddcrowds_k76_whole_steps_wished
set_option Elab.async false
set_option linter.all false
set_option maxRecDepth 100000
set_option maxHeartbeats 1000000
namespace VL
open PySem PySem.Spec PyProof.Rows L2

/-! data without a heap -/
inductive D where
  | non | bl (b : Bool) | int (i : Int) | str (x : Str)
  | tup (l : List D) | lst (l : List D) | kt (l : List D) | pt (l : List D)
  | dk (l : List (Key × D)) | dt (l : List (List Key × D))
  | ins (C : Addr) (fs : List (Str × D))
  | han (a : Addr) | ty (n : String) | rng (i j : Int)

mutual
def Rep (K : PySem.W.Frag) (F : Hp) : D → V → Prop
  | .non, v => v = .non
  | .bl b, v => v = .bl b
  | .int i, v => v = .int i
  | .str x, v => v = .str x
  | .tup l, v => ∃ a vs, v = .ref a ∧ F a = some (.tup vs) ∧ RepL K F l vs
  | .lst l, v => ∃ a vs, v = .ref a ∧ F a = some (.lst vs) ∧ RepL K F l vs
  | .kt l, v => ∃ a vs, v = .ref a ∧ SqL K F a vs ∧ RepL K F l vs
  | .pt l, v => ∃ a o vs, v = .ref a ∧ F a = some (.frz o (.tup vs)) ∧ o.dict = none ∧ RepL K F l vs
  | .dk l, v => ∃ a od kvs, v = .ref a ∧ F a = some (.frz od (.dK kvs)) ∧ RepK K F l kvs
  | .dt l, v => ∃ a od kvs, v = .ref a ∧ F a = some (.frz od (.dT kvs)) ∧ RepT K F l kvs
  | .ins C fs, v => ∃ a dx gs, v = .ref a ∧ F a = some (.ins C dx gs) ∧ RepF K F fs gs
  | .han a, v => v = .ref a
  | .ty n, v => v = .ty n
  | .rng i j, v => ∃ a, v = .ref a ∧ F a = some (.rng i j)
def RepL (K : PySem.W.Frag) (F : Hp) : List D → List V → Prop
  | [], vs => vs = []
  | d :: l, vs => ∃ x r, vs = x :: r ∧ Rep K F d x ∧ RepL K F l r
def RepK (K : PySem.W.Frag) (F : Hp) : List (Key × D) → List (Key × V) → Prop
  | [], vs => vs = []
  | (k, d) :: l, vs => ∃ x r, vs = (k, x) :: r ∧ Rep K F d x ∧ RepK K F l r
def RepT (K : PySem.W.Frag) (F : Hp) : List (List Key × D) → List (List Key × V) → Prop
  | [], vs => vs = []
  | (k, d) :: l, vs => ∃ x r, vs = (k, x) :: r ∧ Rep K F d x ∧ RepT K F l r
def RepF (K : PySem.W.Frag) (F : Hp) : List (Str × D) → List (Str × V) → Prop
  | [], vs => vs = []
  | (k, d) :: l, vs => ∃ x r, vs = (k, x) :: r ∧ Rep K F d x ∧ RepF K F l r
end

theorem Same.seqT {K : PySem.W.Frag} {H H' : Hp} {a : Addr} {xs : List V} (e : Same H H') (h : SqT K H a xs) : SqT K H' a xs := by
  rcases h with (h | ⟨o, h⟩) | h
  · exact .inl (.inl (e _ _ h))
  · exact .inl (.inr ⟨o, e _ _ h⟩)
  · exact .inr h

section
variable {K : PySem.W.Frag} {F F' : Hp}
mutual
theorem Rep.mono (s : Same F F') : ∀ {d : D} {v : V}, Rep K F d v → Rep K F' d v
  | .non, _, h => h
  | .bl _, _, h => h
  | .int _, _, h => h
  | .str _, _, h => h
  | .han _, _, h => h
  | .ty _, _, h => h
  | .rng i j, _, h => by
    unfold Rep at h ⊢
    obtain ⟨a, e, q⟩ := h
    exact ⟨a, e, s _ _ q⟩
  | .tup l, v, h => by
    unfold Rep at h ⊢
    obtain ⟨a, vs, e, q, r⟩ := h
    exact ⟨a, vs, e, s _ _ q, RepL.mono s r⟩
  | .lst l, v, h => by
    unfold Rep at h ⊢
    obtain ⟨a, vs, e, q, r⟩ := h
    exact ⟨a, vs, e, s _ _ q, RepL.mono s r⟩
  | .kt l, v, h => by
    unfold Rep at h ⊢
    obtain ⟨a, vs, e, q, r⟩ := h
    exact ⟨a, vs, e, Same.seq s q, RepL.mono s r⟩
  | .pt l, v, h => by
    unfold Rep at h ⊢
    obtain ⟨a, o, vs, e, q, z, r⟩ := h
    exact ⟨a, o, vs, e, s _ _ q, z, RepL.mono s r⟩
  | .dk l, v, h => by
    unfold Rep at h ⊢
    obtain ⟨a, od, vs, e, q, r⟩ := h
    exact ⟨a, od, vs, e, s _ _ q, RepK.mono s r⟩
  | .dt l, v, h => by
    unfold Rep at h ⊢
    obtain ⟨a, od, vs, e, q, r⟩ := h
    exact ⟨a, od, vs, e, s _ _ q, RepT.mono s r⟩
  | .ins C fs, v, h => by
    unfold Rep at h ⊢
    obtain ⟨a, dx, vs, e, q, r⟩ := h
    exact ⟨a, dx, vs, e, s _ _ q, RepF.mono s r⟩
theorem RepL.mono (s : Same F F') : ∀ {l : List D} {vs : List V}, RepL K F l vs → RepL K F' l vs
  | [], _, h => h
  | d :: l, vs, h => by
    unfold RepL at h ⊢
    obtain ⟨x, r, e, q, z⟩ := h
    exact ⟨x, r, e, Rep.mono s q, RepL.mono s z⟩
theorem RepK.mono (s : Same F F') : ∀ {l : List (Key × D)} {vs : List (Key × V)}, RepK K F l vs → RepK K F' l vs
  | [], _, h => h
  | (k, d) :: l, vs, h => by
    unfold RepK at h ⊢
    obtain ⟨x, r, e, q, z⟩ := h
    exact ⟨x, r, e, Rep.mono s q, RepK.mono s z⟩
theorem RepT.mono (s : Same F F') : ∀ {l : List (List Key × D)} {vs : List (List Key × V)}, RepT K F l vs → RepT K F' l vs
  | [], _, h => h
  | (k, d) :: l, vs, h => by
    unfold RepT at h ⊢
    obtain ⟨x, r, e, q, z⟩ := h
    exact ⟨x, r, e, Rep.mono s q, RepT.mono s z⟩
theorem RepF.mono (s : Same F F') : ∀ {l : List (Str × D)} {vs : List (Str × V)}, RepF K F l vs → RepF K F' l vs
  | [], _, h => h
  | (k, d) :: l, vs, h => by
    unfold RepF at h ⊢
    obtain ⟨x, r, e, q, z⟩ := h
    exact ⟨x, r, e, Rep.mono s q, RepF.mono s z⟩
end
end
end VL

set_option Elab.async false
set_option linter.all false
set_option maxRecDepth 100000
set_option maxHeartbeats 1000000
namespace VL
open PySem PySem.Spec PyProof.Rows L2

section
variable {K : PySem.W.Frag} {F F' : Hp}
theorem RepL.length : ∀ {l : List D} {vs : List V}, RepL K F l vs → vs.length = l.length
  | [], _, h => by unfold RepL at h; subst h; rfl
  | d :: l, vs, h => by
    unfold RepL at h
    obtain ⟨x, r, rfl, _, z⟩ := h
    simp [RepL.length z]
theorem RepL.nil : RepL K F [] [] := by unfold RepL; rfl
theorem RepL.cons {d : D} {x : V} {l : List D} {r : List V} (h : Rep K F d x) (t : RepL K F l r) : RepL K F (d :: l) (x :: r) := by
  unfold RepL; exact ⟨x, r, rfl, h, t⟩
theorem RepL.append : ∀ {l m : List D} {xs ys : List V}, RepL K F l xs → RepL K F m ys → RepL K F (l ++ m) (xs ++ ys)
  | [], _, _, _, h, q => by unfold RepL at h; subst h; exact q
  | d :: l, m, _, ys, h, q => by
    unfold RepL at h
    obtain ⟨x, r, rfl, h1, z⟩ := h
    exact .cons h1 (RepL.append z q)
theorem RepL.get : ∀ {l : List D} {vs : List V} {i : Nat} {d : D}, RepL K F l vs → l[i]? = some d → ∃ x, vs[i]? = some x ∧ Rep K F d x
  | [], _, _, _, _, e => by simp at e
  | d :: l, vs, 0, _, h, e => by
    unfold RepL at h
    obtain ⟨x, r, rfl, h1, z⟩ := h
    simp at e; subst e
    exact ⟨x, rfl, h1⟩
  | d :: l, vs, i + 1, _, h, e => by
    unfold RepL at h
    obtain ⟨x, r, rfl, h1, z⟩ := h
    obtain ⟨y, e1, r1⟩ := RepL.get (i := i) z (by simpa using e)
    exact ⟨y, by simpa using e1, r1⟩
theorem RepL.get' {l : List D} {vs : List V} {i : Nat} {x : V} (h : RepL K F l vs) (e : vs[i]? = some x) : ∃ d, l[i]? = some d ∧ Rep K F d x := by
  have hl := h.length
  have hi : i < l.length := by
    have := (List.getElem?_eq_some_iff.mp e).1
    omega
  obtain ⟨y, e1, r1⟩ := h.get (List.getElem?_eq_getElem hi)
  rw [e] at e1
  cases e1
  exact ⟨_, List.getElem?_eq_getElem hi, r1⟩
theorem RepL.of_get : ∀ {l : List D} {vs : List V}, vs.length = l.length → (∀ (i : Nat) (d : D) (x : V), l[i]? = some d → vs[i]? = some x → Rep K F d x) → RepL K F l vs
  | [], vs, hl, _ => by
    have : vs = [] := List.length_eq_zero_iff.mp hl
    subst this
    exact .nil
  | d :: l, [], hl, _ => by simp at hl
  | d :: l, x :: r, hl, h => by
    have ih : RepL K F l r := RepL.of_get (by simpa using hl) fun i e y h1 h2 => h (i + 1) e y (by simpa using h1) (by simpa using h2)
    exact .cons (h 0 d x rfl rfl) ih
theorem RepL.set {l : List D} {vs : List V} {d : D} {x : V} (h : RepL K F l vs) (r : Rep K F d x) (i : Nat) : RepL K F (l.set i d) (vs.set i x) := by
  refine .of_get (by simp [h.length]) fun j e y h1 h2 => ?_
  rw [List.getElem?_set] at h1 h2
  rw [h.length] at h2
  by_cases hij : i = j
  · subst hij
    by_cases hl : i < l.length
    · simp only [hl, if_true] at h1 h2
      cases h1; cases h2; exact r
    · simp [hl] at h1
  · simp only [hij, if_false] at h1 h2
    obtain ⟨z, e1, r1⟩ := h.get h1
    rw [h2] at e1; cases e1; exact r1
theorem RepL.take {l : List D} {vs : List V} (h : RepL K F l vs) (n : Nat) : RepL K F (l.take n) (vs.take n) := by
  refine .of_get (by simp [h.length]) fun j e y h1 h2 => ?_
  rw [List.getElem?_take] at h1 h2
  split at h1
  · obtain ⟨z, e1, r1⟩ := h.get h1
    rename_i hj
    rw [if_pos hj, e1] at h2; cases h2; exact r1
  · cases h1
theorem RepL.drop {l : List D} {vs : List V} (h : RepL K F l vs) (n : Nat) : RepL K F (l.drop n) (vs.drop n) := by
  refine .of_get (by simp [h.length]) fun j e y h1 h2 => ?_
  rw [List.getElem?_drop] at h1 h2
  obtain ⟨z, e1, r1⟩ := h.get h1
  rw [e1] at h2; cases h2; exact r1
theorem RepL.reverse {l : List D} {vs : List V} (h : RepL K F l vs) : RepL K F l.reverse vs.reverse := by
  have hl := h.length
  refine .of_get (by simp [h.length]) fun j e y h1 h2 => ?_
  have hj : j < l.length := by
    have := (List.getElem?_eq_some_iff.mp h1).1
    simpa using this
  rw [List.getElem?_reverse hj] at h1
  rw [List.getElem?_reverse (by omega), hl] at h2
  obtain ⟨z, e1, r1⟩ := h.get h1
  rw [e1] at h2; cases h2; exact r1
theorem RepL.eraseIdx : ∀ {l : List D} {vs : List V}, RepL K F l vs → ∀ n : Nat, RepL K F (l.eraseIdx n) (vs.eraseIdx n)
  | [], _, h, n => by unfold RepL at h; subst h; exact .nil
  | d :: l, vs, h, n => by
    unfold RepL at h
    obtain ⟨x, r, rfl, h1, z⟩ := h
    cases n with
    | zero => exact z
    | succ n => exact .cons h1 (RepL.eraseIdx z n)
end

/-! the world part: what callers share and may change -/
structure Wd (Th : Type) where
  fp : Th → List Addr
  J : Th → Hp → Hp → Prop
  stab : ∀ {t : Th} {F F' H H' : Hp}, J t F H → L2.Same F F' → (∀ z ∈ fp t, H' z = H z) → J t F' H'

structure Xn where
  cls : Value
  fs : List (Str × D)
inductive Sl where
  | un | sh (d : D) | ow (d : D)
inductive R where
  | sh (d : D) | ow (d : D)
def R.d : R → D
  | .sh d => d
  | .ow d => d
def R.sl : R → Sl
  | .sh d => .sh d
  | .ow d => .ow d
abbrev Ev := List Sl

def RepX (K : PySem.W.Frag) (F : Hp) (x : Xn) (cls : Value) (d : Option Addr) : Prop :=
  x.cls = cls ∧ (x.fs = [] ∨ ∃ dx gs, d = some dx ∧ F dx = some (.xd gs) ∧ RepF K F x.fs gs)
theorem RepX.mono {K : PySem.W.Frag} {F F' : Hp} (s : L2.Same F F') {x : Xn} {cls : Value} {d : Option Addr} (h : RepX K F x cls d) : RepX K F' x cls d := by
  obtain ⟨e, h⟩ := h
  refine ⟨e, h.imp id ?_⟩
  rintro ⟨dx, gs, e1, e2, r⟩
  exact ⟨dx, gs, e1, s _ _ e2, r.mono s⟩

/-- no tuple -/
def NT (o : HO) : Prop := ∀ vs, o ≠ .tup vs
/-- a container that nobody else holds -/
def Own (K : PySem.W.Frag) (F H : Hp) (a : Addr) (d : D) : Prop := F a = none ∧ match d with
  | .lst l => ∃ vs, H a = some (.lst vs) ∧ RepL K F l vs
  | .dk l => ∃ vs, H a = some (.dK vs) ∧ RepK K F l vs
  | .dt l => ∃ vs, H a = some (.dT vs) ∧ RepT K F l vs
  | .ins C fs => ∃ gs : Addr × List (Str × V), H a = some (.ins C gs.1 gs.2) ∧ RepF K F fs gs.2
  | _ => False
theorem Own.has {K : PySem.W.Frag} {F H : Hp} {a : Addr} {d : D} (h : Own K F H a d) : ∃ o, H a = some o := by
  obtain ⟨_, h⟩ := h
  cases d <;> first | exact h.elim | (obtain ⟨vs, e, _⟩ := h; exact ⟨_, e⟩)
theorem Own.someN {K : PySem.W.Frag} {F H : Hp} {a : Addr} {d : D} (h : Own K F H a d) : ∃ o, H a = some o ∧ NT o := by
  obtain ⟨_, h⟩ := h
  cases d <;> first | exact h.elim | (obtain ⟨vs, e, _⟩ := h; exact ⟨_, e, fun _ z => by cases z⟩)
theorem Own.mono {K : PySem.W.Frag} {F F' H H' : Hp} {a : Addr} {d : D} (h : Own K F H a d) (s : L2.Same F F') (e : H' a = H a) (n : F' a = none) : Own K F' H' a d := by
  obtain ⟨_, h⟩ := h
  refine ⟨n, ?_⟩
  cases d <;> first | exact h | (obtain ⟨vs, q, r⟩ := h; exact ⟨vs, e.trans q, r.mono s⟩)

/-- behind some code that began at F θ H -/
structure After {Th : Type} (M : Wd Th) (F : Hp) (t : Th) (H F' : Hp) (t' : Th) (H' : Hp) : Prop where
  le : L2.Same F F'
  sub : L2.Same F' H'
  new : ∀ a o, H a = some o → NT o → F a = none → F' a = none
  same : ∀ a o, a ∉ M.fp t → H a = some o → H' a = some o
  there : ∀ a o, H a = some o → ∃ o', H' a = some o' ∧ (NT o → NT o')
  fpn : ∀ a ∈ M.fp t', F' a = none ∧ (∃ o, H' a = some o ∧ NT o) ∧ (a ∈ M.fp t ∨ H a = none)
  j : M.J t' F' H'
section
variable {Th : Type} {M : Wd Th} {F F1 F2 H H1 H2 : Hp} {t t1 t2 : Th}
theorem After.refl (s : L2.Same F H) (j : M.J t F H) (h : ∀ a ∈ M.fp t, F a = none ∧ ∃ o, H a = some o ∧ NT o) : After M F t H F t H :=
  ⟨fun _ _ e => e, s, fun _ _ _ _ e => e, fun _ _ _ e => e, fun _ o e => ⟨o, e, id⟩, fun a ha => ⟨(h a ha).1, (h a ha).2, .inl ha⟩, j⟩
theorem After.old (a : After M F t H F1 t1 H1) {c : Addr} (e : H1 c = none) : H c = none := by
  cases q : H c with
  | none => rfl
  | some o =>
    obtain ⟨o', e', _⟩ := a.there c o q
    rw [e] at e'; cases e'
theorem After.trans (a : After M F t H F1 t1 H1) (b : After M F1 t1 H1 F2 t2 H2) : After M F t H F2 t2 H2 where
  le := a.le.trans b.le
  sub := b.sub
  new := fun c o e nt n => by
    obtain ⟨o', e', nt'⟩ := a.there c o e
    exact b.new c o' e' (nt' nt) (a.new c o e nt n)
  same := fun c o hc e => b.same c o (fun hm => by
    rcases (a.fpn c hm).2.2 with q | q
    · exact hc q
    · rw [q] at e; cases e) (a.same c o hc e)
  there := fun c o e => by
    obtain ⟨o', e', n1⟩ := a.there c o e
    obtain ⟨o2, e2, n2⟩ := b.there c o' e'
    exact ⟨o2, e2, fun z => n2 (n1 z)⟩
  fpn := fun c hc => by
    obtain ⟨n, h, q⟩ := b.fpn c hc
    refine ⟨n, h, ?_⟩
    rcases q with q | q
    · exact (a.fpn c q).2.2
    · exact .inr (a.old q)
  j := b.j
/-- objects are only added -/
theorem After.grow (a : After M F t H F1 t1 H1) (le : L2.Same F1 F2) (sub : L2.Same F2 H2) (new : ∀ c o, H1 c = some o → NT o → F1 c = none → F2 c = none) (same : L2.Same H1 H2) : After M F t H F2 t1 H2 :=
  a.trans ⟨le, sub, new, fun c o _ e => same c o e, fun c o e => ⟨o, same c o e, id⟩, fun c hc => by
    obtain ⟨n, ⟨o, e, nt⟩, _⟩ := a.fpn c hc
    exact ⟨new c o e nt n, ⟨o, same c o e, nt⟩, .inl hc⟩, M.stab a.j le fun z hz => by
      obtain ⟨_, ⟨o, e, _⟩, _⟩ := a.fpn z hz
      rw [e, same z o e]⟩
end

/-! the base of a body: where it began -/
structure Bs (Th : Type) where
  K : PySem.W.Frag
  M : Wd Th
  H0 : Hp
  F0 : Hp
  t0 : Th

structure SR {Th : Type} (B : Bs Th) (F : Hp) (t : Th) (e : Ev) (σ : L2.St) (H : Hp) : Prop where
  af : After B.M B.F0 B.t0 B.H0 F t H
  len : e.length = σ.length
  sh : ∀ (i : Nat) (d : D), e[i]? = some (.sh d) → ∃ v, σ[i]? = some (some v) ∧ Rep B.K F d v
  ow : ∀ (i : Nat) (d : D), e[i]? = some (.ow d) → ∃ a, σ[i]? = some (some (.ref a)) ∧ Own B.K F H a d ∧ B.H0 a = none ∧ a ∉ B.M.fp t
  sep : ∀ (i j : Nat) (d d' : D) (a : Addr), e[i]? = some (.ow d) → e[j]? = some (.ow d') → σ[i]? = some (some (.ref a)) → σ[j]? = some (some (.ref a)) → i = j

/-- a result: frozen, or a container that nobody else holds -/
def RepR {Th : Type} (B : Bs Th) (F : Hp) (t : Th) (e : Ev) (σ : L2.St) (H : Hp) : R → V → Prop
  | .sh d, v => Rep B.K F d v
  | .ow d, v => ∃ a, v = .ref a ∧ Own B.K F H a d ∧ B.H0 a = none ∧ a ∉ B.M.fp t ∧ ∀ (i : Nat) (d' : D), e[i]? = some (.ow d') → σ[i]? ≠ some (some (.ref a))

section
variable {Th : Type} {B : Bs Th} {F F' H H' : Hp} {t t' : Th} {e : Ev} {σ : L2.St}
theorem SR.sub (S : SR B F t e σ H) : L2.Same F H := S.af.sub
/-- behind a call -/
theorem SR.after (S : SR B F t e σ H) (a : After B.M F t H F' t' H') : SR B F' t' e σ H' where
  af := S.af.trans a
  len := S.len
  sh := fun i d h => by
    obtain ⟨v, e1, r⟩ := S.sh i d h
    exact ⟨v, e1, r.mono a.le⟩
  ow := fun i d h => by
    obtain ⟨b, e1, o, n, hb⟩ := S.ow i d h
    obtain ⟨ob, eb, nb⟩ := o.someN
    have eb' := a.same b ob hb eb
    refine ⟨b, e1, o.mono a.le (eb'.trans eb.symm) (a.new b ob eb nb o.1), n, fun hm => ?_⟩
    rcases (a.fpn b hm).2.2 with q | q
    · exact hb q
    · rw [q] at eb; cases eb
  sep := S.sep
/-- objects are only added -/
theorem SR.grow (S : SR B F t e σ H) (le : L2.Same F F') (sub : L2.Same F' H') (new : ∀ c o, H c = some o → NT o → F c = none → F' c = none) (same : L2.Same H H') : SR B F' t e σ H' :=
  S.after ((After.refl S.sub S.af.j fun a ha => ⟨(S.af.fpn a ha).1, (S.af.fpn a ha).2.1⟩).grow le sub new same)
theorem same_upd {H : Hp} {p : Addr} {o : HO} (h : H p = none) : L2.Same H (upd H p o) := fun b x e => by
  rw [upd_ne (ne_of_none e h)]
  exact e
/-- a new frozen object -/
theorem SR.fresh (S : SR B F t e σ H) {p : Addr} {o : HO} (hp : H p = none) : SR B (upd F p o) t e σ (upd H p o) := by
  have fp : F p = none := S.sub.free hp
  refine S.grow (same_upd fp) (fun b x q => ?_) (fun c x q _ n => ?_) (same_upd hp)
  · by_cases hb : b = p
    · subst hb; rw [upd_same] at q ⊢; exact q
    · rw [upd_ne hb] at q ⊢; exact S.sub _ _ q
  · rw [upd_ne (ne_of_none q hp)]; exact n
/-- a new object that is not frozen -/
theorem SR.loose (S : SR B F t e σ H) {p : Addr} {o : HO} (hp : H p = none) : SR B F t e σ (upd H p o) :=
  S.grow (L2.Same.refl F) (S.sub.trans (same_upd hp)) (fun _ _ _ _ n => n) (same_upd hp)
theorem SR.out (S : SR B F t e σ H) {p : Addr} (hp : H p = none) : B.H0 p = none := S.af.old hp
theorem SR.nfp (S : SR B F t e σ H) {p : Addr} (hp : H p = none) : p ∉ B.M.fp t := fun hm => by
  obtain ⟨_, ⟨o, e, _⟩, _⟩ := S.af.fpn p hm
  rw [hp] at e; cases e
theorem SR.nslot (S : SR B F t e σ H) {p : Addr} (hp : H p = none) : ∀ (i : Nat) (d' : D), e[i]? = some (.ow d') → σ[i]? ≠ some (some (.ref p)) := fun i d' h q => by
  obtain ⟨a, e1, o, _⟩ := S.ow i d' h
  rw [q] at e1
  cases e1
  obtain ⟨ob, eb⟩ := o.has
  rw [hp] at eb; cases eb
/-- a new list (or dict) of frozen things: its owner is the result -/
theorem SR.newLst (S : SR B F t e σ H) {p : Addr} {l : List D} {vs : List V} (hp : H p = none) (r : RepL B.K F l vs) : RepR B F t e σ (upd H p (.lst vs)) (.ow (.lst l)) (.ref p) :=
  ⟨p, rfl, ⟨S.sub.free hp, vs, upd_same, r⟩, S.out hp, S.nfp hp, S.nslot hp⟩
theorem SR.newDk (S : SR B F t e σ H) {p : Addr} {l : List (Key × D)} {vs : List (Key × V)} (hp : H p = none) (r : RepK B.K F l vs) : RepR B F t e σ (upd H p (.dK vs)) (.ow (.dk l)) (.ref p) :=
  ⟨p, rfl, ⟨S.sub.free hp, vs, upd_same, r⟩, S.out hp, S.nfp hp, S.nslot hp⟩
theorem SR.newDt (S : SR B F t e σ H) {p : Addr} {l : List (List Key × D)} {vs : List (List Key × V)} (hp : H p = none) (r : RepT B.K F l vs) : RepR B F t e σ (upd H p (.dT vs)) (.ow (.dt l)) (.ref p) :=
  ⟨p, rfl, ⟨S.sub.free hp, vs, upd_same, r⟩, S.out hp, S.nfp hp, S.nslot hp⟩
/-- an object that only we hold is written, or frozen: H' and F' may differ from H and F at a alone -/
theorem SR.write (S : SR B F t e σ H) {a : Addr} (h0 : B.H0 a = none) (hf : a ∉ B.M.fp t) (hFa : F a = none) (hH : ∀ b, b ≠ a → H' b = H b) (hF : ∀ b, b ≠ a → F' b = F b) (hs : ∀ o, F' a = some o → H' a = some o) (ht : ∃ o, H' a = some o)
    (hn : ∀ (i : Nat) (d : D), e[i]? = some (.ow d) → σ[i]? ≠ some (some (.ref a))) : SR B F' t e σ H' := by
  have le : L2.Same F F' := fun b o q => by
    by_cases hb : b = a
    · subst hb; rw [hFa] at q; cases q
    · rw [hF b hb]; exact q
  refine ⟨⟨S.af.le.trans le, fun b o q => ?_, fun c o q nt n => ?_, fun c o hc q => ?_, fun c o q => ?_, fun c hc => ?_, B.M.stab S.af.j le fun z hz => hH z fun q => hf (q ▸ hz)⟩, S.len, fun i d h => ?_, fun i d h => ?_, S.sep⟩
  · by_cases hb : b = a
    · subst hb; exact hs o q
    · rw [hF b hb] at q; rw [hH b hb]; exact S.sub b o q
  · have hca : c ≠ a := fun z => by subst z; rw [h0] at q; cases q
    rw [hF c hca]; exact S.af.new c o q nt n
  · have hca : c ≠ a := fun z => by subst z; rw [h0] at q; cases q
    rw [hH c hca]; exact S.af.same c o hc q
  · have hca : c ≠ a := fun z => by subst z; rw [h0] at q; cases q
    rw [hH c hca]; exact S.af.there c o q
  · have hca : c ≠ a := fun z => hf (z ▸ hc)
    obtain ⟨x1, x2, x3⟩ := S.af.fpn c hc
    rw [hF c hca, hH c hca]
    exact ⟨x1, x2, x3⟩
  · obtain ⟨v, e1, r⟩ := S.sh i d h
    exact ⟨v, e1, r.mono le⟩
  · obtain ⟨b, e1, o, n, hb⟩ := S.ow i d h
    have hba : b ≠ a := fun z => by subst z; exact hn i d h e1
    exact ⟨b, e1, o.mono le (hH b hba) ((hF b hba).trans o.1), n, hb⟩
/-- a slot is stored: frozen -/
theorem SR.setSh (S : SR B F t e σ H) {d : D} {v : V} (r : Rep B.K F d v) (i : Nat) : SR B F t (e.set i (.sh d)) (σ.set i (some v)) H := by
  have hl := S.len
  have at_ : ∀ (j : Nat) (x : Sl), (e.set i (.sh d))[j]? = some x → (j = i ∧ x = .sh d ∧ i < σ.length) ∨ (j ≠ i ∧ e[j]? = some x) := fun j x h => by
    rw [List.getElem?_set] at h
    by_cases hij : i = j
    · subst hij
      rw [if_pos rfl] at h
      split at h
      · cases h; exact .inl ⟨rfl, rfl, by omega⟩
      · cases h
    · rw [if_neg hij] at h
      exact .inr ⟨fun z => hij z.symm, h⟩
  have sg : ∀ (j : Nat), j ≠ i → (σ.set i (some v))[j]? = σ[j]? := fun j h => List.getElem?_set_ne fun z => h z.symm
  refine ⟨S.af, by simp [hl], fun j x h => ?_, fun j x h => ?_, fun j k x y a h1 h2 q1 q2 => ?_⟩
  · rcases at_ j _ h with ⟨rfl, ex, hi⟩ | ⟨hne, h⟩
    · cases ex
      exact ⟨v, by rw [List.getElem?_set_self hi], r⟩
    · rw [sg j hne]; exact S.sh j x h
  · rcases at_ j _ h with ⟨rfl, ex, hi⟩ | ⟨hne, h⟩
    · cases ex
    · rw [sg j hne]; exact S.ow j x h
  · rcases at_ j _ h1 with ⟨rfl, ex, hi⟩ | ⟨hne, h1⟩
    · cases ex
    · rcases at_ k _ h2 with ⟨rfl, ex, hi⟩ | ⟨hne', h2⟩
      · cases ex
      · rw [sg j hne] at q1; rw [sg k hne'] at q2
        exact S.sep j k x y a h1 h2 q1 q2
/-- a slot is forgotten -/
theorem SR.forget (S : SR B F t e σ H) (i : Nat) (x : Option V) : SR B F t (e.set i .un) (σ.set i x) H := by
  have hl := S.len
  have at_ : ∀ (j : Nat) (y : Sl), y ≠ .un → (e.set i .un)[j]? = some y → j ≠ i ∧ e[j]? = some y := fun j y hy h => by
    rw [List.getElem?_set] at h
    by_cases hij : i = j
    · subst hij
      rw [if_pos rfl] at h
      split at h
      · cases h; exact (hy rfl).elim
      · cases h
    · rw [if_neg hij] at h
      exact ⟨fun z => hij z.symm, h⟩
  have sg : ∀ (j : Nat), j ≠ i → (σ.set i x)[j]? = σ[j]? := fun j h => List.getElem?_set_ne fun z => h z.symm
  refine ⟨S.af, by simp [hl], fun j d h => ?_, fun j d h => ?_, fun j k d d' a h1 h2 q1 q2 => ?_⟩
  · obtain ⟨hne, h⟩ := at_ j (.sh d) (fun z => nomatch z) h
    rw [sg j hne]; exact S.sh j d h
  · obtain ⟨hne, h⟩ := at_ j (.ow d) (fun z => nomatch z) h
    rw [sg j hne]; exact S.ow j d h
  · obtain ⟨hne, h1⟩ := at_ j (.ow d) (fun z => nomatch z) h1
    obtain ⟨hne', h2⟩ := at_ k (.ow d') (fun z => nomatch z) h2
    rw [sg j hne] at q1; rw [sg k hne'] at q2
    exact S.sep j k d d' a h1 h2 q1 q2
/-- the value of a slot changes its description (frozen now, or forgotten) -/
theorem SR.slot (S : SR B F t e σ H) (i : Nat) : SR B F t (e.set i .un) σ H := by
  have q := S.forget i ((σ[i]?).getD none)
  have : σ.set i ((σ[i]?).getD none) = σ := by
    by_cases hi : i < σ.length
    · rw [List.getElem?_eq_getElem hi, Option.getD_some, List.set_getElem_self]
    · rw [List.set_eq_of_length_le (by omega)]
  rw [this] at q
  exact q
theorem SR.setOw (S : SR B F t e σ H) {d : D} {a : Addr} (r : RepR B F t e σ H (.ow d) (.ref a)) (i : Nat) : SR B F t (e.set i (.ow d)) (σ.set i (some (.ref a))) H := by
  have hl := S.len
  obtain ⟨a', ea, o, n, hf, hs⟩ := r
  cases ea
  have at_ : ∀ (j : Nat) (x : Sl), (e.set i (.ow d))[j]? = some x → (j = i ∧ x = .ow d ∧ i < σ.length) ∨ (j ≠ i ∧ e[j]? = some x) := fun j x h => by
    rw [List.getElem?_set] at h
    by_cases hij : i = j
    · subst hij
      rw [if_pos rfl] at h
      split at h
      · cases h; exact .inl ⟨rfl, rfl, by omega⟩
      · cases h
    · rw [if_neg hij] at h
      exact .inr ⟨fun z => hij z.symm, h⟩
  have sg : ∀ (j : Nat), j ≠ i → (σ.set i (some (V.ref a)))[j]? = σ[j]? := fun j h => List.getElem?_set_ne fun z => h z.symm
  refine ⟨S.af, by simp [hl], fun j x h => ?_, fun j x h => ?_, fun j k x y b h1 h2 q1 q2 => ?_⟩
  · rcases at_ j _ h with ⟨rfl, ex, hi⟩ | ⟨hne, h⟩
    · cases ex
    · rw [sg j hne]; exact S.sh j x h
  · rcases at_ j _ h with ⟨rfl, ex, hi⟩ | ⟨hne, h⟩
    · cases ex
      exact ⟨a, by rw [List.getElem?_set_self hi], o, n, hf⟩
    · rw [sg j hne]; exact S.ow j x h
  · rcases at_ j _ h1 with ⟨rfl, ex, hi⟩ | ⟨hne, h1⟩
    · rcases at_ k _ h2 with ⟨rfl, ex', hi'⟩ | ⟨hne', h2⟩
      · rfl
      · rw [List.getElem?_set_self hi] at q1
        rw [sg k hne'] at q2
        cases q1
        exact (hs k y h2 q2).elim
    · rcases at_ k _ h2 with ⟨rfl, ex', hi'⟩ | ⟨hne', h2⟩
      · rw [List.getElem?_set_self hi'] at q2
        rw [sg j hne] at q1
        cases q2
        rw [List.getElem?_set_ne fun z => hne z.symm] at h1
        exact (hs j x h1 q1).elim
      · rw [sg j hne] at q1; rw [sg k hne'] at q2
        exact S.sep j k x y b h1 h2 q1 q2
end

/-! one expression's way: what is private (tracked, neither frozen nor in a slot nor shared) stays -/
def InSl (e : Ev) (σ : L2.St) (a : Addr) : Prop := ∃ (i : Nat) (d : D), e[i]? = some (.ow d) ∧ σ[i]? = some (some (.ref a))
structure Stp {Th : Type} (B : Bs Th) (σ : L2.St) (F : Hp) (t : Th) (e : Ev) (H F' : Hp) (t' : Th) (e' : Ev) (H' : Hp) : Prop where
  le : L2.Same F F'
  there : ∀ a o, H a = some o → ∃ o', H' a = some o'
  own : ∀ a, InSl e' σ a → InSl e σ a
  keep : ∀ a o, H a = some o → NT o → F a = none → a ∉ B.M.fp t → ¬ InSl e σ a → H' a = some o ∧ F' a = none ∧ a ∉ B.M.fp t'
/-- a result that the expression made, or took out of a slot -/
def NewR (σ : L2.St) (e : Ev) (H : Hp) : R → V → Prop
  | .sh _, _ => True
  | .ow _, v => ∀ a, v = .ref a → H a = none ∨ InSl e σ a
section
variable {Th : Type} {B : Bs Th} {F F1 F2 H H1 H2 : Hp} {t t1 t2 : Th} {e e1 e2 : Ev} {σ : L2.St}
theorem Stp.refl : Stp B σ F t e H F t e H := ⟨L2.Same.refl F, fun _ o h => ⟨o, h⟩, fun _ h => h, fun _ _ a _ b c d => ⟨a, b, c⟩⟩
theorem Stp.trans (x : Stp B σ F t e H F1 t1 e1 H1) (y : Stp B σ F1 t1 e1 H1 F2 t2 e2 H2) : Stp B σ F t e H F2 t2 e2 H2 :=
  ⟨x.le.trans y.le, fun a o h => by
    obtain ⟨o', h'⟩ := x.there a o h
    exact y.there a o' h', fun a h => x.own a (y.own a h), fun a o h1 nt h2 h3 h4 => by
    obtain ⟨k1, k2, k3⟩ := x.keep a o h1 nt h2 h3 h4
    exact y.keep a o k1 nt k2 k3 fun z => h4 (x.own a z)⟩
theorem Stp.after (a : After B.M F t H F1 t1 H1) : Stp B σ F t e H F1 t1 e H1 := ⟨a.le, fun c o h => let ⟨o', h', _⟩ := a.there c o h; ⟨o', h'⟩, fun _ h => h, fun c o h1 nt h2 h3 h4 => ⟨a.same c o h3 h1, a.new c o h1 nt h2, fun hm => by
    rcases (a.fpn c hm).2.2 with q | q
    · exact h3 q
    · rw [q] at h1; cases h1⟩⟩
/-- objects are only added -/
theorem Stp.grow (le : L2.Same F F1) (same : L2.Same H H1) (new : ∀ c o, H c = some o → NT o → F c = none → F1 c = none) : Stp B σ F t e H F1 t e H1 :=
  ⟨le, fun a o h => ⟨o, same a o h⟩, fun _ h => h, fun c o h1 nt h2 h3 h4 => ⟨same c o h1, new c o h1 nt h2, h3⟩⟩
theorem Stp.fresh {p : Addr} {o : HO} (hp : H p = none) (hF : F p = none) : Stp B σ F t e H (upd F p o) t e (upd H p o) :=
  .grow (same_upd hF) (same_upd hp) fun c x q _ n => by rw [upd_ne (ne_of_none q hp)]; exact n
theorem Stp.loose {p : Addr} {o : HO} (hp : H p = none) : Stp B σ F t e H F t e (upd H p o) := .grow (L2.Same.refl F) (same_upd hp) fun _ _ _ _ n => n
/-- at an address that was new, or in a slot, anything may change -/
theorem Stp.at_ {a : Addr} (x : Stp B σ F t e H F1 t1 e1 H1) (n : H a = none ∨ InSl e σ a) (hH : ∀ b, b ≠ a → H2 b = H1 b) (hF : ∀ b, b ≠ a → F2 b = F1 b) (hFa : F1 a = none) (ht : ∃ o, H2 a = some o) (hs : ∀ c, InSl e2 σ c → InSl e1 σ c) : Stp B σ F t e H F2 t1 e2 H2 := by
  refine ⟨x.le.trans fun b o q => ?_, fun c o h => ?_, fun c h => x.own c (hs c h), fun c o h1 nt h2 h3 h4 => ?_⟩
  · have hb : b ≠ a := fun z => by rw [z, hFa] at q; cases q
    rw [hF b hb]; exact q
  · by_cases hc : c = a
    · subst hc; exact ht
    · rw [hH c hc]; exact x.there c o h
  · have hc : c ≠ a := fun z => by
      subst z
      rcases n with n | n
      · rw [n] at h1; cases h1
      · exact h4 n
    rw [hH c hc, hF c hc]
    exact x.keep c o h1 nt h2 h3 h4
theorem RepR.step {r : R} {v : V} (x : Stp B σ F t e H F1 t1 e1 H1) (h : RepR B F t e σ H r v) : RepR B F1 t1 e1 σ H1 r v := by
  cases r with
  | sh d => exact Rep.mono x.le h
  | ow d =>
    obtain ⟨a, ea, o, h0, hf, hs⟩ := h
    obtain ⟨ob, eb, nb⟩ := o.someN
    have hn : ¬ InSl e σ a := fun ⟨i, d', q1, q2⟩ => hs i d' q1 q2
    obtain ⟨k1, k2, k3⟩ := x.keep a ob eb nb o.1 hf hn
    exact ⟨a, ea, o.mono x.le (k1.trans eb.symm) k2, h0, k3, fun i d' q1 q2 => hn (x.own a ⟨i, d', q1, q2⟩)⟩
theorem NewR.from {r : R} {v : V} (x : Stp B σ F t e H F1 t1 e1 H1) (h : NewR σ e1 H1 r v) : NewR σ e H r v := by
  cases r with
  | sh d => trivial
  | ow d =>
    intro a ea
    rcases h a ea with q | q
    · left
      cases z : H a with
      | none => rfl
      | some o =>
        obtain ⟨o', z'⟩ := x.there a o z
        rw [q] at z'; cases z'
    · exact .inr (x.own a q)
theorem Stp.old (x : Stp B σ F t e H F1 t1 e1 H1) {p : Addr} (hp : H1 p = none) : H p = none := by
  cases z : H p with
  | none => rfl
  | some o =>
    obtain ⟨o', z'⟩ := x.there p o z
    rw [hp] at z'; cases z'
theorem newR_none {r : R} {p : Addr} (hp : H p = none) : NewR σ e H r (.ref p) := by
  cases r with
  | sh d => trivial
  | ow d => exact fun a ea => by cases ea; exact .inl hp
theorem NewR.sl {r : R} {v : V} (h : NewR σ e1 H r v) (hs : ∀ c, InSl e1 σ c → InSl e σ c) : NewR σ e H r v := by
  cases r with
  | sh d => trivial
  | ow d => exact fun a ea => (h a ea).imp id (hs a)
/-- a tuple that stands anyway is frozen -/
theorem SR.seeTup (S : SR B F t e σ H) {q : Addr} {vs : List V} (hq : H q = some (.tup vs)) : ∃ F', SR B F' t e σ H ∧ Stp B σ F t e H F' t e H ∧ F' q = some (.tup vs) := by
  cases h : F q with
  | some o =>
    have := S.sub q o h
    rw [hq] at this; cases this
    exact ⟨F, S, .refl, h⟩
  | none =>
    have new : ∀ c o, H c = some o → NT o → F c = none → upd F q (.tup vs) c = none := fun c o h1 nt h2 => by
      have : c ≠ q := fun z => by subst z; rw [hq] at h1; cases h1; exact nt _ rfl
      rw [upd_ne this]; exact h2
    refine ⟨upd F q (.tup vs), S.grow (same_upd h) (fun b x z => ?_) new (L2.Same.refl H), .grow (same_upd h) (L2.Same.refl H) new, upd_same⟩
    by_cases hb : b = q
    · subst hb; rw [upd_same] at z; cases z; exact hq
    · rw [upd_ne hb] at z; exact S.sub b x z
end
end VL

set_option Elab.async false
set_option linter.all false
set_option maxRecDepth 100000
set_option maxHeartbeats 1000000
namespace VL
open PySem PySem.Spec PyProof.Rows L2

abbrev KD (Th : Type) := D → Ev → Th → Prop
abbrev KX (Th : Type) := Xn → Ev → Th → Prop
abbrev WE (Th : Type) := Ev → Th → KD Th → KX Th → Prop
abbrev WR (Th : Type) := Ev → Th → (R → Ev → Th → Prop) → KX Th → Prop
abbrev WT (Th : Type) := Ev → Th → (Bool → Ev → Th → Prop) → KX Th → Prop
abbrev WA (Th : Type) := Ev → Th → (List D → Ev → Th → Prop) → KX Th → Prop
abbrev WG (Th : Type) := D → Ev → Th → (Ev → Th → Prop) → Prop
structure En (Th : Type) where
  nx : Ev → Th → Prop
  rt : R → Th → Prop
  bk : Ev → Th → Prop
  ct : Ev → Th → Prop
  ex : KX Th
abbrev WS (Th : Type) := En Th → Ev → Th → Prop

def EOK {Th : Type} (B : Bs Th) (W : WX) (σ : L2.St) (Ed : KX Th) : Prop :=
  ∀ x F t e H cls d, SR B F t e σ H → RepX B.K F x cls d → Ed x e t → W cls d σ H

def liftE {Th : Type} (B : Bs Th) (W : WX) (w : WE Th) : TE := fun σ H Q => ∃ (F : Hp) (t : Th) (e : Ev) (Qd : KD Th) (Ed : KX Th), SR B F t e σ H ∧ EOK B W σ Ed ∧ w e t Qd Ed ∧
  ∀ v H' F' t' e' d, SR B F' t' e' σ H' → Stp B σ F t e H F' t' e' H' → Rep B.K F' d v → Qd d e' t' → Q v H'
def liftR {Th : Type} (B : Bs Th) (W : WX) (w : WR Th) : TE := fun σ H Q => ∃ (F : Hp) (t : Th) (e : Ev) (Qd : R → Ev → Th → Prop) (Ed : KX Th), SR B F t e σ H ∧ EOK B W σ Ed ∧ w e t Qd Ed ∧
  ∀ v H' F' t' e' r, SR B F' t' e' σ H' → Stp B σ F t e H F' t' e' H' → RepR B F' t' e' σ H' r v → NewR σ e H r v → Qd r e' t' → Q v H'
def liftT {Th : Type} (B : Bs Th) (W : WX) (w : WT Th) : TT := fun σ H Q => ∃ (F : Hp) (t : Th) (e : Ev) (Qd : Bool → Ev → Th → Prop) (Ed : KX Th), SR B F t e σ H ∧ EOK B W σ Ed ∧ w e t Qd Ed ∧
  ∀ b H' F' t' e', SR B F' t' e' σ H' → Stp B σ F t e H F' t' e' H' → Qd b e' t' → Q b H'
def liftA {Th : Type} (B : Bs Th) (W : WX) (w : WA Th) : TA := fun σ H Q => ∃ (F : Hp) (t : Th) (e : Ev) (Qd : List D → Ev → Th → Prop) (Ed : KX Th), SR B F t e σ H ∧ EOK B W σ Ed ∧ w e t Qd Ed ∧
  ∀ vs H' F' t' e' ds, SR B F' t' e' σ H' → Stp B σ F t e H F' t' e' H' → RepL B.K F' ds vs → Qd ds e' t' → Q vs H'
def liftG {Th : Type} (B : Bs Th) (g : WG Th) : TG := fun v σ H Q => ∃ (F : Hp) (t : Th) (e : Ev) (d : D) (Qd : Ev → Th → Prop), SR B F t e σ H ∧ Rep B.K F d v ∧ g d e t Qd ∧
  ∀ σ' H' F' t' e', SR B F' t' e' σ' H' → L2.Same F F' → Qd e' t' → Q σ' H'
/-- what a return hands on -/
def RetR {Th : Type} (B : Bs Th) (F : Hp) (t : Th) (H : Hp) : R → V → Prop
  | .sh d, v => Rep B.K F d v
  | .ow d, v => ∃ a, v = .ref a ∧ Own B.K F H a d ∧ B.H0 a = none ∧ a ∉ B.M.fp t
def liftS {Th : Type} (B : Bs Th) (W : WX) (w : WS Th) : TS := fun Dn σ H => ∃ (F : Hp) (t : Th) (e : Ev) (n : En Th), SR B F t e σ H ∧ (∀ σ', EOK B W σ' n.ex) ∧ w n e t ∧
  (∀ σ' H' F' t' e', SR B F' t' e' σ' H' → L2.Same F F' → n.nx e' t' → Dn.nx σ' H') ∧
  (∀ v H' F' t' r, After B.M B.F0 B.t0 B.H0 F' t' H' → L2.Same F F' → RetR B F' t' H' r v → n.rt r t' → Dn.rt v H') ∧
  (∀ σ' H' F' t' e', SR B F' t' e' σ' H' → L2.Same F F' → n.bk e' t' → Dn.bk σ' H') ∧
  (∀ σ' H' F' t' e', SR B F' t' e' σ' H' → L2.Same F F' → n.ct e' t' → Dn.ct σ' H')

section
variable {X : Cx} {e : Expr} {es : List Expr} {st : Stmt} {sts : List Stmt}
theorem weakE {t t' : TE} (h : PE X e t) (hw : ∀ σ H Q, t' σ H Q → t σ H Q) : PE X e t' := ⟨fun pins s σ H Q I q => h.run pins s σ H Q I (hw σ H Q q)⟩
theorem weakT {t t' : TT} (h : PT X e t) (hw : ∀ σ H Q, t' σ H Q → t σ H Q) : PT X e t' := ⟨fun pins s σ H Q I q => h.run pins s σ H Q I (hw σ H Q q)⟩
theorem weakW {t t' : TT} (h : PW X e t) (hw : ∀ σ H Q, t' σ H Q → t σ H Q) : PW X e t' := ⟨fun wh pins s σ H Q I q => h.run wh pins s σ H Q I (hw σ H Q q)⟩
theorem weakA {t t' : TA} (h : PA X es t) (hw : ∀ σ H Q, t' σ H Q → t σ H Q) : PA X es t' := ⟨fun pos pins s σ H Q I q => h.run pos pins s σ H Q I (hw σ H Q q)⟩
theorem weakS {t t' : TS} (h : PS X st t) (hw : ∀ n σ H, t' n σ H → t n σ H) : PS X st t' := ⟨fun pins s σ H n I q => h.run pins s σ H n I (hw n σ H q)⟩
theorem weakSs {t t' : TS} (h : PSs X sts t) (hw : ∀ n σ H, t' n σ H → t n σ H) : PSs X sts t' := ⟨fun pins s σ H n I q => h.run pins s σ H n I (hw n σ H q)⟩
theorem weakG {t t' : TG} (h : PG X e t) (hw : ∀ v σ H Q, t' v σ H Q → t v σ H Q) : PG X e t' := ⟨fun pins s σ H v u Q I r q => h.run pins s σ H v u Q I r (hw v σ H Q q)⟩
theorem weakGs {t t' : TGs} (h : PGs X es t) (hw : ∀ v σ H Q, t' v σ H Q → t v σ H Q) : PGs X es t' := ⟨fun pins s σ H v u Q I r q => h.run pins s σ H v u Q I r (hw v σ H Q q)⟩

/-- a thing is locked for good: nobody writes it any more -/
def Gh (Q : VK) : VK := fun v H => Q v H ∨ ∃ d u, H d = some u ∧ Mut (some u) ∧ ∀ od, Q v (upd H d (.frz od u))
theorem ghost {t : TE} (h : PE X e t) : PE X e (fun σ H Q => t σ H (Gh Q)) := by
  refine ⟨fun pins s σ H Q I q => thn (h.run pins s σ H _ I q) fun v s1 ⟨x, H1, I1, r, z⟩ => ?_⟩
  rcases z with z | ⟨d, u, hd, mu, z⟩
  · exact ⟨x, H1, I1, r, z⟩
  · obtain ⟨od, I2⟩ := I1.lock hd mu
    exact ⟨x, _, I2, r, z od⟩
end

section
variable {Th : Type} {B : Bs Th} {W : WX} {F H : Hp} {t : Th} {e : Ev} {σ : L2.St}
/-- what is owned is frozen -/
theorem SR.freeze {Q : VK} {d : D} {v : V} {F1 H1 : Hp} {t1 : Th} {e1 : Ev} (S : SR B F1 t1 e1 σ H1) (r : RepR B F1 t1 e1 σ H1 (.ow d) v) (x : Stp B σ F t e H F1 t1 e1 H1) (n : NewR σ e H (.ow d) v)
    (h : ∀ F' H', SR B F' t1 e1 σ H' → Stp B σ F t e H F' t1 e1 H' → Rep B.K F' d v → Q v H') : Gh Q v H1 := by
  obtain ⟨a, rfl, ⟨hF, o⟩, h0, hf, hs⟩ := r
  have na := n a rfl
  have le : ∀ u, L2.Same F1 (upd F1 a u) := fun u => same_upd hF
  cases d with
  | lst l =>
    obtain ⟨vs, e1', r1⟩ := o
    refine .inl (h (upd F1 a (.lst vs)) H1 ?_ ?_ ?_)
    · exact S.write h0 hf hF (fun _ _ => rfl) (fun b hb => upd_ne hb) (fun u q => by rw [upd_same] at q; cases q; exact e1') ⟨_, e1'⟩ hs
    · exact x.at_ na (fun _ _ => rfl) (fun b hb => upd_ne hb) hF ⟨_, e1'⟩ fun _ z => z
    · unfold Rep
      exact ⟨a, vs, rfl, upd_same, r1.mono (le _)⟩
  | ins C fs =>
    obtain ⟨⟨dx, gs⟩, e1', r1⟩ := o
    refine .inl (h (upd F1 a (.ins C dx gs)) H1 ?_ ?_ ?_)
    · exact S.write h0 hf hF (fun _ _ => rfl) (fun b hb => upd_ne hb) (fun u q => by rw [upd_same] at q; cases q; exact e1') ⟨_, e1'⟩ hs
    · exact x.at_ na (fun _ _ => rfl) (fun b hb => upd_ne hb) hF ⟨_, e1'⟩ fun _ z => z
    · unfold Rep
      exact ⟨a, dx, gs, rfl, upd_same, r1.mono (le _)⟩
  | dk l =>
    obtain ⟨vs, e1', r1⟩ := o
    refine .inr ⟨a, _, e1', trivial, fun od => h (upd F1 a (.frz od (.dK vs))) _ ?_ ?_ ?_⟩
    · exact S.write h0 hf hF (fun b hb => upd_ne hb) (fun b hb => upd_ne hb) (fun u q => by rw [upd_same] at q ⊢; exact q) ⟨_, upd_same⟩ hs
    · exact x.at_ na (fun b hb => upd_ne hb) (fun b hb => upd_ne hb) hF ⟨_, upd_same⟩ fun _ z => z
    · unfold Rep
      exact ⟨a, od, vs, rfl, upd_same, r1.mono (le _)⟩
  | dt l =>
    obtain ⟨vs, e1', r1⟩ := o
    refine .inr ⟨a, _, e1', trivial, fun od => h (upd F1 a (.frz od (.dT vs))) _ ?_ ?_ ?_⟩
    · exact S.write h0 hf hF (fun b hb => upd_ne hb) (fun b hb => upd_ne hb) (fun u q => by rw [upd_same] at q ⊢; exact q) ⟨_, upd_same⟩ hs
    · exact x.at_ na (fun b hb => upd_ne hb) (fun b hb => upd_ne hb) hF ⟨_, upd_same⟩ fun _ z => z
    · unfold Rep
      exact ⟨a, od, vs, rfl, upd_same, r1.mono (le _)⟩
  | _ => exact o.elim

variable {X : Cx} {ex : Expr}
def wFz (w : WR Th) : WE Th := fun e t Q E => w e t (fun r => Q r.d) E
def wSh (w : WE Th) : WR Th := fun e t Q E => w e t (fun d => Q (.sh d)) E
theorem de_fz {w : WR Th} (h : PE X ex (liftR B W w)) : PE X ex (liftE B W (wFz w)) := by
  refine weakE (ghost h) ?_
  rintro σ H Q ⟨F, t, e, Qd, Ed, S, eo, hw, hq⟩
  refine ⟨F, t, e, _, Ed, S, eo, hw, fun v H1 F1 t1 e1 r S1 L1 r1 n1 q1 => ?_⟩
  cases r with
  | sh d => exact .inl (hq v H1 F1 t1 e1 d S1 L1 r1 q1)
  | ow d => exact S1.freeze r1 L1 n1 fun F' H' S' L' r' => hq v H' F' t1 e1 d S' L' r' q1
theorem dr_sh {w : WE Th} (h : PE X ex (liftE B W w)) : PE X ex (liftR B W (wSh w)) := by
  refine weakE h ?_
  rintro σ H Q ⟨F, t, e, Qd, Ed, S, eo, hw, hq⟩
  exact ⟨F, t, e, _, Ed, S, eo, hw, fun v H1 F1 t1 e1 d S1 L1 r1 q1 => hq v H1 F1 t1 e1 (.sh d) S1 L1 r1 trivial q1⟩
end

/-! names, constants -/
section
variable {Th : Type} {B : Bs Th} {W : WX} {X : Cx} {pos : Pos}
def wVar (i : Nat) : WE Th := fun e t Q _ => match e[i]? with
  | some (.sh d) => Q d e t
  | some (.ow d) => Q d (e.set i (.sh d)) t
  | _ => False
theorem inSl_set {e : Ev} {σ : L2.St} {i : Nat} {x : Sl} {a : Addr} (hx : ∀ d, x ≠ .ow d) (h : InSl (e.set i x) σ a) : InSl e σ a := by
  obtain ⟨j, d, h1, h2⟩ := h
  rw [List.getElem?_set] at h1
  by_cases hij : i = j
  · subst hij
    rw [if_pos rfl] at h1
    split at h1
    · cases h1; exact (hx _ rfl).elim
    · cases h1
  · rw [if_neg hij] at h1
    exact ⟨j, d, h1, h2⟩
theorem SR.owned {F H : Hp} {t : Th} {e : Ev} {σ : L2.St} (S : SR B F t e σ H) {i : Nat} {d : D} (h : e[i]? = some (.ow d)) : ∃ a, σ[i]? = some (some (.ref a)) ∧ SR B F t (e.set i .un) σ H ∧ RepR B F t (e.set i .un) σ H (.ow d) (.ref a) ∧ InSl e σ a := by
  obtain ⟨a, e1, o, n, hf⟩ := S.ow i d h
  refine ⟨a, e1, S.slot i, ⟨a, rfl, o, n, hf, fun j d' hj q => ?_⟩, i, d, h, e1⟩
  rw [List.getElem?_set] at hj
  by_cases hij : i = j
  · subst hij
    rw [if_pos rfl] at hj
    split at hj <;> cases hj
  · rw [if_neg hij] at hj
    exact hij (S.sep i j d d' a h hj e1 q)
theorem set_same {σ : L2.St} {i : Nat} {x : Option V} (hv : σ[i]? = some x) : σ.set i x = σ := by
  have e2 : σ[i]'((List.getElem?_eq_some_iff.mp hv).1) = x := (List.getElem?_eq_some_iff.mp hv).2
  rw [← e2, List.set_getElem_self]
/-- a slot that was forgotten is told again -/
theorem SR.tell {F H : Hp} {t : Th} {e : Ev} {σ : L2.St} {i : Nat} (S : SR B F t (e.set i .un) σ H) {d : D} {v : V} (hv : σ[i]? = some (some v)) (r : Rep B.K F d v) : SR B F t (e.set i (.sh d)) σ H := by
  have q := S.setSh r i
  rw [List.set_set, set_same hv] at q
  exact q
theorem de_var (i : Nat) {x : Str} (hN : X.N[i]? = some x := by rfl) (hv : Vis X.env.scope x := by first | exact Or.inl rfl | exact Or.inr (Or.inl rfl) | exact Or.inr (Or.inr rfl)) (hd : (x == ("__debug__" : Str)) = false := by decide)
    (hcd : (x == ("__classdict__" : Str)) = false := by decide) : PE X (.Name x pos) (liftE B W (wVar i)) := by
  refine weakE (ghost (pe_var hN hv hd hcd)) ?_
  rintro σ H Q ⟨F, t, e, Qd, Ed, S, eo, hw, hq⟩
  unfold wVar at hw
  split at hw
  · rename_i d h
    obtain ⟨v, e1, r⟩ := S.sh i d h
    exact ⟨v, e1, .inl (hq v H F t e d S .refl r hw)⟩
  · rename_i d h
    obtain ⟨a, e1, S', r, m⟩ := S.owned h
    have st : Stp B σ F t e H F t (e.set i .un) H := ⟨L2.Same.refl F, fun _ o q => ⟨o, q⟩, fun c q => inSl_set (x := .un) (fun _ z => by cases z) q, fun _ _ h1 _ h2 h3 _ => ⟨h1, h2, h3⟩⟩
    refine ⟨.ref a, e1, S'.freeze r st (fun b eb => .inr (by cases eb; exact m)) fun F' H' S'' L' r' => hq _ H' F' t _ d (S''.tell e1 r') ?_ r' hw⟩
    exact L'.trans ⟨L2.Same.refl _, fun _ o q => ⟨o, q⟩, fun c q => by
      have q' : InSl ((e.set i .un).set i (.sh d)) σ c := by rw [List.set_set]; exact q
      have q' := inSl_set (x := .sh d) (fun _ z => by cases z) q'
      exact q', fun _ _ h1 _ h2 h3 _ => ⟨h1, h2, h3⟩⟩
  · exact hw.elim
def wC (d : D) : WE Th := fun e t Q _ => Q d e t
theorem de_int {i : Int} {j : Nat} : PE X (.Constant (.int i) j pos) (liftE B W (wC (.int i))) := weakE pe_int (by
  rintro σ H Q ⟨F, t, e, Qd, Ed, S, eo, hw, hq⟩
  exact hq _ H F t e _ S .refl (by unfold Rep; rfl) hw)
theorem de_bl {b : Bool} {j : Nat} : PE X (.Constant (.bool b) j pos) (liftE B W (wC (.bl b))) := weakE pe_bl (by
  rintro σ H Q ⟨F, t, e, Qd, Ed, S, eo, hw, hq⟩
  exact hq _ H F t e _ S .refl (by unfold Rep; rfl) hw)
theorem de_non {j : Nat} : PE X (.Constant .none j pos) (liftE B W (wC .non)) := weakE pe_non (by
  rintro σ H Q ⟨F, t, e, Qd, Ed, S, eo, hw, hq⟩
  exact hq _ H F t e _ S .refl (by unfold Rep; rfl) hw)
theorem de_str {x : Str} {j : Nat} : PE X (.Constant (.str x) j pos) (liftE B W (wC (.str x))) := weakE pe_str (by
  rintro σ H Q ⟨F, t, e, Qd, Ed, S, eo, hw, hq⟩
  exact hq _ H F t e _ S .refl (by unfold Rep; rfl) hw)
/-- a constant of the module -/
theorem de_glob {x : Str} {d : D} {v : V} {u : Value} (hg : Gl X x) (hm : X.mg x = some u) (r : RelV v u) (hr : ∀ F, Rep B.K F d v) (hd : (x == ("__debug__" : Str)) = false := by decide) : PE X (.Name x pos) (liftE B W (wC d)) := weakE (pe_glob hg hm r hd) (by
  rintro σ H Q ⟨F, t, e, Qd, Ed, S, eo, hw, hq⟩
  exact hq _ H F t e _ S .refl (hr F) hw)

/-! operators on frozen operands that make nothing -/
def ob (o : Option D) (k : D → Prop) : Prop := match o with
  | some d => k d
  | none => False
def wOp (g : D → D → Option D) (wa wb : WE Th) : WE Th := fun e t Q E => wa e t (fun a e1 t1 => wb e1 t1 (fun b e2 t2 => ob (g a b) fun d => Q d e2 t2) E) E
def wUn (g : D → Option D) (wa : WE Th) : WE Th := fun e t Q E => wa e t (fun a e1 t1 => ob (g a) fun d => Q d e1 t1) E
theorem ob_some {o : Option D} {k : D → Prop} (h : ob o k) : ∃ d, o = some d ∧ k d := by
  unfold ob at h
  split at h
  · exact ⟨_, rfl, h⟩
  · exact h.elim
/-- the operator's rule serves the function g -/
def Op2 (K : PySem.W.Frag) (r : R2) (g : D → D → Option D) : Prop := ∀ (F H : Hp) (x y : V) (a b d : D) (Q : VK), L2.Same F H → Rep K F a x → Rep K F b y → g a b = some d → (∀ v, Rep K F d v → Q v H) → r x y H Q
def Op1 (K : PySem.W.Frag) (r : V → Hp → VK → Prop) (g : D → Option D) : Prop := ∀ (F H : Hp) (x : V) (a d : D) (Q : VK), L2.Same F H → Rep K F a x → g a = some d → (∀ v, Rep K F d v → Q v H) → r x H Q
variable {a b : Expr} {wa wb : WE Th}
theorem lift2 {r : R2} {g : D → D → Option D} (hg : Op2 B.K r g) : ∀ (σ : L2.St) (H : Hp) (Q : VK), liftE B W (wOp g wa wb) σ H Q → tOp r (liftE B W wa) (liftE B W wb) σ H Q := by
  rintro σ H Q ⟨F, t, e, Qd, Ed, S, eo, hw, hq⟩
  refine ⟨F, t, e, _, Ed, S, eo, hw, fun x H1 F1 t1 e1 dx S1 L1 r1 q1 => ?_⟩
  refine ⟨F1, t1, e1, _, Ed, S1, eo, q1, fun y H2 F2 t2 e2 dy S2 L2 r2 q2 => ?_⟩
  obtain ⟨d, e3, q3⟩ := ob_some q2
  exact hg F2 H2 x y dx dy d Q S2.sub (r1.mono L2.le) r2 e3 fun v rv => hq v H2 F2 t2 e2 d S2 (L1.trans L2) rv q3
theorem de_op {op : Operator} {r : R2} {g : D → D → Option D} (ho : OpR X (binaryOp op) r) (hg : Op2 B.K r g) (ha : PE X a (liftE B W wa)) (hb : PE X b (liftE B W wb)) : PE X (.BinOp a op b pos) (liftE B W (wOp g wa wb)) :=
  weakE (pe_op ho ha hb) (lift2 hg)
theorem de_cmp {op : CmpOp} {r : R2} {g : D → D → Option D} (ho : OpR X (compareOp op) r) (hg : Op2 B.K r g) (ha : PE X a (liftE B W wa)) (hb : PE X b (liftE B W wb)) (hm : behindInMarks op b = false := by first | exact nomark _ | rfl) :
    PE X (.Compare a [op] [b] pos) (liftE B W (wOp g wa wb)) := weakE (pe_cmpR ho ha hb hm) (lift2 hg)
/-- a comparison as a test: the answer is a bool -/
def wOpT (g : D → D → Option D) (wa wb : WE Th) : WT Th := fun e t Q E => wa e t (fun a e1 t1 => wb e1 t1 (fun b e2 t2 => ob (g a b) fun d => match d with | .bl k => Q k e2 t2 | _ => False) E) E
theorem dt_cmp {op : CmpOp} {r : R2} {g : D → D → Option D} (ho : OpR X (compareOp op) r) (hg : Op2 B.K r g) (ha : PE X a (liftE B W wa)) (hb : PE X b (liftE B W wb)) (hm : behindInMarks op b = false := by first | exact nomark _ | rfl) :
    PT X (.Compare a [op] [b] pos) (liftT B W (wOpT g wa wb)) := weakT (pt_cmpR ho ha hb hm) (by
  rintro σ H Q ⟨F, t, e, Qd, Ed, S, eo, hw, hq⟩
  refine ⟨F, t, e, _, Ed, S, eo, hw, fun x H1 F1 t1 e1 dx S1 L1 r1 q1 => ?_⟩
  refine ⟨F1, t1, e1, _, Ed, S1, eo, q1, fun y H2 F2 t2 e2 dy S2 L2 r2 q2 => ?_⟩
  obtain ⟨d, e3, q3⟩ := ob_some q2
  refine hg F2 H2 x y dx dy d _ S2.sub (r1.mono L2.le) r2 e3 fun v rv => ?_
  cases d with
  | bl k =>
    unfold Rep at rv
    exact ⟨k, rv, hq k H2 F2 t2 e2 S2 (L1.trans L2) q3⟩
  | _ => exact q3.elim)
theorem de_un {op : UnaryOp} {r : V → Hp → VK → Prop} {g : D → Option D} (ho : UnR X (unaryOp op) r) (hg : Op1 B.K r g) (ha : PE X a (liftE B W wa)) : PE X (.UnaryOp op a pos) (liftE B W (wUn g wa)) :=
  weakE (pe_un ho ha) (by
    rintro σ H Q ⟨F, t, e, Qd, Ed, S, eo, hw, hq⟩
    refine ⟨F, t, e, _, Ed, S, eo, hw, fun x H1 F1 t1 e1 dx S1 L1 r1 q1 => ?_⟩
    obtain ⟨d, e3, q3⟩ := ob_some q1
    exact hg F1 H1 x dx d Q S1.sub r1 e3 fun v rv => hq v H1 F1 t1 e1 d S1 L1 rv q3)

/-! tests -/
def wTst (wa : WE Th) : WT Th := fun e t Q E => wa e t (fun a e1 t1 => match a with | .bl k => Q k e1 t1 | _ => False) E
/-- an expression whose value is a bool, as a test -/
theorem dt_val (ha : PE X a (liftE B W wa)) (he : ∀ whole, isTrue a X.env whole = (do let v ← whole; standAt a.pos; holding [v] (truthy v)) := by intro _; rfl) : PT X a (liftT B W (wTst wa)) := weakT (pt_val ha he) (by
  rintro σ H Q ⟨F, t, e, Qd, Ed, S, eo, hw, hq⟩
  refine ⟨F, t, e, _, Ed, S, eo, hw, fun x H1 F1 t1 e1 dx S1 L1 r1 q1 => ?_⟩
  cases dx with
  | bl k =>
    unfold Rep at r1
    exact ⟨k, r1, hq k H1 F1 t1 e1 S1 L1 q1⟩
  | _ => exact q1.elim)
variable {tA tB : WT Th} {rest : List Expr}
def wAnd (ta tb : WT Th) : WT Th := fun e t Q E => ta e t (fun c e1 t1 => if c = true then tb e1 t1 Q E else Q false e1 t1) E
def wOr (ta tb : WT Th) : WT Th := fun e t Q E => ta e t (fun c e1 t1 => if c = true then Q true e1 t1 else tb e1 t1 Q E) E
def wNot (ta : WT Th) : WT Th := fun e t Q E => ta e t (fun c e1 t1 => Q (!c) e1 t1) E
theorem dw_and (ha : PT X a (liftT B W tA)) (hb : PW X (.BoolOp .And (b :: rest) pos) (liftT B W tB)) : PW X (.BoolOp .And (a :: b :: rest) pos) (liftT B W (wAnd tA tB)) := weakW (pw_and ha hb) (by
  rintro σ H Q ⟨F, t, e, Qd, Ed, S, eo, hw, hq⟩
  refine ⟨F, t, e, _, Ed, S, eo, hw, fun c H1 F1 t1 e1 S1 L1 q1 => ?_⟩
  cases c with
  | true => exact ⟨F1, t1, e1, Qd, Ed, S1, eo, by simpa using q1, fun b H2 F2 t2 e2 S2 L2 q2 => hq b H2 F2 t2 e2 S2 (L1.trans L2) q2⟩
  | false => exact hq false H1 F1 t1 e1 S1 L1 (by simpa using q1))
theorem dw_or (ha : PT X a (liftT B W tA)) (hb : PW X (.BoolOp .Or (b :: rest) pos) (liftT B W tB)) : PW X (.BoolOp .Or (a :: b :: rest) pos) (liftT B W (wOr tA tB)) := weakW (pw_or ha hb) (by
  rintro σ H Q ⟨F, t, e, Qd, Ed, S, eo, hw, hq⟩
  refine ⟨F, t, e, _, Ed, S, eo, hw, fun c H1 F1 t1 e1 S1 L1 q1 => ?_⟩
  cases c with
  | false => exact ⟨F1, t1, e1, Qd, Ed, S1, eo, by simpa using q1, fun b H2 F2 t2 e2 S2 L2 q2 => hq b H2 F2 t2 e2 S2 (L1.trans L2) q2⟩
  | true => exact hq true H1 F1 t1 e1 S1 L1 (by simpa using q1))
theorem dt_not (ha : PT X a (liftT B W tA)) : PT X (.UnaryOp .Not a pos) (liftT B W (wNot tA)) := weakT (pt_not ha) (by
  rintro σ H Q ⟨F, t, e, Qd, Ed, S, eo, hw, hq⟩
  exact ⟨F, t, e, _, Ed, S, eo, hw, fun c H1 F1 t1 e1 S1 L1 q1 => hq (!c) H1 F1 t1 e1 S1 L1 q1⟩)
/-- and, or, not as values -/
def wBl (ta : WT Th) : WE Th := fun e t Q E => ta e t (fun c e1 t1 => Q (.bl c) e1 t1) E
def wAndV (wa wb : WE Th) : WE Th := fun e t Q E => wa e t (fun a e1 t1 => match a with | .bl true => wb e1 t1 Q E | .bl false => Q (.bl false) e1 t1 | _ => False) E
def wOrV (wa wb : WE Th) : WE Th := fun e t Q E => wa e t (fun a e1 t1 => match a with | .bl false => wb e1 t1 Q E | .bl true => Q (.bl true) e1 t1 | _ => False) E
theorem de_andV (ha : PE X a (liftE B W wa)) (hb : PE X (.BoolOp .And (b :: rest) pos) (liftE B W wb)) : PE X (.BoolOp .And (a :: b :: rest) pos) (liftE B W (wAndV wa wb)) := weakE (pe_and ha hb) (by
  rintro σ H Q ⟨F, t, e, Qd, Ed, S, eo, hw, hq⟩
  refine ⟨F, t, e, _, Ed, S, eo, hw, fun x H1 F1 t1 e1 dx S1 L1 r1 q1 => ?_⟩
  cases dx with
  | bl k =>
    refine ⟨k, by unfold Rep at r1; exact r1, ?_⟩
    cases k with
    | true => exact ⟨F1, t1, e1, Qd, Ed, S1, eo, q1, fun v H2 F2 t2 e2 d S2 L2 r2 q2 => hq v H2 F2 t2 e2 d S2 (L1.trans L2) r2 q2⟩
    | false => exact hq _ H1 F1 t1 e1 (.bl false) S1 L1 (by unfold Rep; rfl) q1
  | _ => exact q1.elim)
theorem de_orV (ha : PE X a (liftE B W wa)) (hb : PE X (.BoolOp .Or (b :: rest) pos) (liftE B W wb)) : PE X (.BoolOp .Or (a :: b :: rest) pos) (liftE B W (wOrV wa wb)) := weakE (pe_or ha hb) (by
  rintro σ H Q ⟨F, t, e, Qd, Ed, S, eo, hw, hq⟩
  refine ⟨F, t, e, _, Ed, S, eo, hw, fun x H1 F1 t1 e1 dx S1 L1 r1 q1 => ?_⟩
  cases dx with
  | bl k =>
    refine ⟨k, by unfold Rep at r1; exact r1, ?_⟩
    cases k with
    | false => exact ⟨F1, t1, e1, Qd, Ed, S1, eo, q1, fun v H2 F2 t2 e2 d S2 L2 r2 q2 => hq v H2 F2 t2 e2 d S2 (L1.trans L2) r2 q2⟩
    | true => exact hq _ H1 F1 t1 e1 (.bl true) S1 L1 (by unfold Rep; rfl) q1
  | _ => exact q1.elim)
def dNot : D → Option D
  | .bl k => some (.bl (!k))
  | _ => none
theorem de_notV (ha : PE X a (liftE B W wa)) : PE X (.UnaryOp .Not a pos) (liftE B W (wUn dNot wa)) := weakE (pe_not ha) (by
  rintro σ H Q ⟨F, t, e, Qd, Ed, S, eo, hw, hq⟩
  refine ⟨F, t, e, _, Ed, S, eo, hw, fun x H1 F1 t1 e1 dx S1 L1 r1 q1 => ?_⟩
  cases dx with
  | bl k => exact ⟨k, by unfold Rep at r1; exact r1, hq _ H1 F1 t1 e1 (.bl (!k)) S1 L1 (by unfold Rep; rfl) q1⟩
  | _ => exact q1.elim)
/-- a if t else b, results -/
def wIfE (tc : WT Th) (wa wb : WR Th) : WR Th := fun e t Q E => tc e t (fun c e1 t1 => if c = true then wa e1 t1 Q E else wb e1 t1 Q E) E
theorem dr_if {c : Expr} {tc : WT Th} {wa wb : WR Th} (hc : PT X c (liftT B W tc)) (ha : PE X a (liftR B W wa)) (hb : PE X b (liftR B W wb)) : PE X (.IfExp c a b pos) (liftR B W (wIfE tc wa wb)) := weakE (pe_ifExp hc ha hb) (by
  rintro σ H Q ⟨F, t, e, Qd, Ed, S, eo, hw, hq⟩
  refine ⟨F, t, e, _, Ed, S, eo, hw, fun c H1 F1 t1 e1 S1 L1 q1 => ?_⟩
  cases c with
  | true => exact ⟨F1, t1, e1, Qd, Ed, S1, eo, by simpa using q1, fun v H2 F2 t2 e2 r S2 L2 r2 n2 q2 => hq v H2 F2 t2 e2 r S2 (L1.trans L2) r2 (n2.from L1) q2⟩
  | false => exact ⟨F1, t1, e1, Qd, Ed, S1, eo, by simpa using q1, fun v H2 F2 t2 e2 r S2 L2 r2 n2 q2 => hq v H2 F2 t2 e2 r S2 (L1.trans L2) r2 (n2.from L1) q2⟩)
def wIfD (tc : WT Th) (wa wb : WE Th) : WE Th := fun e t Q E => tc e t (fun c e1 t1 => if c = true then wa e1 t1 Q E else wb e1 t1 Q E) E
theorem de_if {c : Expr} {tc : WT Th} (hc : PT X c (liftT B W tc)) (ha : PE X a (liftE B W wa)) (hb : PE X b (liftE B W wb)) : PE X (.IfExp c a b pos) (liftE B W (wIfD tc wa wb)) := weakE (pe_ifExp hc ha hb) (by
  rintro σ H Q ⟨F, t, e, Qd, Ed, S, eo, hw, hq⟩
  refine ⟨F, t, e, _, Ed, S, eo, hw, fun c H1 F1 t1 e1 S1 L1 q1 => ?_⟩
  cases c with
  | true => exact ⟨F1, t1, e1, Qd, Ed, S1, eo, by simpa using q1, fun v H2 F2 t2 e2 r S2 L2 r2 q2 => hq v H2 F2 t2 e2 r S2 (L1.trans L2) r2 q2⟩
  | false => exact ⟨F1, t1, e1, Qd, Ed, S1, eo, by simpa using q1, fun v H2 F2 t2 e2 r S2 L2 r2 q2 => hq v H2 F2 t2 e2 r S2 (L1.trans L2) r2 q2⟩)

/-! argument lists, tuples, lists -/
def wNil : WA Th := fun e t Q _ => Q [] e t
def wCons (wa : WE Th) (ws : WA Th) : WA Th := fun e t Q E => wa e t (fun a e1 t1 => ws e1 t1 (fun l e2 t2 => Q (a :: l) e2 t2) E) E
variable {es : List Expr} {ws : WA Th}
theorem da_nil : PA X [] (liftA B W wNil) := weakA pa_nil (by
  rintro σ H Q ⟨F, t, e, Qd, Ed, S, eo, hw, hq⟩
  exact hq [] H F t e [] S .refl .nil hw)
theorem da_cons (ha : PE X a (liftE B W wa)) (hr : PA X es (liftA B W ws)) (hs : starEach (a :: es) X.env = (false, eval a X.env) :: starEach es X.env := by rfl) : PA X (a :: es) (liftA B W (wCons wa ws)) := weakA (pa_cons ha hr hs) (by
  rintro σ H Q ⟨F, t, e, Qd, Ed, S, eo, hw, hq⟩
  refine ⟨F, t, e, _, Ed, S, eo, hw, fun x H1 F1 t1 e1 dx S1 L1 r1 q1 => ?_⟩
  exact ⟨F1, t1, e1, _, Ed, S1, eo, q1, fun vs H2 F2 t2 e2 ds S2 L2 r2 q2 => hq _ H2 F2 t2 e2 _ S2 (L1.trans L2) (.cons (r1.mono L2.le) r2) q2⟩)
def wTup (ws : WA Th) : WE Th := fun e t Q E => ws e t (fun l e1 t1 => l.length ≤ sizeLine ∧ Q (.tup l) e1 t1) E
def wLst (ws : WA Th) : WR Th := fun e t Q E => ws e t (fun l e1 t1 => l.length ≤ sizeLine ∧ Q (.ow (.lst l)) e1 t1) E
theorem SR.newTup {F H : Hp} {t : Th} {e : Ev} {σ : L2.St} (S : SR B F t e σ H) {p : Addr} {l : List D} {vs : List V} (hp : H p = none) (r : RepL B.K F l vs) : SR B (upd F p (.tup vs)) t e σ (upd H p (.tup vs)) ∧ Stp B σ F t e H (upd F p (.tup vs)) t e (upd H p (.tup vs)) ∧ Rep B.K (upd F p (.tup vs)) (.tup l) (.ref p) := by
  have le := same_upd (o := .tup vs) (S.sub.free hp)
  refine ⟨S.fresh hp, .fresh hp (S.sub.free hp), ?_⟩
  unfold Rep
  exact ⟨p, vs, rfl, upd_same, r.mono le⟩
theorem de_tup {x1 : Nat} (h : PA X es (liftA B W ws)) : PE X (.Tuple es x1 pos) (liftE B W (wTup ws)) := weakE (pe_tup h) (by
  rintro σ H Q ⟨F, t, e, Qd, Ed, S, eo, hw, hq⟩
  refine ⟨F, t, e, _, Ed, S, eo, hw, fun vs H1 F1 t1 e1 ds S1 L1 r1 q1 => ?_⟩
  refine ⟨by rw [r1.length]; exact q1.1, fun p hp => ?_⟩
  obtain ⟨S2, L2, r2⟩ := S1.newTup hp r1
  exact hq _ _ _ t1 e1 _ S2 (L1.trans L2) r2 q1.2)
theorem dr_lst (h : PA X es (liftA B W ws)) : PE X (.List es pos) (liftR B W (wLst ws)) := weakE (pe_lst h) (by
  rintro σ H Q ⟨F, t, e, Qd, Ed, S, eo, hw, hq⟩
  refine ⟨F, t, e, _, Ed, S, eo, hw, fun vs H1 F1 t1 e1 ds S1 L1 r1 q1 => ?_⟩
  refine ⟨by rw [r1.length]; exact q1.1, fun p hp => hq _ _ F1 t1 e1 _ (S1.loose hp) (L1.trans (.loose hp)) (S1.newLst hp r1) ?_ q1.2⟩
  exact newR_none (L1.old hp))
end
end VL

set_option Elab.async false
set_option linter.all false
set_option maxRecDepth 100000
set_option maxHeartbeats 1000000
namespace VL
open PySem PySem.Spec PyProof.Rows L2

/-! results side by side, each kept -/
inductive RepRs {Th : Type} (B : Bs Th) (F : Hp) (t : Th) (e : Ev) (σ : L2.St) (H : Hp) : List R → List V → Prop
  | nil : RepRs B F t e σ H [] []
  | cons {r : R} {v : V} {rs : List R} {vs : List V} : RepR B F t e σ H r v → RepRs B F t e σ H rs vs → RepRs B F t e σ H (r :: rs) (v :: vs)
abbrev WB (Th : Type) := Ev → Th → (List R → Ev → Th → Prop) → KX Th → Prop
/-- no two of them are one object -/
def Apart : List R → List V → Prop
  | .ow _ :: rs, .ref a :: vs => (∀ (j : Nat) (d : D), rs[j]? = some (.ow d) → vs[j]? ≠ some (.ref a)) ∧ Apart rs vs
  | _ :: rs, _ :: vs => Apart rs vs
  | _, _ => True
def NewRs (σ : L2.St) (e : Ev) (H : Hp) : List R → List V → Prop
  | r :: rs, v :: vs => NewR σ e H r v ∧ NewRs σ e H rs vs
  | _, _ => True
def liftB {Th : Type} (B : Bs Th) (W : WX) (w : WB Th) : TA := fun σ H Q => ∃ (F : Hp) (t : Th) (e : Ev) (Qd : List R → Ev → Th → Prop) (Ed : KX Th), SR B F t e σ H ∧ EOK B W σ Ed ∧ w e t Qd Ed ∧
  ∀ vs H' F' t' e' rs, SR B F' t' e' σ H' → Stp B σ F t e H F' t' e' H' → RepRs B F' t' e' σ H' rs vs → Apart rs vs → NewRs σ e H rs vs → Qd rs e' t' → Q vs H'

section
variable {Th : Type} {B : Bs Th} {W : WX} {X : Cx} {pos : Pos} {a : Expr} {es : List Expr} {wa : WR Th} {ws : WB Th}
theorem NewRs.from {F F1 H H1 : Hp} {t t1 : Th} {e e1 : Ev} {σ : L2.St} (x : Stp B σ F t e H F1 t1 e1 H1) : ∀ {rs : List R} {vs : List V}, NewRs σ e1 H1 rs vs → NewRs σ e H rs vs
  | [], _, _ => trivial
  | _ :: _, [], _ => trivial
  | _ :: _, _ :: _, h => ⟨h.1.from x, NewRs.from x h.2⟩
def wBnil : WB Th := fun e t Q _ => Q [] e t
def wBcons (wa : WR Th) (ws : WB Th) : WB Th := fun e t Q E => wa e t (fun a e1 t1 => ws e1 t1 (fun l e2 t2 => Q (a :: l) e2 t2) E) E
theorem db_nil : PA X [] (liftB B W wBnil) := weakA pa_nil (by
  rintro σ H Q ⟨F, t, e, Qd, Ed, S, eo, hw, hq⟩
  exact hq [] H F t e [] S .refl .nil trivial trivial hw)
theorem db_cons (ha : PE X a (liftR B W wa)) (hr : PA X es (liftB B W ws)) (hs : starEach (a :: es) X.env = (false, eval a X.env) :: starEach es X.env := by rfl) : PA X (a :: es) (liftB B W (wBcons wa ws)) := weakA (pa_cons ha hr hs) (by
  rintro σ H Q ⟨F, t, e, Qd, Ed, S, eo, hw, hq⟩
  refine ⟨F, t, e, _, Ed, S, eo, hw, fun x H1 F1 t1 e1 r S1 L1 r1 n1 q1 => ?_⟩
  refine ⟨F1, t1, e1, _, Ed, S1, eo, q1, fun vs H2 F2 t2 e2 rs S2 L2 r2 a2 n2 q2 => hq _ H2 F2 t2 e2 _ S2 (L1.trans L2) (.cons (r1.step L2) r2) ?_ ⟨n1, n2.from L1⟩ q2⟩
  cases r with
  | sh d => cases x <;> exact a2
  | ow d =>
    obtain ⟨b, rfl, o, h0, hf, hs⟩ := r1
    refine ⟨fun j d' h1 h2 => ?_, a2⟩
    -- what the later ones made or took is not b
    have key : ∀ {rs : List R} {vs : List V} (j : Nat), NewRs σ e1 H1 rs vs → rs[j]? = some (.ow d') → vs[j]? = some (.ref b) → H1 b = none ∨ InSl e1 σ b := by
      intro rs
      induction rs with
      | nil => intro vs j _ h _; simp at h
      | cons r rs ih =>
        intro vs j hn hr hv
        cases vs with
        | nil => simp at hv
        | cons v vs =>
          cases j with
          | zero =>
            simp at hr hv
            subst hr hv
            exact hn.1 b rfl
          | succ j => exact ih j hn.2 (by simpa using hr) (by simpa using hv)
    rcases key j n2 h1 h2 with q | ⟨i, d2, q1', q2'⟩
    · obtain ⟨ob, eb⟩ := o.has
      rw [q] at eb; cases eb
    · exact hs i d2 q1' q2')
end

/-! statements -/
section
variable {Th : Type} {B : Bs Th} {W : WX} {X : Cx} {pos pos' : Pos} {st : Stmt} {sts : List Stmt} {ex : Expr} {w w' : WS Th}
def wSeq (w w' : WS Th) : WS Th := fun n e t => w { n with nx := w' n } e t
def wNx : WS Th := fun n e t => n.nx e t
def wNever : WS Th := fun _ _ _ => False
theorem dss_nil : PSs X [] (liftS B W wNx) := weakSs pss_nil (by
  rintro n σ H ⟨F, t, e, m, S, eo, hw, h1, h2, h3, h4⟩
  exact h1 σ H F t e S (.refl F) hw)
theorem dss_cons (h1 : PS X st (liftS B W w)) (h2 : PSs X sts (liftS B W w')) : PSs X (st :: sts) (liftS B W (wSeq w w')) := weakSs (pss_cons h1 h2) (by
  rintro n σ H ⟨F, t, e, m, S, eo, hw, h1, h2, h3, h4⟩
  refine ⟨F, t, e, { m with nx := w' m }, S, eo, hw, fun σ' H' F' t' e' S' L' q => ?_, h2, h3, h4⟩
  exact ⟨F', t', e', m, S', eo, q, fun σ2 H2 F2 t2 e2 S2 L2 q2 => h1 σ2 H2 F2 t2 e2 S2 (L'.trans L2) q2, fun v H2 F2 t2 r A L2 q2 => h2 v H2 F2 t2 r A (L'.trans L2) q2, fun σ2 H2 F2 t2 e2 S2 L2 q2 => h3 σ2 H2 F2 t2 e2 S2 (L'.trans L2) q2, fun σ2 H2 F2 t2 e2 S2 L2 q2 => h4 σ2 H2 F2 t2 e2 S2 (L'.trans L2) q2⟩)
theorem dss_one (h1 : PS X st (liftS B W w)) : PSs X [st] (liftS B W w) := pss_one h1
theorem ds_never : PS X st (liftS B W wNever) := weakS ps_never (by
  rintro n σ H ⟨F, t, e, m, S, eo, hw, _⟩
  exact hw)
theorem dss_never : PSs X sts (liftS B W wNever) := weakSs pss_never (by
  rintro n σ H ⟨F, t, e, m, S, eo, hw, _⟩
  exact hw)
theorem ds_pass : PS X (.Pass pos) (liftS B W wNx) := weakS ps_pass (by
  rintro n σ H ⟨F, t, e, m, S, eo, hw, h1, h2, h3, h4⟩
  exact h1 σ H F t e S (.refl F) hw)
def wBk : WS Th := fun n e t => n.bk e t
def wCt : WS Th := fun n e t => n.ct e t
theorem ds_break : PS X (.Break pos) (liftS B W wBk) := weakS ps_break (by
  rintro n σ H ⟨F, t, e, m, S, eo, hw, h1, h2, h3, h4⟩
  exact h3 σ H F t e S (.refl F) hw)
theorem ds_continue : PS X (.Continue pos) (liftS B W wCt) := weakS ps_continue (by
  rintro n σ H ⟨F, t, e, m, S, eo, hw, h1, h2, h3, h4⟩
  exact h4 σ H F t e S (.refl F) hw)
/-- name = result -/
def wSet (i : Nat) (wr : WR Th) : WS Th := fun n e t => wr e t (fun r e1 t1 => n.nx (e1.set i r.sl) t1) n.ex
theorem SR.store {F H : Hp} {t : Th} {e : Ev} {σ : L2.St} (S : SR B F t e σ H) {r : R} {v : V} (h : RepR B F t e σ H r v) (i : Nat) : SR B F t (e.set i r.sl) (σ.set i (some v)) H := by
  cases r with
  | sh d => exact S.setSh h i
  | ow d =>
    obtain ⟨a, rfl, _⟩ := id h
    exact S.setOw h i
theorem lift_set {wr : WR Th} {te : TE} (i : Nat) (h : ∀ σ H Q, liftR B W wr σ H Q → te σ H Q) : ∀ n σ H, liftS B W (wSet i wr) n σ H → tAsg te (gName i) n σ H := by
  rintro n σ H ⟨F, t, e, m, S, eo, hw, h1, h2, h3, h4⟩
  refine h σ H _ ⟨F, t, e, _, m.ex, S, eo σ, hw, fun v H1 F1 t1 e1 r S1 L1 r1 n1 q1 => ?_⟩
  exact h1 _ H1 F1 t1 _ (S1.store r1 i) L1.le q1
theorem ds_set {i : Nat} {x : Str} {wr : WR Th} (hN : X.N.Nodup) (he : PE X ex (liftR B W wr)) (hi : X.N[i]? = some x := by rfl) (hx : Loc X.env.scope x := by first | exact Or.inl rfl | exact Or.inr rfl) (hs : swapsWith ex (some (.Name x pos')) pos.line X.env = pure false := by rfl)
    (hf : X.fn x = true ∨ X.env.scope.names.lookup x = some .local := by first | exact .inl rfl | exact .inr rfl | assumption) : PS X (.Assign [.Name x pos'] ex pos) (liftS B W (wSet i wr)) :=
  weakS (ps_set hN hi hx he hs hf) (lift_set i fun _ _ _ h => h)
/-- a value that is dropped -/
def wDrop (wr : WR Th) : WS Th := fun n e t => wr e t (fun _ e1 t1 => n.nx e1 t1) n.ex
theorem ds_expr {wr : WR Th} (he : PE X ex (liftR B W wr)) (hs : swapsWith ex none pos.line X.env = pure false := by rfl) : PS X (.Expr ex pos) (liftS B W (wDrop wr)) := weakS (ps_expr he hs) (by
  rintro n σ H ⟨F, t, e, m, S, eo, hw, h1, h2, h3, h4⟩
  exact ⟨F, t, e, _, m.ex, S, eo σ, hw, fun v H1 F1 t1 e1 r S1 L1 r1 n1 q1 => h1 _ H1 F1 t1 _ S1 L1.le q1⟩)
theorem ds_doc {x : Str} {j : Nat} : PS X (.Expr (.Constant (.str x) j pos') pos) (liftS B W wNx) := weakS ps_doc (by
  rintro n σ H ⟨F, t, e, m, S, eo, hw, h1, h2, h3, h4⟩
  exact h1 σ H F t e S (.refl F) hw)
/-- return -/
def wRet (wr : WR Th) : WS Th := fun n e t => wr e t (fun r _ t1 => n.rt r t1) n.ex
theorem RepR.ret {F H : Hp} {t : Th} {e : Ev} {σ : L2.St} {r : R} {v : V} (h : RepR B F t e σ H r v) : RetR B F t H r v := by
  cases r with
  | sh d => exact h
  | ow d =>
    obtain ⟨a, ea, o, h0, hf, _⟩ := h
    exact ⟨a, ea, o, h0, hf⟩
theorem ds_ret {wr : WR Th} (he : PE X ex (liftR B W wr)) : PS X (.Return (some ex) pos) (liftS B W (wRet wr)) := weakS (ps_ret he) (by
  rintro n σ H ⟨F, t, e, m, S, eo, hw, h1, h2, h3, h4⟩
  exact ⟨F, t, e, _, m.ex, S, eo σ, hw, fun v H1 F1 t1 e1 r S1 L1 r1 n1 q1 => h2 _ H1 F1 t1 r S1.af L1.le r1.ret q1⟩)
/-- return name: what the name owns goes with it -/
def wRetV (i : Nat) : WS Th := fun n e t => match e[i]? with
  | some (.sh d) => n.rt (.sh d) t
  | some (.ow d) => n.rt (.ow d) t
  | _ => False
theorem ds_retv (i : Nat) {x : Str} (hN : X.N[i]? = some x := by rfl) (hv : Vis X.env.scope x := by first | exact Or.inl rfl | exact Or.inr (Or.inl rfl) | exact Or.inr (Or.inr rfl)) (hd : (x == ("__debug__" : Str)) = false := by decide)
    (hcd : (x == ("__classdict__" : Str)) = false := by decide) : PS X (.Return (some (.Name x pos')) pos) (liftS B W (wRetV i)) := weakS (ps_ret (pe_var hN hv hd hcd)) (by
  rintro n σ H ⟨F, t, e, m, S, eo, hw, h1, h2, h3, h4⟩
  unfold wRetV at hw
  split at hw
  · rename_i d h
    obtain ⟨v, e1, r⟩ := S.sh i d h
    exact ⟨v, e1, h2 v H F t (.sh d) S.af (.refl F) r hw⟩
  · rename_i d h
    obtain ⟨a, e1, o, h0, hf⟩ := S.ow i d h
    exact ⟨.ref a, e1, h2 _ H F t (.ow d) S.af (.refl F) ⟨a, rfl, o, h0, hf⟩ hw⟩
  · exact hw.elim)
def wRetN : WS Th := fun n _ t => n.rt (.sh .non) t
theorem ds_retN : PS X (.Return none pos) (liftS B W wRetN) := weakS ps_retN (by
  rintro n σ H ⟨F, t, e, m, S, eo, hw, h1, h2, h3, h4⟩
  exact h2 .non H F t (.sh .non) S.af (.refl F) (by unfold RetR Rep; rfl) hw)
/-- if -/
def wIf (tc : WT Th) (w w' : WS Th) : WS Th := fun n e t => tc e t (fun c e1 t1 => if c = true then w n e1 t1 else w' n e1 t1) n.ex
theorem ds_if {c : Expr} {p q : List Stmt} {tc : WT Th} (hc : PT X c (liftT B W tc)) (hp : PSs X p (liftS B W w)) (hq : PSs X q (liftS B W w')) : PS X (.If c p q pos) (liftS B W (wIf tc w w')) := weakS (ps_if hc hp hq) (by
  rintro n σ H ⟨F, t, e, m, S, eo, hw, h1, h2, h3, h4⟩
  refine ⟨F, t, e, _, m.ex, S, eo σ, hw, fun c H1 F1 t1 e1 S1 L1 q1 => ?_⟩
  have go : ∀ (v : WS Th), v m e1 t1 → liftS B W v n σ H1 := fun v hv => ⟨F1, t1, e1, m, S1, eo, hv, fun σ2 H2 F2 t2 e2 S2 L2 q2 => h1 σ2 H2 F2 t2 e2 S2 (L1.le.trans L2) q2, fun v H2 F2 t2 r A L2 q2 => h2 v H2 F2 t2 r A (L1.le.trans L2) q2,
    fun σ2 H2 F2 t2 e2 S2 L2 q2 => h3 σ2 H2 F2 t2 e2 S2 (L1.le.trans L2) q2, fun σ2 H2 F2 t2 e2 S2 L2 q2 => h4 σ2 H2 F2 t2 e2 S2 (L1.le.trans L2) q2⟩
  cases c with
  | true => exact go w (by simpa using q1)
  | false => exact go w' (by simpa using q1))

/-! targets -/
def wGname (i : Nat) : WG Th := fun d e t Q => Q (e.set i (.sh d)) t
theorem dg_name {i : Nat} {x : Str} (hN : X.N.Nodup) (hi : X.N[i]? = some x := by rfl) (hx : Loc X.env.scope x := by first | exact Or.inl rfl | exact Or.inr rfl) (hf : X.fn x = true ∨ X.env.scope.names.lookup x = some .local := by first | exact .inl rfl | exact .inr rfl | assumption) :
    PG X (.Name x pos) (liftG B (wGname i)) := weakG (pg_name hN hi hx hf) (by
  rintro v σ H Q ⟨F, t, e, d, Qd, S, r, hw, hq⟩
  exact hq _ H F t _ (S.setSh r i) (.refl F) hw)
abbrev WGs (Th : Type) := List D → Ev → Th → (Ev → Th → Prop) → Prop
def liftGs (B : Bs Th) (g : WGs Th) : TGs := fun vs σ H Q => ∃ (F : Hp) (t : Th) (e : Ev) (ds : List D) (Qd : Ev → Th → Prop), SR B F t e σ H ∧ RepL B.K F ds vs ∧ g ds e t Qd ∧
  ∀ σ' H' F' t' e', SR B F' t' e' σ' H' → L2.Same F F' → Qd e' t' → Q σ' H'
def wGnil : WGs Th := fun ds e t Q => ds = [] ∧ Q e t
def wGcons (g : WG Th) (gs : WGs Th) : WGs Th := fun ds e t Q => match ds with
  | d :: r => g d e t fun e1 t1 => gs r e1 t1 Q
  | [] => False
theorem dgs_nil : PGs X [] (liftGs B wGnil) := weakGs pgs_nil (by
  rintro v σ H Q ⟨F, t, e, d, Qd, S, r, ⟨rfl, hw⟩, hq⟩
  unfold RepL at r
  exact ⟨r, hq σ H F t e S (.refl F) hw⟩)
theorem dgs_cons {tg : Expr} {es : List Expr} {g : WG Th} {gs : WGs Th} (h1 : PG X tg (liftG B g)) (h2 : PGs X es (liftGs B gs)) (hs : (assignEach (tg :: es) X.env).map (·.2) = assign tg X.env :: (assignEach es X.env).map (·.2) := by rfl) : PGs X (tg :: es) (liftGs B (wGcons g gs)) :=
  weakGs (pgs_cons h1 h2 hs) (by
  rintro v σ H Q ⟨F, t, e, ds, Qd, S, r, hw, hq⟩
  cases ds with
  | nil => exact hw.elim
  | cons d l =>
    unfold RepL at r
    obtain ⟨x, r', rfl, r1, r2⟩ := r
    refine ⟨x, r', rfl, F, t, e, d, _, S, r1, hw, fun σ1 H1 F1 t1 e1 S1 L1 q1 => ?_⟩
    exact ⟨F1, t1, e1, l, Qd, S1, r2.mono L1, q1, fun σ2 H2 F2 t2 e2 S2 L2 q2 => hq σ2 H2 F2 t2 e2 S2 (L1.trans L2) q2⟩)
def wGtup (n : Nat) (gs : WGs Th) : WG Th := fun d e t Q => match d with
  | .tup l => l.length = n ∧ gs l e t Q
  | _ => False
theorem dg_tup {es : List Expr} {k n : Nat} {gs : WGs Th} (hK : B.K = X.K) (hc : X.calm = true) (h : PGs X es (liftGs B gs)) (hn : (assignEach es X.env).length = n := by rfl) (hst : (assignEach es X.env).findIdx? (·.1) = none := by rfl) : PG X (.Tuple es k pos) (liftG B (wGtup n gs)) :=
  weakG (pg_tup hc h hn hst) (by
  rintro v σ H Q ⟨F, t, e, d, Qd, S, r, hw, hq⟩
  cases d with
  | tup l =>
    unfold Rep at r
    obtain ⟨a, vs, rfl, q, r⟩ := r
    refine ⟨a, vs, rfl, by rw [← hK]; exact SqT.of (S.sub _ _ q), by rw [r.length]; exact hw.1, F, t, e, l, Qd, S, r, hw.2, hq⟩
  | _ => exact hw.elim)
/-- target = value -/
def wAsg (we : WE Th) (g : WG Th) : WS Th := fun n e t => we e t (fun d e1 t1 => g d e1 t1 n.nx) n.ex
theorem ds_asg {tg : Expr} {we : WE Th} {g : WG Th} (he : PE X ex (liftE B W we)) (hg : PG X tg (liftG B g)) (hs : swapsWithSole [tg] ex pos.line X.env = pure false := by rfl) (hw : swappedStores [tg] ex X.env = pure none := by rfl)
    (h1 : (assignEach [tg] X.env).map (·.2) = [assign tg X.env] := by rfl) : PS X (.Assign [tg] ex pos) (liftS B W (wAsg we g)) := weakS (ps_asg he hg hs hw h1) (by
  rintro n σ H ⟨F, t, e, m, S, eo, hw, h1, h2, h3, h4⟩
  refine ⟨F, t, e, _, m.ex, S, eo σ, hw, fun v H1 F1 t1 e1 d S1 L1 r1 q1 => ?_⟩
  exact ⟨F1, t1, e1, d, m.nx, S1, r1, q1, fun σ2 H2 F2 t2 e2 S2 L2 q2 => h1 σ2 H2 F2 t2 e2 S2 (L1.le.trans L2) q2⟩)
/-- a, b = x, y -/
def wPar (i j : Nat) (ws : WB Th) : WS Th := fun n e t => ws e t (fun rs e1 t1 => match rs with
  | [r, q] => n.nx ((e1.set i r.sl).set j q.sl) t1
  | _ => False) n.ex
theorem SR.store2 {F H : Hp} {t : Th} {e : Ev} {σ : L2.St} (S : SR B F t e σ H) {r q : R} {v u : V} (hr : RepR B F t e σ H r v) (hq : RepR B F t e σ H q u) (ha : Apart [r, q] [v, u]) (i : Nat) :
    SR B F t (e.set i r.sl) (σ.set i (some v)) H ∧ RepR B F t (e.set i r.sl) (σ.set i (some v)) H q u := by
  refine ⟨S.store hr i, ?_⟩
  cases q with
  | sh d => exact hq
  | ow d =>
    obtain ⟨b, rfl, o, h0, hf, hs⟩ := hq
    refine ⟨b, rfl, o, h0, hf, fun k d' hk hv => ?_⟩
    rw [List.getElem?_set] at hk hv
    by_cases hik : i = k
    · subst hik
      rw [if_pos rfl] at hk hv
      split at hk
      · split at hv
        · cases hv
          cases r with
          | sh _ => cases hk
          | ow _ =>
            exact ha.1 0 d rfl rfl
        · cases hv
      · cases hk
    · rw [if_neg hik] at hk hv
      exact hs k d' hk hv
theorem ds_par {i j : Nat} {x y : Str} {a b : Expr} {ws : WB Th} {px py pt : Pos} {kt k2 : Nat} {pt2 : Pos} (hc : X.calm = true) (hN : X.N.Nodup) (ha : PA X [a, b] (liftB B W ws))
    (hi : X.N[i]? = some x := by rfl) (hj : X.N[j]? = some y := by rfl) (hij : i ≠ j := by decide) (hx : X.env.scope.names.lookup x = some .local := by rfl) (hy : X.env.scope.names.lookup y = some .local := by rfl)
    (hw : swappedStores [.Tuple [.Name x px, .Name y py] kt pt] (.Tuple [a, b] k2 pt2) X.env = pure (some [x, y]) := by rfl) (hs : swapsWithSole [.Tuple [.Name x px, .Name y py] kt pt] (.Tuple [a, b] k2 pt2) pos.line X.env = pure false := by rfl) :
    PS X (.Assign [.Tuple [.Name x px, .Name y py] kt pt] (.Tuple [a, b] k2 pt2) pos) (liftS B W (wPar i j ws)) := weakS (ps_par hc hN hi hj hij hx hy ha hw hs) (by
  rintro n σ H ⟨F, t, e, m, S, eo, hw, h1, h2, h3, h4⟩
  refine ⟨F, t, e, _, m.ex, S, eo σ, hw, fun vs H1 F1 t1 e1 rs S1 L1 r1 a1 n1 q1 => ?_⟩
  match rs, vs, r1, a1, q1 with
  | [r, q], _, .cons (v := v) hr (.cons (v := u) hq .nil), a1, q1 =>
    obtain ⟨S2, hq2⟩ := S1.store2 hr hq a1 i
    exact ⟨v, u, rfl, h1 _ H1 F1 t1 _ (S2.store hq2 j) L1.le q1⟩)
end
end VL

set_option Elab.async false
set_option linter.all false
set_option maxRecDepth 100000
set_option maxHeartbeats 1000000
namespace VL
open PySem PySem.Spec PyProof.Rows L2 RZ

/-! what is walked: the items, as data -/
def IOk {Th : Type} (B : Bs Th) (F1 : Hp) (J : It) (items : List D) : Prop := ∀ F t e σ H i, SR B F t e σ H → L2.Same F1 F →
  (i < items.length → J.go i H) ∧ (items.length ≤ i → J.stop i H) ∧
  (∀ d x H', items[i]? = some d → J.yld i H x H' → ∃ F', SR B F' t e σ H' ∧ Stp B σ F t e H F' t e H' ∧ Rep B.K F' d x)
def liftI {Th : Type} (B : Bs Th) (W : WX) (w : WA Th) : TI := fun σ H Rr => ∃ (F : Hp) (t : Th) (e : Ev) (Qd : List D → Ev → Th → Prop) (Ed : KX Th), SR B F t e σ H ∧ EOK B W σ Ed ∧ w e t Qd Ed ∧
  ∀ J H' F' t' e' items, SR B F' t' e' σ H' → Stp B σ F t e H F' t' e' H' → IOk B F' J items → Qd items e' t' → Rr J H'

section
variable {Th : Type} {B : Bs Th} {W : WX} {X : Cx} {pos p : Pos} {tg a b : Expr} {we wf : WE Th} {wi : WA Th}
theorem weakI {iter : Expr} {t t' : TI} (h : PI X tg iter t) (hw : ∀ σ H Q, t' σ H Q → t σ H Q) : PI X tg iter t' := ⟨fun pins s σ H R I q => h.run pins s σ H R I (hw σ H R q)⟩
theorem iok_list {F : Hp} {q : Addr} {vs : List V} {l : List D} (hq : SqL B.K F q vs) (r : RepL B.K F l vs) (one : ∀ F' H', L2.Same F' H' → SqL B.K F' q vs → ∀ xs, SqL B.K H' q xs → xs = vs → True) : IOk B F (Itl B.K q) l := by
  intro F' t e σ H i S L
  have h1 : SqL B.K H q vs := S.sub.seq (L.seq hq)
  have hl := r.length
  refine ⟨fun hi => ?_, fun hi => ⟨vs, h1, by omega⟩, fun d x H' hd hy => ?_⟩
  · obtain ⟨x, e1, _⟩ := r.get (List.getElem?_eq_getElem hi)
    exact ⟨vs, x, h1, e1⟩
  · obtain ⟨rfl, hy⟩ := hy
    obtain ⟨y, e1, r1⟩ := r.get hd
    have := hy vs h1
    rw [e1] at this; cases this
    exact ⟨F', S, .refl, r1.mono L⟩
theorem iok_tup {F : Hp} {q : Addr} {vs : List V} {l : List D} (hq : SqT B.K F q vs) (r : RepL B.K F l vs) : IOk B F (Itt B.K q) l := by
  intro F' t e σ H i S L
  have h1 : SqT B.K H q vs := Same.seqT S.sub (Same.seqT L hq)
  have hl := r.length
  refine ⟨fun hi => ?_, fun hi => ⟨vs, h1, by omega⟩, fun d x H' hd hy => ?_⟩
  · obtain ⟨x, e1, _⟩ := r.get (List.getElem?_eq_getElem hi)
    exact ⟨vs, x, h1, e1⟩
  · obtain ⟨rfl, hy⟩ := hy
    obtain ⟨y, e1, r1⟩ := r.get hd
    have := hy vs h1
    rw [e1] at this; cases this
    exact ⟨F', S, .refl, r1.mono L⟩
/-- a list -/
def wItL (we : WE Th) : WA Th := fun e t Q E => we e t (fun d e1 t1 => match d with | .lst l => Q l e1 t1 | _ => False) E
theorem di_list (hK : B.K = X.K) (he : PE X a (liftE B W we)) : PI X tg a (liftI B W (wItL we)) := weakI (pi_list he) (by
  rintro σ H Q ⟨F, t, e, Qd, Ed, S, eo, hw, hq⟩
  refine ⟨F, t, e, _, Ed, S, eo, hw, fun v H1 F1 t1 e1 d S1 L1 r1 q1 => ?_⟩
  cases d with
  | lst l =>
    unfold Rep at r1
    obtain ⟨q, vs, rfl, h1, r⟩ := r1
    refine ⟨q, rfl, ⟨vs, by rw [← hK]; exact SqL.of (S1.sub _ _ h1)⟩, ?_⟩
    rw [← hK]
    exact hq _ H1 F1 t1 e1 l S1 L1 (iok_list (SqL.of h1) r fun _ _ _ _ _ _ _ => trivial) q1
  | _ => exact q1.elim)
/-- a tuple -/
def wItT (we : WE Th) : WA Th := fun e t Q E => we e t (fun d e1 t1 => match d with | .tup l => Q l e1 t1 | _ => False) E
theorem di_tup (hK : B.K = X.K) (he : PE X a (liftE B W we)) : PI X tg a (liftI B W (wItT we)) := weakI (pi_tup he) (by
  rintro σ H Q ⟨F, t, e, Qd, Ed, S, eo, hw, hq⟩
  refine ⟨F, t, e, _, Ed, S, eo, hw, fun v H1 F1 t1 e1 d S1 L1 r1 q1 => ?_⟩
  cases d with
  | tup l =>
    unfold Rep at r1
    obtain ⟨q, vs, rfl, h1, r⟩ := r1
    refine ⟨q, rfl, ⟨vs, by rw [← hK]; exact SqT.of (S1.sub _ _ h1)⟩, ?_⟩
    rw [← hK]
    exact hq _ H1 F1 t1 e1 l S1 L1 (iok_tup (SqT.of h1) r) q1
  | _ => exact q1.elim)
/-- range -/
def rngD (lo : Int) (n : Nat) : List D := (List.range n).map fun i => .int (lo + (i : Nat))
theorem rngD_length (lo : Int) (n : Nat) : (rngD lo n).length = n := by unfold rngD; simp
theorem iok_range {F : Hp} (lo : Int) (n : Nat) : IOk B F (Itr lo n) (rngD lo n) := by
  intro F' t e σ H i S L
  rw [rngD_length]
  refine ⟨id, id, fun d x H' hd hy => ?_⟩
  obtain ⟨rfl, rfl⟩ := hy
  unfold rngD at hd
  rw [List.getElem?_map] at hd
  by_cases hi : i < n
  · rw [List.getElem?_range hi] at hd
    cases hd
    exact ⟨F', S, .refl, by unfold Rep; rfl⟩
  · rw [List.getElem?_eq_none (by simpa using hi)] at hd
    cases hd
def InR (j : Int) : Prop := -(2 ^ 62) ≤ j ∧ j < 2 ^ 62
def rng1 (l : List D) (k : List D → Prop) : Prop := match l with
  | [.int j] => InR j ∧ k (rngD 0 j.toNat)
  | _ => False
def rng2 (l : List D) (k : List D → Prop) : Prop := match l with
  | [.int i, .int j] => (InR i ∧ InR j) ∧ k (rngD i (j - i).toNat)
  | _ => False
def wItF (f : List D → (List D → Prop) → Prop) (ws : WA Th) : WA Th := fun e t Q E => ws e t (fun l e1 t1 => f l fun items => Q items e1 t1) E
theorem rng1_inv {l : List D} {k : List D → Prop} (h : rng1 l k) : ∃ j, l = [.int j] ∧ InR j ∧ k (rngD 0 j.toNat) := by
  unfold rng1 at h
  split at h
  · exact ⟨_, rfl, h⟩
  · exact h.elim
theorem rng2_inv {l : List D} {k : List D → Prop} (h : rng2 l k) : ∃ i j, l = [.int i, .int j] ∧ InR i ∧ InR j ∧ k (rngD i (j - i).toNat) := by
  unfold rng2 at h
  split at h
  · exact ⟨_, _, rfl, h.1.1, h.1.2, h.2⟩
  · exact h.elim
section
variable {K : PySem.W.Frag} {F : Hp}
theorem repL1 {d : D} {vs : List V} (h : RepL K F [d] vs) : ∃ x, vs = [x] ∧ Rep K F d x := by
  unfold RepL at h
  obtain ⟨x, r, rfl, h, q⟩ := h
  unfold RepL at q
  subst q
  exact ⟨x, rfl, h⟩
theorem repL2 {d e : D} {vs : List V} (h : RepL K F [d, e] vs) : ∃ x y, vs = [x, y] ∧ Rep K F d x ∧ Rep K F e y := by
  unfold RepL at h
  obtain ⟨x, r, rfl, h, q⟩ := h
  obtain ⟨y, rfl, h2⟩ := repL1 q
  exact ⟨x, y, rfl, h, h2⟩
theorem rep_int {i : Int} {v : V} : Rep K F (.int i) v ↔ v = .int i := by unfold Rep; exact Iff.rfl
theorem rep_bl {i : Bool} {v : V} : Rep K F (.bl i) v ↔ v = .bl i := by unfold Rep; exact Iff.rfl
theorem rep_str {i : Str} {v : V} : Rep K F (.str i) v ↔ v = .str i := by unfold Rep; exact Iff.rfl
theorem rep_non {v : V} : Rep K F .non v ↔ v = .non := by unfold Rep; exact Iff.rfl
theorem rep_lst {l : List D} {v : V} : Rep K F (.lst l) v ↔ ∃ a vs, v = .ref a ∧ F a = some (.lst vs) ∧ RepL K F l vs := by unfold Rep; exact Iff.rfl
theorem rep_tup {l : List D} {v : V} : Rep K F (.tup l) v ↔ ∃ a vs, v = .ref a ∧ F a = some (.tup vs) ∧ RepL K F l vs := by unfold Rep; exact Iff.rfl
theorem rep_dk {l : List (Key × D)} {v : V} : Rep K F (.dk l) v ↔ ∃ a od vs, v = .ref a ∧ F a = some (.frz od (.dK vs)) ∧ RepK K F l vs := by unfold Rep; exact Iff.rfl
theorem rep_dt {l : List (List Key × D)} {v : V} : Rep K F (.dt l) v ↔ ∃ a od vs, v = .ref a ∧ F a = some (.frz od (.dT vs)) ∧ RepT K F l vs := by unfold Rep; exact Iff.rfl
theorem rep_ins {C : Addr} {fs : List (Str × D)} {v : V} : Rep K F (.ins C fs) v ↔ ∃ a dx gs, v = .ref a ∧ F a = some (.ins C dx gs) ∧ RepF K F fs gs := by unfold Rep; exact Iff.rfl
end
theorem di_range1 {ws : WA Th} (ha : PA X [a] (liftA B W ws)) (hm : X.mg "range" = none) (hg : Gl X "range" := by rfl) (hs : starEach [a] X.env = [(false, eval a X.env)] := by rfl) : PI X tg (.Call (.Name "range" p) [a] [] pos) (liftI B W (wItF rng1 ws)) :=
  weakI (pi_range1 hg hm ha hs) (by
  rintro σ H Q ⟨F, t, e, Qd, Ed, S, eo, hw, hq⟩
  refine ⟨F, t, e, _, Ed, S, eo, hw, fun vs H1 F1 t1 e1 ds S1 L1 r1 q1 => ?_⟩
  obtain ⟨j, rfl, ⟨i1, i2⟩, q⟩ := rng1_inv q1
  obtain ⟨x, rfl, r⟩ := repL1 r1
  rw [rep_int] at r
  subst r
  exact ⟨j, rfl, i1, i2, hq _ H1 F1 t1 e1 _ S1 L1 (iok_range 0 _) q⟩)
theorem di_range2 {ws : WA Th} (ha : PA X [a, b] (liftA B W ws)) (hm : X.mg "range" = none) (hg : Gl X "range" := by rfl) (hs : starEach [a, b] X.env = [(false, eval a X.env), (false, eval b X.env)] := by rfl) (hs2 : starEach [b] X.env = [(false, eval b X.env)] := by rfl) :
    PI X tg (.Call (.Name "range" p) [a, b] [] pos) (liftI B W (wItF rng2 ws)) :=
  weakI (pi_range2 hg hm ha hs hs2) (by
  rintro σ H Q ⟨F, t, e, Qd, Ed, S, eo, hw, hq⟩
  refine ⟨F, t, e, _, Ed, S, eo, hw, fun vs H1 F1 t1 e1 ds S1 L1 r1 q1 => ?_⟩
  obtain ⟨i, j, rfl, ⟨i1, i2⟩, ⟨j1, j2⟩, q⟩ := rng2_inv q1
  obtain ⟨x, y, rfl, r, r2⟩ := repL2 r1
  rw [rep_int] at r r2
  subst r r2
  exact ⟨i, j, rfl, ⟨i1, i2, j1, j2⟩, hq _ H1 F1 t1 e1 _ S1 L1 (iok_range i _) q⟩)

/-- a text, sign by sign -/
def signs (x : Str) : List D := x.cps.toList.map fun c => .str ⟨#[c]⟩
theorem iok_str {F : Hp} (x : Str) : IOk B F (Its x) (signs x) := by
  intro F' t e σ H i S L
  have hl : (signs x).length = x.cps.size := by unfold signs; simp
  rw [hl]
  refine ⟨id, id, fun d y H' hd hy => ?_⟩
  obtain ⟨rfl, c, hc, rfl⟩ := hy
  unfold signs at hd
  rw [List.getElem?_map, Array.getElem?_toList, hc] at hd
  cases hd
  exact ⟨F', S, .refl, by unfold Rep; rfl⟩
def wItS (we : WE Th) : WA Th := fun e t Q E => we e t (fun d e1 t1 => match d with | .str x => Q (signs x) e1 t1 | _ => False) E
theorem di_str (he : PE X a (liftE B W we)) : PI X tg a (liftI B W (wItS we)) := weakI (pi_str he) (by
  rintro σ H Q ⟨F, t, e, Qd, Ed, S, eo, hw, hq⟩
  refine ⟨F, t, e, _, Ed, S, eo, hw, fun v H1 F1 t1 e1 d S1 L1 r1 q1 => ?_⟩
  cases d with
  | str x =>
    rw [rep_str] at r1
    exact ⟨x, r1, hq _ H1 F1 t1 e1 _ S1 L1 (iok_str x) q1⟩
  | _ => exact q1.elim)
/-- enumerate(list) -/
def enumD (l : List D) : List D := (List.range l.length).zipWith (fun i d => .tup [.int (i : Nat), d]) l
def enm (l : List D) (k : List D → Prop) : Prop := match l with
  | [.lst l] => k (enumD l)
  | _ => False
theorem enm_inv {l : List D} {k : List D → Prop} (h : enm l k) : ∃ m, l = [.lst m] ∧ k (enumD m) := by
  unfold enm at h
  split at h
  · exact ⟨_, rfl, h⟩
  · exact h.elim
theorem enumD_get {l : List D} {i : Nat} {d : D} (h : (enumD l)[i]? = some d) : ∃ x, l[i]? = some x ∧ d = .tup [.int (i : Nat), x] := by
  unfold enumD at h
  rw [List.getElem?_zipWith] at h
  cases h1 : (List.range l.length)[i]? with
  | none => rw [h1] at h; cases h2 : l[i]? <;> (rw [h2] at h; cases h)
  | some j =>
    cases h2 : l[i]? with
    | none => rw [h1, h2] at h; cases h
    | some x =>
      rw [h1, h2] at h
      cases h
      have : j = i := by
        have hi : i < l.length := (List.getElem?_eq_some_iff.mp h2).1
        rw [List.getElem?_range hi] at h1
        cases h1; rfl
      subst this
      exact ⟨x, rfl, rfl⟩
theorem enumD_length (l : List D) : (enumD l).length = l.length := by unfold enumD; simp
theorem iok_enum {F : Hp} {q : Addr} {vs : List V} {l : List D} (hq : SqL B.K F q vs) (r : RepL B.K F l vs) : IOk B F (Ite B.K q) (enumD l) := by
  intro F' t e σ H i S L
  have h1 : SqL B.K H q vs := S.sub.seq (L.seq hq)
  have hl := r.length
  rw [enumD_length]
  refine ⟨fun hi => ?_, fun hi => ⟨vs, h1, by omega⟩, fun d x H' hd hy => ?_⟩
  · obtain ⟨x, e1, _⟩ := r.get (List.getElem?_eq_getElem hi)
    exact ⟨vs, x, h1, e1⟩
  · obtain ⟨T, x, rfl, hT, rfl, hy⟩ := hy
    obtain ⟨z, hz, rfl⟩ := enumD_get hd
    obtain ⟨y, e1, r1⟩ := r.get hz
    have := hy vs h1
    rw [e1] at this; cases this
    obtain ⟨S2, L2', r2⟩ := S.newTup (l := [.int (i : Nat), z]) hT (.cons (by unfold Rep; rfl) (.cons (r1.mono L) .nil))
    exact ⟨_, S2, L2', r2⟩
theorem di_enum {ws : WA Th} {elts : List Expr} {kk : Nat} {tpos : Pos} (hK : B.K = X.K) (ha : PA X [a] (liftA B W ws)) (hm : X.mg "enumerate" = none) (hg : Gl X "enumerate" := by rfl) (hs : starEach [a] X.env = [(false, eval a X.env)] := by rfl) :
    PI X (.Tuple elts kk tpos) (.Call (.Name "enumerate" p) [a] [] pos) (liftI B W (wItF enm ws)) := weakI (pi_enum hg hm ha hs) (by
  rintro σ H Q ⟨F, t, e, Qd, Ed, S, eo, hw, hq⟩
  refine ⟨F, t, e, _, Ed, S, eo, hw, fun vs H1 F1 t1 e1 ds S1 L1 r1 q1 => ?_⟩
  obtain ⟨m, rfl, q⟩ := enm_inv q1
  obtain ⟨x, rfl, r⟩ := repL1 r1
  rw [rep_lst] at r
  obtain ⟨b, us, rfl, h1, r⟩ := r
  refine ⟨b, us, rfl, by rw [← hK]; exact SqL.of (S1.sub _ _ h1), ?_⟩
  rw [← hK]
  exact hq _ H1 F1 t1 e1 _ S1 L1 (iok_enum (SqL.of h1) r) q)
/-- zip of two lists, or of two tuples -/
def zipD (l m : List D) : List D := l.zipWith (fun a b => .tup [a, b]) m
def zp (l : List D) (k : List D → Prop) : Prop := match l with
  | [.lst l, .lst m] => k (zipD l m)
  | [.tup l, .tup m] => k (zipD l m)
  | _ => False
theorem zp_inv {l : List D} {k : List D → Prop} (h : zp l k) : (∃ x y, l = [.lst x, .lst y] ∧ k (zipD x y)) ∨ ∃ x y, l = [.tup x, .tup y] ∧ k (zipD x y) := by
  unfold zp at h
  split at h
  · exact .inl ⟨_, _, rfl, h⟩
  · exact .inr ⟨_, _, rfl, h⟩
  · exact h.elim
theorem zipD_get {l m : List D} {i : Nat} {d : D} (h : (zipD l m)[i]? = some d) : ∃ x y, l[i]? = some x ∧ m[i]? = some y ∧ d = .tup [x, y] := by
  unfold zipD at h
  rw [List.getElem?_zipWith] at h
  cases h1 : l[i]? with
  | none => rw [h1] at h; cases h2 : m[i]? <;> (rw [h2] at h; cases h)
  | some x =>
    cases h2 : m[i]? with
    | none => rw [h1, h2] at h; cases h
    | some y => rw [h1, h2] at h; cases h; exact ⟨x, y, rfl, rfl, rfl⟩
theorem zipD_length (l m : List D) : (zipD l m).length = min l.length m.length := by unfold zipD; simp
theorem iok_zip {F : Hp} {q q' : Addr} {vs us : List V} {l m : List D} (hq : SqL B.K F q vs) (r : RepL B.K F l vs) (hq' : SqL B.K F q' us) (r' : RepL B.K F m us) : IOk B F (Itz B.K q q') (zipD l m) := by
  intro F' t e σ H i S L
  have h1 : SqL B.K H q vs := S.sub.seq (L.seq hq)
  have h2 : SqL B.K H q' us := S.sub.seq (L.seq hq')
  have hl := r.length
  have hl' := r'.length
  rw [zipD_length]
  refine ⟨fun hi => ?_, fun hi => ⟨vs, us, h1, h2, by omega⟩, fun d x H' hd hy => ?_⟩
  · obtain ⟨x, e1, _⟩ := r.get (List.getElem?_eq_getElem (show i < l.length by omega))
    obtain ⟨y, e2, _⟩ := r'.get (List.getElem?_eq_getElem (show i < m.length by omega))
    exact ⟨vs, us, x, y, h1, h2, e1, e2⟩
  · obtain ⟨T, x, y, rfl, hT, rfl, hy, hy'⟩ := hy
    obtain ⟨z, z', hz, hz', rfl⟩ := zipD_get hd
    obtain ⟨w, e1, r1⟩ := r.get hz
    obtain ⟨w', e2, r2⟩ := r'.get hz'
    have := hy vs h1
    rw [e1] at this; cases this
    have := hy' us h2
    rw [e2] at this; cases this
    obtain ⟨S2, L2', r2⟩ := S.newTup (l := [z, z']) hT (.cons (r1.mono L) (.cons (r2.mono L) .nil))
    exact ⟨_, S2, L2', r2⟩
theorem iok_zipT {F : Hp} {q q' : Addr} {vs us : List V} {l m : List D} (hq : SqT B.K F q vs) (r : RepL B.K F l vs) (hq' : SqT B.K F q' us) (r' : RepL B.K F m us) : IOk B F (ItzT B.K q q') (zipD l m) := by
  intro F' t e σ H i S L
  have h1 : SqT B.K H q vs := Same.seqT S.sub (Same.seqT L hq)
  have h2 : SqT B.K H q' us := Same.seqT S.sub (Same.seqT L hq')
  have hl := r.length
  have hl' := r'.length
  rw [zipD_length]
  refine ⟨fun hi => ?_, fun hi => ⟨vs, us, h1, h2, by omega⟩, fun d x H' hd hy => ?_⟩
  · obtain ⟨x, e1, _⟩ := r.get (List.getElem?_eq_getElem (show i < l.length by omega))
    obtain ⟨y, e2, _⟩ := r'.get (List.getElem?_eq_getElem (show i < m.length by omega))
    exact ⟨vs, us, x, y, h1, h2, e1, e2⟩
  · obtain ⟨T, x, y, rfl, hT, rfl, hy, hy'⟩ := hy
    obtain ⟨z, z', hz, hz', rfl⟩ := zipD_get hd
    obtain ⟨w, e1, r1⟩ := r.get hz
    obtain ⟨w', e2, r2⟩ := r'.get hz'
    have := hy vs h1
    rw [e1] at this; cases this
    have := hy' us h2
    rw [e2] at this; cases this
    obtain ⟨S2, L2', r2⟩ := S.newTup (l := [z, z']) hT (.cons (r1.mono L) (.cons (r2.mono L) .nil))
    exact ⟨_, S2, L2', r2⟩
theorem di_zip {ws : WA Th} {elts : List Expr} {kk : Nat} {tpos : Pos} (hK : B.K = X.K) (ha : PA X [a, b] (liftA B W ws)) (hm : X.mg "zip" = none) (hg : Gl X "zip" := by rfl) (hs : starEach [a, b] X.env = (false, eval a X.env) :: starEach [b] X.env := by rfl) (hpl : (backTo pos (starEach [b] X.env)).any (·.1) = false := by rfl) :
    PI X (.Tuple elts kk tpos) (.Call (.Name "zip" p) [a, b] [] pos) (liftI B W (wItF zp ws)) := weakI (pi_zipA hg hm ha hs hpl) (by
  rintro σ H Q ⟨F, t, e, Qd, Ed, S, eo, hw, hq⟩
  refine ⟨F, t, e, _, Ed, S, eo, hw, fun vs H1 F1 t1 e1 ds S1 L1 r1 q1 => ?_⟩
  rcases zp_inv q1 with ⟨l, m, rfl, q⟩ | ⟨l, m, rfl, q⟩
  · obtain ⟨x, y, rfl, r, r'⟩ := repL2 r1
    rw [rep_lst] at r r'
    obtain ⟨b, us, rfl, h1, r⟩ := r
    obtain ⟨c, zs, rfl, h2, r'⟩ := r'
    refine ⟨b, c, us, zs, rfl, .inl ⟨by rw [← hK]; exact SqL.of (S1.sub _ _ h1), by rw [← hK]; exact SqL.of (S1.sub _ _ h2), ?_⟩⟩
    rw [← hK]
    exact hq _ H1 F1 t1 e1 _ S1 L1 (iok_zip (SqL.of h1) r (SqL.of h2) r') q
  · obtain ⟨x, y, rfl, r, r'⟩ := repL2 r1
    rw [rep_tup] at r r'
    obtain ⟨b, us, rfl, h1, r⟩ := r
    obtain ⟨c, zs, rfl, h2, r'⟩ := r'
    refine ⟨b, c, us, zs, rfl, .inr ⟨by rw [← hK]; exact SqT.of (S1.sub _ _ h1), by rw [← hK]; exact SqT.of (S1.sub _ _ h2), ?_⟩⟩
    rw [← hK]
    exact hq _ H1 F1 t1 e1 _ S1 L1 (iok_zipT (SqT.of h1) r (SqT.of h2) r') q)
/-- a dict's keys -/
def keyD : Key → D
  | .inl i => .int i
  | .inr x => .str x
theorem rep_key {K : PySem.W.Frag} {F : Hp} (k : Key) : Rep K F (keyD k) (kV k) := by
  cases k <;> (unfold keyD kV Rep; rfl)
theorem rep_keys {K : PySem.W.Frag} {F : Hp} : ∀ ks : List Key, RepL K F (ks.map keyD) (ks.map kV)
  | [] => .nil
  | k :: ks => .cons (rep_key k) (rep_keys ks)
theorem repK_get {K : PySem.W.Frag} {F : Hp} : ∀ {l : List (Key × D)} {vs : List (Key × V)} {i : Nat} {k : Key} {v : V}, RepK K F l vs → vs[i]? = some (k, v) → ∃ d, l[i]? = some (k, d) ∧ Rep K F d v
  | [], vs, i, k, v, h, e => by unfold RepK at h; subst h; simp at e
  | (k', d) :: l, vs, 0, k, v, h, e => by
    unfold RepK at h
    obtain ⟨x, r, rfl, h1, z⟩ := h
    simp at e
    obtain ⟨rfl, rfl⟩ := e
    exact ⟨d, rfl, h1⟩
  | (k', d) :: l, vs, i + 1, k, v, h, e => by
    unfold RepK at h
    obtain ⟨x, r, rfl, h1, z⟩ := h
    obtain ⟨d', e1, r1⟩ := repK_get (i := i) z (by simpa using e)
    exact ⟨d', by simpa using e1, r1⟩
theorem repT_get {K : PySem.W.Frag} {F : Hp} : ∀ {l : List (List Key × D)} {vs : List (List Key × V)} {i : Nat} {k : List Key} {v : V}, RepT K F l vs → vs[i]? = some (k, v) → ∃ d, l[i]? = some (k, d) ∧ Rep K F d v
  | [], vs, i, k, v, h, e => by unfold RepT at h; subst h; simp at e
  | (k', d) :: l, vs, 0, k, v, h, e => by
    unfold RepT at h
    obtain ⟨x, r, rfl, h1, z⟩ := h
    simp at e
    obtain ⟨rfl, rfl⟩ := e
    exact ⟨d, rfl, h1⟩
  | (k', d) :: l, vs, i + 1, k, v, h, e => by
    unfold RepT at h
    obtain ⟨x, r, rfl, h1, z⟩ := h
    obtain ⟨d', e1, r1⟩ := repT_get (i := i) z (by simpa using e)
    exact ⟨d', by simpa using e1, r1⟩
theorem repK_len {K : PySem.W.Frag} {F : Hp} : ∀ {l : List (Key × D)} {vs : List (Key × V)}, RepK K F l vs → vs.length = l.length
  | [], vs, h => by unfold RepK at h; subst h; rfl
  | (k', d) :: l, vs, h => by
    unfold RepK at h
    obtain ⟨x, r, rfl, h1, z⟩ := h
    simp [repK_len z]
theorem repT_len {K : PySem.W.Frag} {F : Hp} : ∀ {l : List (List Key × D)} {vs : List (List Key × V)}, RepT K F l vs → vs.length = l.length
  | [], vs, h => by unfold RepT at h; subst h; rfl
  | (k', d) :: l, vs, h => by
    unfold RepT at h
    obtain ⟨x, r, rfl, h1, z⟩ := h
    simp [repT_len z]
def keysD (d : D) (k : List D → Prop) : Prop := match d with
  | .dk l => k (l.map fun p => keyD p.1)
  | .dt l => k (l.map fun p => .tup (p.1.map keyD))
  | _ => False
def wItK (f : D → (List D → Prop) → Prop) (we : WE Th) : WA Th := fun e t Q E => we e t (fun d e1 t1 => f d fun items => Q items e1 t1) E
theorem di_keys (he : PE X a (liftE B W we)) : PI X tg a (liftI B W (wItK keysD we)) := weakI (pi_keys he) (by
  rintro σ H Q ⟨F, t, e, Qd, Ed, S, eo, hw, hq⟩
  refine ⟨F, t, e, _, Ed, S, eo, hw, fun v H1 F1 t1 e1 d S1 L1 r1 q1 => ?_⟩
  cases d with
  | dk l =>
    rw [rep_dk] at r1
    obtain ⟨c, od, vs, rfl, h1, r⟩ := r1
    refine ⟨c, od, rfl, .inl ⟨vs, S1.sub _ _ h1, hq _ H1 F1 t1 e1 _ S1 L1 ?_ q1⟩⟩
    intro F' t' e' σ' H' i S' L'
    have h2 := S'.sub _ _ (L' _ _ h1)
    rw [List.length_map, ← repK_len r]
    refine ⟨fun hi => ⟨h2, hi⟩, fun hi => ⟨h2, hi⟩, fun d x H2 hd hy => ?_⟩
    obtain ⟨rfl, k, v, hk, rfl⟩ := hy
    obtain ⟨d', e', r'⟩ := repK_get r hk
    rw [List.getElem?_map, e'] at hd
    cases hd
    exact ⟨F', S', .refl, rep_key k⟩
  | dt l =>
    rw [rep_dt] at r1
    obtain ⟨c, od, vs, rfl, h1, r⟩ := r1
    refine ⟨c, od, rfl, .inr ⟨vs, S1.sub _ _ h1, hq _ H1 F1 t1 e1 _ S1 L1 ?_ q1⟩⟩
    intro F' t' e' σ' H' i S' L'
    have h2 := S'.sub _ _ (L' _ _ h1)
    rw [List.length_map, ← repT_len r]
    refine ⟨fun hi => ⟨h2, hi⟩, fun hi => ⟨h2, hi⟩, fun d x H2 hd hy => ?_⟩
    obtain ⟨rfl, k, v, q, hk, rfl, hq'⟩ := hy
    obtain ⟨d', e', r'⟩ := repT_get r hk
    rw [List.getElem?_map, e'] at hd
    cases hd
    obtain ⟨F2, S2, L2', h3⟩ := S'.seeTup hq'
    refine ⟨F2, S2, L2', ?_⟩
    rw [rep_tup]
    exact ⟨q, _, rfl, h3, rep_keys k⟩
  | _ => exact q1.elim)
def valsD (d : D) (k : List D → Prop) : Prop := match d with
  | .dk l => k (l.map fun p => p.2)
  | _ => False
theorem di_values (he : PE X a (liftE B W we)) {apos cpos : Pos} (hbase : attributeBase a "values" X.env (eval a X.env) = eval a X.env := by rfl) (hline : (apos.endLine == cpos.line) = true := by rfl) : PI X tg (.Call (.Attribute a "values" apos) [] [] cpos) (liftI B W (wItK valsD we)) :=
  weakI (pi_values he hbase hline) (by
  rintro σ H Q ⟨F, t, e, Qd, Ed, S, eo, hw, hq⟩
  refine ⟨F, t, e, _, Ed, S, eo, hw, fun v H1 F1 t1 e1 d S1 L1 r1 q1 => ?_⟩
  cases d with
  | dk l =>
    rw [rep_dk] at r1
    obtain ⟨c, od, vs, rfl, h1, r⟩ := r1
    refine ⟨c, od, vs, rfl, S1.sub _ _ h1, hq _ H1 F1 t1 e1 _ S1 L1 ?_ q1⟩
    intro F' t' e' σ' H' i S' L'
    have h2 := S'.sub _ _ (L' _ _ h1)
    rw [List.length_map, ← repK_len r]
    refine ⟨fun hi => ⟨h2, hi⟩, fun hi => ⟨h2, hi⟩, fun d x H2 hd hy => ?_⟩
    obtain ⟨rfl, k, hk⟩ := hy
    obtain ⟨d', e', r'⟩ := repK_get r hk
    rw [List.getElem?_map, e'] at hd
    cases hd
    exact ⟨F', S', .refl, r'.mono L'⟩
  | _ => exact q1.elim)
def itemsD (d : D) (k : List D → Prop) : Prop := match d with
  | .dk l => k (l.map fun p => .tup [keyD p.1, p.2])
  | _ => False
theorem di_items {elts : List Expr} {kk : Nat} {tpos : Pos} (he : PE X a (liftE B W we)) {apos cpos : Pos} (hbase : attributeBase a "items" X.env (eval a X.env) = eval a X.env := by rfl) (hline : (apos.endLine == cpos.line) = true := by rfl) :
    PI X (.Tuple elts kk tpos) (.Call (.Attribute a "items" apos) [] [] cpos) (liftI B W (wItK itemsD we)) := weakI (pi_items he hbase hline) (by
  rintro σ H Q ⟨F, t, e, Qd, Ed, S, eo, hw, hq⟩
  refine ⟨F, t, e, _, Ed, S, eo, hw, fun v H1 F1 t1 e1 d S1 L1 r1 q1 => ?_⟩
  cases d with
  | dk l =>
    rw [rep_dk] at r1
    obtain ⟨c, od, vs, rfl, h1, r⟩ := r1
    refine ⟨c, od, vs, rfl, S1.sub _ _ h1, hq _ H1 F1 t1 e1 _ S1 L1 ?_ q1⟩
    intro F' t' e' σ' H' i S' L'
    have h2 := S'.sub _ _ (L' _ _ h1)
    rw [List.length_map, ← repK_len r]
    refine ⟨fun hi => ⟨h2, hi⟩, fun hi => ⟨h2, hi⟩, fun d x H2 hd hy => ?_⟩
    obtain ⟨T, k, v, hk, rfl, hT, rfl⟩ := hy
    obtain ⟨d', e', r'⟩ := repK_get r hk
    rw [List.getElem?_map, e'] at hd
    cases hd
    obtain ⟨S2, L2', r2⟩ := S'.newTup (l := [keyD k, d']) hT (.cons (rep_key k) (.cons (r'.mono L') .nil))
    exact ⟨_, S2, L2', r2⟩
  | _ => exact q1.elim)
end

/-! for, while -/
section
variable {Th : Type} {B : Bs Th} {W : WX} {X : Cx} {pos : Pos} {tg iter : Expr} {body : List Stmt} {wi : WA Th} {g : WG Th} {wb : WS Th}
def wForL (g : WG Th) (b : WS Th) (n : En Th) : List D → Ev → Th → Prop
  | [], e, t => n.nx e t
  | d :: l, e, t => g d e t fun e1 t1 => b { n with nx := wForL g b n l, ct := wForL g b n l, bk := n.nx } e1 t1
def wFor (wi : WA Th) (g : WG Th) (b : WS Th) : WS Th := fun n e t => wi e t (fun items e1 t1 => wForL g b n items e1 t1) n.ex
theorem ds_for (hp : PassesOwn (model X.prog X.w) X.A X.env X.xe) (hi : PI X tg iter (liftI B W wi)) (hg : PG X tg (liftG B g)) (hb : PSs X body (liftS B W wb)) (hc : X.calm = true := by rfl) (hs : ∀ x, foldedSetIterable iter X.env x = pure x := by intro _; rfl) :
    PS X (.For tg iter body [] pos) (liftS B W (wFor wi g wb)) := weakS (ps_for hp hc hi hg hb hs) (by
  rintro n σ H ⟨F, t, e, m, S, eo, hw, h1, h2, h3, h4⟩
  refine ⟨F, t, e, _, m.ex, S, eo σ, hw, fun J H1 F1 t1 e1 items S1 L1 ok q1 => ?_⟩
  refine ⟨fun i k σ H => k = items.length - i ∧ i ≤ items.length ∧ ∃ F t e, SR B F t e σ H ∧ L2.Same F1 F ∧ wForL g wb m (items.drop i) e t, ⟨_, rfl, Nat.zero_le _, F1, t1, e1, S1, .refl F1, by simpa using q1⟩, ?_⟩
  rintro i k σ2 H2 ⟨rfl, hi, F2, t2, e2, S2, L2', q2⟩
  obtain ⟨ok1, ok2, ok3⟩ := ok F2 t2 e2 σ2 H2 i S2 L2'
  by_cases hlt : i < items.length
  · refine .inr ⟨ok1 hlt, fun σ3 H3 => ∃ F t e, SR B F t e σ3 H3 ∧ L2.Same F1 F ∧ wForL g wb m (items.drop (i + 1)) e t, fun σ3 H3 ⟨F3, t3, e3, S3, L3, q3⟩ => ⟨items.length - (i + 1), by omega, rfl, hlt, F3, t3, e3, S3, L3, q3⟩, fun x H3 hy => ?_⟩
    obtain ⟨F3, S3, L3, r3⟩ := ok3 _ x H3 (List.getElem?_eq_getElem hlt) hy
    rw [List.drop_eq_getElem_cons hlt] at q2
    refine ⟨F3, t2, e2, _, _, S3, r3, q2, fun σ4 H4 F4 t4 e4 S4 L4 q4 => ?_⟩
    have L14 : L2.Same F1 F4 := L2'.trans (L3.le.trans L4)
    refine ⟨F4, t4, e4, { m with nx := wForL g wb m (items.drop (i + 1)), ct := wForL g wb m (items.drop (i + 1)), bk := m.nx }, S4, eo, q4, fun σ5 H5 F5 t5 e5 S5 L5 q5 => ⟨F5, t5, e5, S5, L14.trans L5, q5⟩, fun v H5 F5 t5 r A L5 q5 => h2 v H5 F5 t5 r A (L1.le.trans (L14.trans L5)) q5,
      fun σ5 H5 F5 t5 e5 S5 L5 q5 => h1 σ5 H5 F5 t5 e5 S5 (L1.le.trans (L14.trans L5)) q5, fun σ5 H5 F5 t5 e5 S5 L5 q5 => ⟨F5, t5, e5, S5, L14.trans L5, q5⟩⟩
  · have ei : i = items.length := by omega
    subst ei
    rw [List.drop_length] at q2
    exact .inl ⟨ok2 (Nat.le_refl _), h1 σ2 H2 F2 t2 e2 S2 (L1.le.trans L2') q2⟩)
def wWhile (tc : WT Th) (b : WS Th) : WS Th := fun n e t => ∃ I : Nat → Ev → Th → Prop, (∃ k, I k e t) ∧ ∀ k e t, I k e t →
  tc e t (fun c e1 t1 => if c = true then b { n with nx := fun e2 t2 => ∃ k', k' < k ∧ I k' e2 t2, ct := fun e2 t2 => ∃ k', k' < k ∧ I k' e2 t2, bk := n.nx } e1 t1 else n.nx e1 t1) n.ex
theorem ds_while {c : Expr} {tc : WT Th} (hp : PassesOwn (model X.prog X.w) X.A X.env X.xe) (hc : PT X c (liftT B W tc)) (hb : PSs X body (liftS B W wb)) : PS X (.While c body [] pos) (liftS B W (wWhile tc wb)) := weakS (ps_while hp hc hb) (by
  rintro n σ H ⟨F, t, e, m, S, eo, ⟨I, ⟨k0, i0⟩, hI⟩, h1, h2, h3, h4⟩
  refine ⟨fun k σ H => ∃ F' t e, SR B F' t e σ H ∧ L2.Same F F' ∧ I k e t, ⟨k0, F, t, e, S, .refl F, i0⟩, ?_⟩
  rintro k σ2 H2 ⟨F2, t2, e2, S2, L2', i2⟩
  refine ⟨F2, t2, e2, _, m.ex, S2, eo σ2, hI k e2 t2 i2, fun b H3 F3 t3 e3 S3 L3 q3 => ?_⟩
  have L13 := L2'.trans L3.le
  cases b with
  | true =>
    dsimp only
    rw [if_pos rfl]
    rw [if_pos rfl] at q3
    refine ⟨fun σ4 H4 => ∃ k', k' < k ∧ ∃ F4 t4 e4, SR B F4 t4 e4 σ4 H4 ∧ L2.Same F F4 ∧ I k' e4 t4, fun _ _ h => h, F3, t3, e3, { m with nx := fun e2 t2 => ∃ k', k' < k ∧ I k' e2 t2, ct := fun e2 t2 => ∃ k', k' < k ∧ I k' e2 t2, bk := m.nx }, S3, eo, q3, ?_, ?_, ?_, ?_⟩
    · rintro σ4 H4 F4 t4 e4 S4 L4 ⟨k', hk, q4⟩
      exact ⟨k', hk, F4, t4, e4, S4, L13.trans L4, q4⟩
    · exact fun v H5 F5 t5 r A L5 q5 => h2 v H5 F5 t5 r A (L13.trans L5) q5
    · exact fun σ5 H5 F5 t5 e5 S5 L5 q5 => h1 σ5 H5 F5 t5 e5 S5 (L13.trans L5) q5
    · rintro σ4 H4 F4 t4 e4 S4 L4 ⟨k', hk, q4⟩
      exact ⟨k', hk, F4, t4, e4, S4, L13.trans L4, q4⟩
  | false =>
    dsimp only
    rw [if_neg Bool.false_ne_true]
    rw [if_neg Bool.false_ne_true] at q3
    exact h1 σ2 H3 F3 t3 e3 S3 L13 q3)
end
end VL

set_option Elab.async false
set_option linter.all false
set_option maxRecDepth 100000
set_option maxHeartbeats 1000000
namespace VL
open PySem PySem.Spec PyProof.Rows L2

def wipeE (e : Ev) : List Nat → Ev
  | [] => e
  | v :: vs => (wipeE e vs).set v .un
theorem wipeE_get {e : Ev} {i : Nat} {x : Sl} : ∀ {vs : List Nat}, (wipeE e vs)[i]? = some x → (x = .un) ∨ (i ∉ vs ∧ e[i]? = some x)
  | [], h => .inr ⟨by simp, h⟩
  | v :: vs, h => by
    unfold wipeE at h
    rw [List.getElem?_set] at h
    by_cases hv : v = i
    · rw [if_pos hv] at h
      split at h
      · cases h; exact .inl rfl
      · cases h
    · rw [if_neg hv] at h
      rcases wipeE_get h with q | ⟨q, r⟩
      · exact .inl q
      · exact .inr ⟨fun m => (List.mem_cons.mp m).elim (fun z => hv z.symm) q, r⟩
theorem wipeE_length (e : Ev) : ∀ vs : List Nat, (wipeE e vs).length = e.length
  | [] => rfl
  | v :: vs => by unfold wipeE; rw [List.length_set, wipeE_length e vs]
section
variable {Th : Type} {B : Bs Th} {F F1 F2 H H1 H2 : Hp} {t t1 t2 : Th} {e e1 e2 : Ev} {σ σ2 : L2.St} {vs : List Nat}
theorem SR.wipe (S : SR B F t e σ H) : ∀ vs : List Nat, SR B F t (wipeE e vs) (L2.wipe σ vs) H
  | [] => S
  | v :: vs => (S.wipe vs).forget v none
theorem SR.unwipe (S : SR B F t e σ2 H) (h : L2.wipe σ2 vs = L2.wipe σ vs) : SR B F t (wipeE e vs) σ H := by
  have hl : σ2.length = σ.length := by
    have := congrArg List.length h
    rwa [wipe_length, wipe_length] at this
  have at_ : ∀ i : Nat, i ∉ vs → σ2[i]? = σ[i]? := fun i hi => by
    rw [← wipe_out (σ := σ2) hi, h, wipe_out hi]
  refine ⟨S.af, by rw [wipeE_length, S.len, hl], fun i d q => ?_, fun i d q => ?_, fun i j d d' a q1 q2 r1 r2 => ?_⟩
  · rcases wipeE_get q with z | ⟨z, q⟩
    · cases z
    · rw [← at_ i z]; exact S.sh i d q
  · rcases wipeE_get q with z | ⟨z, q⟩
    · cases z
    · rw [← at_ i z]; exact S.ow i d q
  · rcases wipeE_get q1 with z | ⟨z, q1⟩
    · cases z
    · rcases wipeE_get q2 with z' | ⟨z', q2⟩
      · cases z'
      · rw [← at_ i z] at r1; rw [← at_ j z'] at r2
        exact S.sep i j d d' a q1 q2 r1 r2
theorem inSl_wipe {c : Addr} (h : InSl (wipeE e vs) (L2.wipe σ vs) c) : InSl e σ c := by
  obtain ⟨i, d, h1, h2⟩ := h
  rcases wipeE_get h1 with z | ⟨z, h1⟩
  · cases z
  · rw [wipe_out z] at h2; exact ⟨i, d, h1, h2⟩
theorem inSl_unwipe {c : Addr} (hw : L2.wipe σ2 vs = L2.wipe σ vs) (h : InSl (wipeE e vs) σ c) : InSl e σ2 c := by
  obtain ⟨i, d, h1, h2⟩ := h
  rcases wipeE_get h1 with z | ⟨z, h1⟩
  · cases z
  · refine ⟨i, d, h1, ?_⟩
    rw [← wipe_out (σ := σ2) z, hw, wipe_out z]; exact h2
/-- a way at other slots: a comprehension's turn -/
theorem Stp.turn (x : Stp B σ2 F t e1 H F2 t2 e2 H2) (hw : L2.wipe σ2 vs = L2.wipe σ vs) (hs : ∀ c, InSl e1 σ2 c → InSl e σ c) : Stp B σ F t e H F2 t2 (wipeE e2 vs) H2 :=
  ⟨x.le, x.there, fun c h => hs c (x.own c (inSl_unwipe hw h)), fun a o h1 nt h2 h3 h4 => x.keep a o h1 nt h2 h3 fun z => h4 (hs a z)⟩
end

/-! targets that a comprehension stores: its own names alone -/
def liftN {Th : Type} (B : Bs Th) (vs : List Nat) (g : WG Th) : TG := fun v σ H Q => ∃ (F : Hp) (t : Th) (e : Ev) (d : D) (Qd : Ev → Th → Prop), SR B F t e σ H ∧ Rep B.K F d v ∧ g d e t Qd ∧
  ∀ σ' e', SR B F t e' σ' H → L2.wipe σ' vs = L2.wipe σ vs → (∀ c, InSl e' σ' c → InSl e σ c) → Qd e' t → Q σ' H
def liftNs {Th : Type} (B : Bs Th) (vs : List Nat) (g : WGs Th) : TGs := fun us σ H Q => ∃ (F : Hp) (t : Th) (e : Ev) (ds : List D) (Qd : Ev → Th → Prop), SR B F t e σ H ∧ RepL B.K F ds us ∧ g ds e t Qd ∧
  ∀ σ' e', SR B F t e' σ' H → L2.wipe σ' vs = L2.wipe σ vs → (∀ c, InSl e' σ' c → InSl e σ c) → Qd e' t → Q σ' H
theorem wipe_set {σ : L2.St} {i : Nat} {x : Option V} : ∀ {vs : List Nat}, i ∈ vs → L2.wipe (σ.set i x) vs = L2.wipe σ vs
  | [], h => by simp at h
  | v :: vs, h => by
    unfold L2.wipe
    by_cases hv : i ∈ vs
    · rw [wipe_set hv]
    · have e : i = v := (List.mem_cons.mp h).resolve_right hv
      subst e
      have key : ∀ vs : List Nat, i ∉ vs → L2.wipe (σ.set i x) vs = (L2.wipe σ vs).set i x := by
        intro vs
        induction vs with
        | nil => intro _; rfl
        | cons w ws ih =>
          intro h
          have h1 : w ≠ i := fun e => h (by rw [e]; exact List.mem_cons_self)
          have h2 : i ∉ ws := fun m => h (List.mem_cons_of_mem _ m)
          unfold L2.wipe
          rw [ih h2, List.set_comm _ _ (Ne.symm h1)]
      rw [key vs hv, List.set_set]
section
variable {Th : Type} {B : Bs Th} {X : Cx} {vs : List Nat} {pos : Pos}
theorem dn_name {i : Nat} {x : Str} (hN : X.N.Nodup) (hi : X.N[i]? = some x := by rfl) (hm : i ∈ vs := by decide) (hx : Loc X.env.scope x := by first | exact Or.inl rfl | exact Or.inr rfl) (hf : X.fn x = true ∨ X.env.scope.names.lookup x = some .local := by first | exact .inl rfl | exact .inr rfl | assumption) :
    PG X (.Name x pos) (liftN B vs (wGname i)) := weakG (pg_name hN hi hx hf) (by
  rintro v σ H Q ⟨F, t, e, d, Qd, S, r, hw, hq⟩
  refine hq _ _ (S.setSh r i) (wipe_set hm) (fun c h => ?_) hw
  obtain ⟨j, d', h1, h2⟩ := h
  rw [List.getElem?_set] at h1 h2
  by_cases hij : i = j
  · subst hij
    rw [if_pos rfl] at h1
    split at h1 <;> cases h1
  · rw [if_neg hij] at h1 h2; exact ⟨j, d', h1, h2⟩)
theorem dns_nil : PGs X [] (liftNs B vs wGnil) := weakGs pgs_nil (by
  rintro v σ H Q ⟨F, t, e, d, Qd, S, r, ⟨rfl, hw⟩, hq⟩
  unfold RepL at r
  exact ⟨r, hq σ e S rfl (fun _ h => h) hw⟩)
theorem dns_cons {tg : Expr} {es : List Expr} {g : WG Th} {gs : WGs Th} (h1 : PG X tg (liftN B vs g)) (h2 : PGs X es (liftNs B vs gs)) (hs : (assignEach (tg :: es) X.env).map (·.2) = assign tg X.env :: (assignEach es X.env).map (·.2) := by rfl) : PGs X (tg :: es) (liftNs B vs (wGcons g gs)) :=
  weakGs (pgs_cons h1 h2 hs) (by
  rintro v σ H Q ⟨F, t, e, ds, Qd, S, r, hw, hq⟩
  cases ds with
  | nil => exact hw.elim
  | cons d l =>
    unfold RepL at r
    obtain ⟨x, r', rfl, r1, r2⟩ := r
    refine ⟨x, r', rfl, F, t, e, d, _, S, r1, hw, fun σ1 e1 S1 w1 i1 q1 => ?_⟩
    exact ⟨F, t, e1, l, Qd, S1, r2, q1, fun σ2 e2 S2 w2 i2 q2 => hq σ2 e2 S2 (w2.trans w1) (fun c h => i1 c (i2 c h)) q2⟩)
theorem dn_tup {es : List Expr} {k n : Nat} {gs : WGs Th} (hK : B.K = X.K) (hc : X.calm = true) (h : PGs X es (liftNs B vs gs)) (hn : (assignEach es X.env).length = n := by rfl) (hst : (assignEach es X.env).findIdx? (·.1) = none := by rfl) : PG X (.Tuple es k pos) (liftN B vs (wGtup n gs)) :=
  weakG (pg_tup hc h hn hst) (by
  rintro v σ H Q ⟨F, t, e, d, Qd, S, r, hw, hq⟩
  cases d with
  | tup l =>
    rw [rep_tup] at r
    obtain ⟨a, vs, rfl, q, r⟩ := r
    refine ⟨a, vs, rfl, by rw [← hK]; exact SqT.of (S.sub _ _ q), by rw [r.length]; exact hw.1, F, t, e, l, Qd, S, r, hw.2, hq⟩
  | _ => exact hw.elim)
end

/-! comprehensions -/
def noX {Th : Type} : KX Th := fun _ _ _ => False
abbrev NX : WX := fun _ _ _ _ => False
theorem eok_no {Th : Type} {B : Bs Th} {σ : L2.St} : EOK B NX σ (noX (Th := Th)) := fun _ _ _ _ _ _ _ _ _ h => h
def wYes {Th : Type} : WT Th := fun e t Q _ => Q true e t
section
variable {Th : Type} {B : Bs Th} {W : WX} {X : Cx} {pos : Pos}
theorem dts_nil {W : WX} : PTs X [] (liftT B W wYes) := ⟨fun pins s σ H Q I h => (pts_nil (X := X)).run pins s σ H Q I (by
  obtain ⟨F, t, e, Qd, Ed, S, eo, hw, hq⟩ := h
  exact hq true H F t e S .refl hw)⟩
theorem dts_one {W : WX} {c : Expr} {tc : WT Th} (h : PT X c (liftT B W tc)) : PTs X [c] (liftT B W tc) := pts_one h
def wLcL (g : WG Th) (tt : WT Th) (we : WE Th) (vs : List Nat) : List D → List D → Ev → Th → (List D → Ev → Th → Prop) → Prop
  | [], acc, e, t, Q => Q acc e t
  | d :: l, acc, e, t, Q => g d (wipeE e vs) t fun e1 t1 => tt e1 t1 (fun b e2 t2 => if b = true then we e2 t2 (fun y e3 t3 => acc.length < sizeLine ∧ wLcL g tt we vs l (acc ++ [y]) (wipeE e3 vs) t3 Q) noX else wLcL g tt we vs l acc (wipeE e2 vs) t2 Q) noX
def wLc (wi : WA Th) (g : WG Th) (tt : WT Th) (we : WE Th) (vs : List Nat) : WR Th := fun e t Q E => wi e t (fun items e1 t1 => wLcL g tt we vs items [] e1 t1 fun l e2 t2 => Q (.ow (.lst l)) e2 t2) E
/-- what is private at D -/
structure Priv (B : Bs Th) (F : Hp) (t : Th) (e : Ev) (σ : L2.St) (D : Addr) : Prop where
  f : F D = none
  z : B.H0 D = none
  p : D ∉ B.M.fp t
  s : ¬ InSl e σ D
theorem liftLc {wi : WA Th} {g : WG Th} {tt : WT Th} {we : WE Th} {vs : List Nat} : ∀ σ H Q, liftR B W (wLc wi g tt we vs) σ H Q → tLc (liftI B W wi) (liftN B vs g) (liftT B NX tt) (liftE B NX we) vs σ H Q := by
  rintro σ H Q ⟨F, t, e, Qd, Ed, S, eo, hw, hq⟩
  refine ⟨F, t, e, _, Ed, S, eo, hw, fun J H1 F1 t1 e1 items S1 L1 ok q1 D hD => ?_⟩
  have D1 : Priv B F1 t1 e1 σ D := ⟨S1.sub.free hD, S1.out hD, S1.nfp hD, fun ⟨i, d, h1, h2⟩ => S1.nslot hD i d h1 h2⟩
  refine ⟨fun i k Hx => k = items.length - i ∧ i ≤ items.length ∧ ∃ Fx tx ex acc us, SR B Fx tx ex σ Hx ∧ L2.Same F1 Fx ∧ Stp B σ F t e H Fx tx ex Hx ∧ Hx D = some (.lst us) ∧ RepL B.K Fx acc us ∧ Priv B Fx tx ex σ D ∧
    wLcL g tt we vs (items.drop i) acc ex tx (fun l e2 t2 => Qd (.ow (.lst l)) e2 t2), ⟨_, rfl, Nat.zero_le _, F1, t1, e1, [], [], S1.loose hD, .refl F1, L1.trans (.loose hD), upd_same, .nil, D1, by simpa using q1⟩, ?_⟩
  rintro i k Hx ⟨rfl, hi, Fx, tx, ex, acc, us, Sx, Lx, Tx, hDx, rx, Px, qx⟩
  obtain ⟨ok1, ok2, ok3⟩ := ok Fx tx ex σ Hx i Sx Lx
  have nD : H D = none := L1.old hD
  by_cases hlt : i < items.length
  · refine .inr ⟨ok1 hlt, fun Hy => ∃ Fx tx ex acc us, SR B Fx tx ex σ Hy ∧ L2.Same F1 Fx ∧ Stp B σ F t e H Fx tx ex Hy ∧ Hy D = some (.lst us) ∧ RepL B.K Fx acc us ∧ Priv B Fx tx ex σ D ∧
      wLcL g tt we vs (items.drop (i + 1)) acc ex tx (fun l e2 t2 => Qd (.ow (.lst l)) e2 t2), fun Hy h => ⟨items.length - (i + 1), by omega, rfl, hlt, h⟩, fun x H3 hy => ?_⟩
    obtain ⟨F3, S3, T3, r3⟩ := ok3 _ x H3 (List.getElem?_eq_getElem hlt) hy
    rw [List.drop_eq_getElem_cons hlt] at qx
    have h3D := T3.keep D _ hDx (fun _ z => by cases z) Px.f Px.p Px.s
    refine ⟨F3, tx, wipeE ex vs, _, _, S3.wipe vs, r3, qx, fun σ4 e4 S4 w4 i4 q4 => ?_⟩
    have w4' : L2.wipe σ4 vs = L2.wipe σ vs := by
      rw [w4]
      have key : ∀ ws : List Nat, (∀ v ∈ ws, v ∈ vs) → L2.wipe (L2.wipe σ vs) ws = L2.wipe σ vs := by
        intro ws
        induction ws with
        | nil => intro _; rfl
        | cons v ws ih =>
          intro h
          show (L2.wipe (L2.wipe σ vs) ws).set v none = _
          rw [ih fun u hu => h u (List.mem_cons_of_mem _ hu)]
          have hv := h v List.mem_cons_self
          have key2 : ∀ zs : List Nat, v ∈ zs → (L2.wipe σ zs).set v none = L2.wipe σ zs := by
            intro zs
            induction zs with
            | nil => intro h; simp at h
            | cons z zs ih2 =>
              intro h
              unfold L2.wipe
              by_cases hz : z = v
              · subst hz; rw [List.set_set]
              · have := (List.mem_cons.mp h).resolve_left fun e => hz e.symm
                rw [List.set_comm _ _ hz, ih2 this]
          exact key2 vs hv
      exact key vs fun _ h => h
    have i4' : ∀ c, InSl e4 σ4 c → InSl ex σ c := fun c h => inSl_wipe (i4 c h)
    have P4 : Priv B F3 tx e4 σ4 D := ⟨h3D.2.1, Px.z, Px.p, fun z => Px.s (i4' D z)⟩
    refine ⟨w4', F3, tx, e4, _, noX, S4, eok_no, q4, fun b H5 F5 t5 e5 S5 T5 q5 => ?_⟩
    have h5D := T5.keep D _ h3D.1 (fun _ z => by cases z) P4.f P4.p P4.s
    cases b with
    | true =>
      dsimp only at q5 ⊢
      rw [if_pos rfl] at q5 ⊢
      refine ⟨F5, t5, e5, _, noX, S5, eok_no, q5, fun y H6 F6 t6 e6 d6 S6 T6 r6 q6 => ?_⟩
      have s5 : ¬ InSl e5 σ4 D := fun z => P4.s (T5.own D z)
      have h6D := T6.keep D _ h5D.1 (fun _ z => by cases z) h5D.2.1 h5D.2.2 s5
      have s6 : ¬ InSl (wipeE e6 vs) σ D := fun z => s5 (T6.own D (inSl_unwipe w4' z))
      have T46 : Stp B σ Fx tx ex Hx F6 t6 (wipeE e6 vs) H6 := T3.trans ((T5.trans T6).turn w4' i4')
      have le6 : L2.Same Fx F6 := T46.le
      have S6' := S6.unwipe w4'
      refine ⟨us, h6D.1, by rw [rx.length]; exact q6.1, F6, t6, wipeE e6 vs, acc ++ [d6], us ++ [y], ?_, Lx.trans le6, ?_, upd_same, (rx.mono le6).append (.cons r6 .nil), ⟨h6D.2.1, Px.z, h6D.2.2, s6⟩, q6.2⟩
      · exact S6'.write Px.z h6D.2.2 h6D.2.1 (fun b hb => upd_ne hb) (fun _ _ => rfl) (fun o z => by rw [h6D.2.1] at z; cases z) ⟨_, upd_same⟩ fun j d' h1 h2 => s6 ⟨j, d', h1, h2⟩
      · exact (Tx.trans T46).at_ (.inl nD) (fun b hb => upd_ne hb) (fun _ _ => rfl) h6D.2.1 ⟨_, upd_same⟩ fun _ z => z
    | false =>
      dsimp only at q5 ⊢
      rw [if_neg Bool.false_ne_true] at q5 ⊢
      have s5 : ¬ InSl (wipeE e5 vs) σ D := fun z => P4.s (T5.own D (inSl_unwipe w4' z))
      have T45 : Stp B σ Fx tx ex Hx F5 t5 (wipeE e5 vs) H5 := T3.trans (T5.turn w4' i4')
      exact ⟨F5, t5, wipeE e5 vs, acc, us, S5.unwipe w4', Lx.trans T45.le, Tx.trans T45, h5D.1, rx.mono T45.le, ⟨h5D.2.1, Px.z, h5D.2.2, s5⟩, q5⟩
  · have ei : i = items.length := by omega
    subst ei
    rw [List.drop_length] at qx
    refine .inl ⟨ok2 (Nat.le_refl _), hq _ Hx Fx tx ex (.ow (.lst acc)) Sx Tx ?_ ?_ qx⟩
    · exact ⟨D, rfl, ⟨Px.f, us, hDx, rx⟩, Px.z, Px.p, fun j d' h1 h2 => Px.s ⟨j, d', h1, h2⟩⟩
    · exact newR_none nD
theorem dr_lc {elt tg iter : Expr} {ifs : List Expr} {scope : Scope} {own : List (Str × Nat)} {wi : WA Th} {g : WG Th} {tt : WT Th} {we : WE Th} (hN : X.N.Nodup) (hi : PI X tg iter (liftI B W wi)) (ok : BlkOk X.N X.env.scope scope own)
    (hg : ∀ (s : Shared) (H : Hp) (C : Addr) (cl : List (Str × Addr)) (fp : List Addr), PG (X.blk s H scope (compEnvC scope cl C X.env) fp) tg (liftN B (own.map (·.2)) g))
    (ht : ∀ (s : Shared) (H : Hp) (C : Addr) (cl : List (Str × Addr)) (fp : List Addr), PTs (X.blk s H scope (compEnvC scope cl C X.env) fp) ifs (liftT B NX tt))
    (he : ∀ (s : Shared) (H : Hp) (C : Addr) (cl : List (Str × Addr)) (fp : List Addr), PE (X.blk s H scope (compEnvC scope cl C X.env) fp) elt (liftE B NX we)) (hc : X.calm = true := by rfl) (hs : ∀ x, foldedSetIterable iter X.env x = pure x := by intro _; rfl) :
    PE X (.ListComp elt [⟨tg, iter, ifs, 0⟩] scope pos) (liftR B W (wLc wi g tt we (own.map (·.2)))) := weakE (pe_lc hc hN hi ok hg ht he hs) liftLc
/-- name = [..] on one line -/
theorem ds_setLc {i : Nat} {y : Str} {py spos : Pos} {elt tg iter : Expr} {ifs : List Expr} {scope : Scope} {own : List (Str × Nat)} {wi : WA Th} {g : WG Th} {tt : WT Th} {we : WE Th} (hN : X.N.Nodup) (hi : PI X tg iter (liftI B W wi)) (ok : BlkOk X.N X.env.scope scope own)
    (hg : ∀ (s : Shared) (H : Hp) (C : Addr) (cl : List (Str × Addr)) (fp : List Addr), PG (X.blk s H scope (compEnvC scope cl C X.env) fp) tg (liftN B (own.map (·.2)) g))
    (ht : ∀ (s : Shared) (H : Hp) (C : Addr) (cl : List (Str × Addr)) (fp : List Addr), PTs (X.blk s H scope (compEnvC scope cl C X.env) fp) ifs (liftT B NX tt))
    (he : ∀ (s : Shared) (H : Hp) (C : Addr) (cl : List (Str × Addr)) (fp : List Addr), PE (X.blk s H scope (compEnvC scope cl C X.env) fp) elt (liftE B NX we))
    (hsw : swapsWith (.ListComp elt [⟨tg, iter, ifs, 0⟩] scope pos) (some (.Name y py)) spos.line X.env = pure true) (hy : X.N[i]? = some y := by rfl) (hyl : X.env.scope.names.lookup y = some .local := by rfl) (hc : X.calm = true := by rfl) (hs : ∀ x, foldedSetIterable iter X.env x = pure x := by intro _; rfl) :
    PS X (.Assign [.Name y py] (.ListComp elt [⟨tg, iter, ifs, 0⟩] scope pos) spos) (liftS B W (wSet i (wLc wi g tt we (own.map (·.2))))) := weakS (ps_setLc hc hN hy hyl hsw hi ok hg ht he hs) (lift_set i liftLc)
end
end VL

set_option Elab.async false
set_option linter.all false
set_option maxRecDepth 100000
set_option maxHeartbeats 1000000
namespace VL
open PySem PySem.Spec PyProof.Rows L2

/-! contracts -/
abbrev Ct (Th : Type) := List D → Th → (R → Th → Prop) → (Xn → Th → Prop) → Prop
abbrev Cp := List D → (R → Prop) → (Xn → Prop) → Prop
def RetA {Th : Type} (K : PySem.W.Frag) (M : Wd Th) (F : Hp) (t : Th) (H0 H : Hp) : R → V → Prop
  | .sh d, v => Rep K F d v
  | .ow d, v => ∃ a, v = .ref a ∧ Own K F H a d ∧ H0 a = none ∧ a ∉ M.fp t
def spD {Th : Type} (K : PySem.W.Frag) (M : Wd Th) (c : Ct Th) : Sp := fun vs H Q E => ∃ (F : Hp) (t : Th) (ds : List D) (Qc : R → Th → Prop) (Ec : Xn → Th → Prop), L2.Same F H ∧ M.J t F H ∧ (∀ a ∈ M.fp t, F a = none ∧ ∃ o, H a = some o ∧ NT o) ∧ RepL K F ds vs ∧ c ds t Qc Ec ∧
  (∀ v H' F' t' r, After M F t H F' t' H' → RetA K M F' t' H H' r v → Qc r t' → Q v H') ∧
  (∀ cls d H' F' t' x, After M F t H F' t' H' → RepX K F' x cls d → Ec x t' → E cls d H')
def M0 : Wd Unit := ⟨fun _ => [], fun _ _ _ => True, fun _ _ _ => trivial⟩
def upC (c : Cp) : Ct Unit := fun ds _ Q E => c ds (fun r => Q r ()) fun x => E x ()
def liftC {Th : Type} (c : Cp) : Ct Th := fun ds t Q E => c ds (fun r => Q r t) fun x => E x t
def spP (K : PySem.W.Frag) (c : Cp) : Sp := spD K M0 (upC c)

section
variable {Th : Type} {K : PySem.W.Frag} {M : Wd Th} {F F' H H' : Hp} {t : Th}
theorem After.pure (a : After M0 F () H F' () H') (j : M.J t F H) (h : ∀ a ∈ M.fp t, F a = none ∧ ∃ o, H a = some o ∧ NT o) : After M F t H F' t H' where
  le := a.le
  sub := a.sub
  new := a.new
  same := fun c o _ e => a.same c o (by simp [M0]) e
  there := a.there
  fpn := fun c hc => by
    obtain ⟨n, o, e, nt⟩ := h c hc
    exact ⟨a.new c o e nt n, ⟨o, a.same c o (by simp [M0]) e, nt⟩, .inl hc⟩
  j := M.stab j a.le fun z hz => by
    obtain ⟨n, o, e, nt⟩ := h z hz
    rw [e]
    exact a.same z o (by simp [M0]) e
theorem spP_of {c : Cp} {vs : List V} {H : Hp} {Q : VK} {E : XK} (h : spD K M (liftC c) vs H Q E) : spP K c vs H Q E := by
  obtain ⟨F, t, ds, Qc, Ec, s, j, hf, r, hc, hq, he⟩ := h
  refine ⟨F, (), ds, fun r _ => Qc r t, fun x _ => Ec x t, s, trivial, fun a ha => absurd ha (by simp [M0]), r, hc, fun v H' F' _ r a ra q => ?_, fun cls d H' F' _ x a ra q => ?_⟩
  · refine hq v H' F' t r (a.pure j hf) ?_ q
    cases r with
    | sh d => exact ra
    | ow d =>
      obtain ⟨b, e1, o, h0, _⟩ := ra
      refine ⟨b, e1, o, h0, fun hm => ?_⟩
      obtain ⟨_, ob, eb, _⟩ := hf b hm
      rw [h0] at eb; cases eb
  · exact he cls d H' F' t x (a.pure j hf) ra q
end

/-! calls -/
section
variable {Th : Type} {B : Bs Th} {W : WX} {X : Cx} {k : Nat} {f C : Addr} {fd : FuncData} {ps : List Str} {c : Ct Th} {c0 : Cp} {x m : Str} {p pos apos : Pos} {a o : Expr} {es : List Expr} {ws : WA Th} {wo : WE Th}
def wCall (c : Ct Th) (ws : WA Th) : WR Th := fun e t Q E => ws e t (fun ds e1 t1 => c ds t1 (fun r t2 => Q r e1 t2) fun x t2 => E x e1 t2) E
theorem RetA.rep {F F' H H' : Hp} {t t' : Th} {e : Ev} {σ : L2.St} {r : R} {v : V} (S : SR B F t e σ H) (af : After B.M F t H F' t' H') (h : RetA B.K B.M F' t' H H' r v) : RepR B F' t' e σ H' r v ∧ NewR σ e H r v := by
  cases r with
  | sh d => exact ⟨h, trivial⟩
  | ow d =>
    obtain ⟨b, rfl, o, h0, hf⟩ := h
    exact ⟨⟨b, rfl, o, S.out h0, hf, S.nslot h0⟩, fun b' eb => by cases eb; exact .inl h0⟩
theorem SR.fps {F H : Hp} {t : Th} {e : Ev} {σ : L2.St} (S : SR B F t e σ H) : ∀ a ∈ B.M.fp t, F a = none ∧ ∃ o, H a = some o ∧ NT o := fun a ha => ⟨(S.af.fpn a ha).1, (S.af.fpn a ha).2.1⟩
/-- the call itself: what the contract asks, given the arguments as data -/
theorem SR.call {F H : Hp} {t : Th} {e : Ev} {σ : L2.St} {ds : List D} {vs : List V} {Q : VK} {Qd : R → Ev → Th → Prop} {Ed : KX Th} (S : SR B F t e σ H) (eo : EOK B W σ Ed) (r : RepL B.K F ds vs) (hc : c ds t (fun r t2 => Qd r e t2) fun x t2 => Ed x e t2)
    (hq : ∀ v H' F' t' r, SR B F' t' e σ H' → Stp B σ F t e H F' t' e H' → RepR B F' t' e σ H' r v → NewR σ e H r v → Qd r e t' → Q v H') : spD B.K B.M c vs H Q (L2.WE W σ) := by
  refine ⟨F, t, ds, _, _, S.sub, S.af.j, S.fps, r, hc, fun v H' F' t' r af ra q => ?_, fun cls d H' F' t' x af ra q => ?_⟩
  · obtain ⟨rr, nr⟩ := ra.rep S af
    exact hq v H' F' t' r (S.after af) (.after af) rr nr q
  · exact eo x F' t' e H' cls d (S.after af) ra q
theorem dr_call (G : FnOk X.prog X.w X.K X.mg X.base (L2.CX X.prog X.w) k f fd ps (spD B.K B.M c)) (hr : Room k X.A) (hm : X.mg x = some (.ref f)) (hk : PySem.W.keepIn X.K (.ref f) = true) (hb : Binds X.K fd ps []) (tk : Takes X W) (ha : PA X (a :: es) (liftA B W ws))
    (hg : Gl X x := by rfl) (hdb : (x == ("__debug__" : Str)) = false := by decide) (he : starEach (a :: es) X.env = (false, eval a X.env) :: starEach es X.env := by rfl) (hpl : (backTo pos (starEach es X.env)).any (·.1) = false := by rfl) :
    PE X (.Call (.Name x p) (a :: es) [] pos) (liftR B W (wCall c ws)) := weakE (pe_callSD (E := L2.WE W) G hr hg hm hk hb .nil (fun σ => passAt tk σ) ha hdb he hpl) (by
  rintro σ H Q ⟨F, t, e, Qd, Ed, S, eo, hw, hq⟩
  refine ⟨F, t, e, _, Ed, S, eo, hw, fun vs H1 F1 t1 e1 ds S1 L1 r1 q1 => ?_⟩
  dsimp only
  rw [List.append_nil]
  exact S1.call eo r1 q1 fun v H2 F2 t2 r S2 L2 r2 n2 q2 => hq v H2 F2 t2 e1 r S2 (L1.trans L2) r2 (n2.from L1) q2)
theorem dr_callP (G : FnOk X.prog X.w X.K X.mg X.base (L2.CX X.prog X.w) k f fd ps (spP B.K c0)) (hr : Room k X.A) (hm : X.mg x = some (.ref f)) (hk : PySem.W.keepIn X.K (.ref f) = true) (hb : Binds X.K fd ps []) (tk : Takes X W) (ha : PA X (a :: es) (liftA B W ws))
    (hg : Gl X x := by rfl) (hdb : (x == ("__debug__" : Str)) = false := by decide) (he : starEach (a :: es) X.env = (false, eval a X.env) :: starEach es X.env := by rfl) (hpl : (backTo pos (starEach es X.env)).any (·.1) = false := by rfl) :
    PE X (.Call (.Name x p) (a :: es) [] pos) (liftR B W (wCall (liftC c0) ws)) := dr_call (G.imp fun _ _ _ _ h => spP_of h) hr hm hk hb tk ha hg hdb he hpl

/-! methods of frozen instances -/
abbrev MCall (X : Cx) (o : Expr) (m : Str) (apos : Pos) (es : List Expr) (pos : Pos) (pl : Sem Bool) : Prop := eval (.Call (.Attribute o m apos) es [] pos) X.env =
  (do let ov ← eval o X.env; standAt apos.atName; let (g, g1) ← holding [ov] (getMethod ov m pl); callWith pos g g1 (backTo pos (starEach es X.env)) (backToKw pos (keywordEach [] X.env)))
def tMethS (C : Addr) (m : Str) (sp : Sp) (W : WX) (ta : TE) (t : TA) : TE := fun σ H Q => ta σ H fun x H1 => ∃ a dx fs, x = .ref a ∧ H1 a = some (.ins C dx fs) ∧ fs.lookup m = none ∧ t σ H1 fun vs H2 => sp (x :: vs) H2 Q (L2.WE W σ)
theorem pe_methSD {sp : Sp} {ta : TE} {ts : TA} {pl : Sem Bool} (he : PE X o ta) (c : Cls X.K C) (hm : Meth X.K C m f) (G : FnOk X.prog X.w X.K X.mg X.base (L2.CX X.prog X.w) k f fd ps sp) (hr : Room k X.A) (hb : Binds X.K fd ps []) (tk : Takes X W) (ha : PA X (a :: es) ts)
    (hst : starEach (a :: es) X.env = (false, eval a X.env) :: starEach es X.env) (hpl : (backTo pos (starEach es X.env)).any (·.1) = false)
    (ht : MCall X o m apos (a :: es) pos pl) : PE X (.Call (.Attribute o m apos) (a :: es) [] pos) (tMethS C m sp W ta ts) := by
  constructor
  intro pins s σ H Q I h
  refine PySem.W.methodCall_KW (pl := pl) (thn (he.run pins s σ H _ I h) ?_) ht
  rintro u s1 ⟨x, H1, I1, rx, b, dx, fs, rfl, eb, hl, q⟩
  cases rx
  apply getmeth_ok I1 eb c hm hl
  apply PySem.W.callWith_K (first := [.ref b]) (h₀ := X.base) I.ok.mod.kin hm.kp _ hst hpl
  apply thn (ha.run pos pins s1 σ H1 _ I1 q)
  rintro us s2 ⟨vs, H2, I2, r2, q2⟩
  refine ⟨I2.kIn, ?_⟩
  have key := run_fnSD (E := L2.WE W) (us := .ref b :: us) (vs := .ref b :: vs) G hr hb .nil (passAt tk σ) I2 (.cons rfl r2) (by rw [List.append_nil]; exact q2)
  exact key
theorem pe_methSD0 {sp : Sp} {ta : TE} {pl : Sem Bool} (he : PE X o ta) (c : Cls X.K C) (hm : Meth X.K C m f) (G : FnOk X.prog X.w X.K X.mg X.base (L2.CX X.prog X.w) k f fd ps sp) (hr : Room k X.A) (hb : Binds X.K fd ps []) (tk : Takes X W)
    (ht : MCall X o m apos [] pos pl) : PE X (.Call (.Attribute o m apos) [] [] pos) (tMethS C m sp W ta tNil) := by
  constructor
  intro pins s σ H Q I h
  refine PySem.W.methodCall_KW (pl := pl) (thn (he.run pins s σ H _ I h) ?_) ht
  rintro u s1 ⟨x, H1, I1, rx, b, dx, fs, rfl, eb, hl, q⟩
  cases rx
  apply getmeth_ok I1 eb c hm hl
  apply PySem.W.callWith_K0 (first := [.ref b]) I1.kIn hm.kp
  exact run_fnSD (E := L2.WE W) (us := [.ref b]) (vs := [.ref b]) G hr hb .nil (passAt tk σ) I1 (.cons rfl .nil) (by rw [List.append_nil]; exact q)
theorem repF_lookup {K : PySem.W.Frag} {F : Hp} {f : Str} : ∀ {fs : List (Str × D)} {gs : List (Str × V)}, RepF K F fs gs → (fs.lookup f = none → gs.lookup f = none) ∧ ∀ d, fs.lookup f = some d → ∃ v, gs.lookup f = some v ∧ Rep K F d v
  | [], gs, h => by
    unfold RepF at h
    subst h
    exact ⟨fun _ => rfl, fun d e => by cases e⟩
  | (g, d) :: fs, gs, h => by
    unfold RepF at h
    obtain ⟨x, r, rfl, h1, h2⟩ := h
    have ih := repF_lookup (f := f) h2
    rw [List.lookup_cons, List.lookup_cons]
    cases f == g with
    | true =>
      refine ⟨fun e => ?_, fun d' e => ?_⟩
      · cases e
      · cases e
        exact ⟨x, rfl, h1⟩
    | false => exact ih
/-- o.m(..), o a frozen instance of C -/
def wMeth (C : Addr) (m : Str) (c : Ct Th) (wo : WE Th) (ws : WA Th) : WR Th := fun e t Q E => wo e t (fun d e1 t1 => match d with
  | .ins C' fs => C' = C ∧ fs.lookup m = none ∧ ws e1 t1 (fun ds e2 t2 => c (.ins C fs :: ds) t2 (fun r t3 => Q r e2 t3) fun x t3 => E x e2 t3) E
  | _ => False) E
theorem lift_meth {ta : TA} {ws : WA Th} (hta : ∀ σ H Q, liftA B W ws σ H Q → ta σ H Q) : ∀ σ H Q, liftR B W (wMeth C m c wo ws) σ H Q → tMethS C m (spD B.K B.M c) W (liftE B W wo) ta σ H Q := by
  rintro σ H Q ⟨F, t, e, Qd, Ed, S, eo, hw, hq⟩
  refine ⟨F, t, e, _, Ed, S, eo, hw, fun x H1 F1 t1 e1 d S1 L1 r1 q1 => ?_⟩
  cases d with
  | ins C' fs =>
    obtain ⟨rfl, hl, q1⟩ := q1
    obtain ⟨b, dx, gs, rfl, hb, rf⟩ := rep_ins.mp r1
    refine ⟨b, dx, gs, rfl, S1.sub _ _ hb, (repF_lookup rf).1 hl, hta σ H1 _ ⟨F1, t1, e1, _, Ed, S1, eo, q1, fun vs H2 F2 t2 e2 ds S2 L2 r2 q2 => ?_⟩⟩
    exact S2.call eo (.cons (r1.mono L2.le) r2) q2 fun v H3 F3 t3 r S3 L3 r3 n3 q3 => hq v H3 F3 t3 e2 r S3 ((L1.trans L2).trans L3) r3 (n3.from (L1.trans L2)) q3
  | _ => exact q1.elim
theorem dr_meth {pl : Sem Bool} (he : PE X o (liftE B W wo)) (hc : Cls X.K C) (hm : Meth X.K C m f) (G : FnOk X.prog X.w X.K X.mg X.base (L2.CX X.prog X.w) k f fd ps (spD B.K B.M c)) (hr : Room k X.A) (hb : Binds X.K fd ps []) (tk : Takes X W) (ha : PA X (a :: es) (liftA B W ws))
    (hst : starEach (a :: es) X.env = (false, eval a X.env) :: starEach es X.env := by rfl) (hpl : (backTo pos (starEach es X.env)).any (·.1) = false := by rfl)
    (ht : MCall X o m apos (a :: es) pos pl := by rfl) : PE X (.Call (.Attribute o m apos) (a :: es) [] pos) (liftR B W (wMeth C m c wo ws)) :=
  weakE (pe_methSD he hc hm G hr hb tk ha hst hpl ht) (lift_meth fun _ _ _ h => h)
theorem dr_meth0 {pl : Sem Bool} (he : PE X o (liftE B W wo)) (hc : Cls X.K C) (hm : Meth X.K C m f) (G : FnOk X.prog X.w X.K X.mg X.base (L2.CX X.prog X.w) k f fd ps (spD B.K B.M c)) (hr : Room k X.A) (hb : Binds X.K fd ps []) (tk : Takes X W)
    (ht : MCall X o m apos [] pos pl := by rfl) : PE X (.Call (.Attribute o m apos) [] [] pos) (liftR B W (wMeth C m c wo wNil)) :=
  weakE (pe_methSD0 he hc hm G hr hb tk ht) (lift_meth (by
    rintro σ H Q ⟨F, t, e, Qd, Ed, S, eo, hw, hq⟩
    exact hq [] H F t e [] S .refl .nil hw))
/-- o.f, o a frozen instance -/
def wFld (f : Str) (wo : WE Th) : WE Th := fun e t Q E => wo e t (fun d e1 t1 => match d with | .ins _ fs => ob (fs.lookup f) fun d' => Q d' e1 t1 | _ => False) E
theorem de_fld {fl : Str} (he : PE X o (liftE B W wo)) (hK : ∀ C, Cls X.K C ∧ NoAttr X.K C fl ∨ True) (hc : ∀ F C fs v, Rep B.K F (.ins C fs) v → Cls X.K C ∧ NoAttr X.K C fl) (hb : attributeBase o fl X.env (eval o X.env) = eval o X.env := by rfl) : PE X (.Attribute o fl pos) (liftE B W (wFld fl wo)) := weakE (pe_fld he hb) (by
  rintro σ H Q ⟨F, t, e, Qd, Ed, S, eo, hw, hq⟩
  refine ⟨F, t, e, _, Ed, S, eo, hw, fun x H1 F1 t1 e1 d S1 L1 r1 q1 => ?_⟩
  cases d with
  | ins C' fs =>
    obtain ⟨d', e', q'⟩ := ob_some q1
    obtain ⟨cl, na⟩ := hc _ _ _ _ r1
    obtain ⟨b, dx, gs, rfl, hb, rf⟩ := rep_ins.mp r1
    obtain ⟨v, ev, rv⟩ := (repF_lookup rf).2 d' e'
    exact ⟨b, C', dx, gs, v, rfl, S1.sub _ _ hb, cl, na, ev, hq v H1 F1 t1 e1 d' S1 L1 rv q'⟩
  | _ => exact q1.elim)
end

/-! a def by its body -/
def startE (N : List Str) (ds : List D) : Ev := ds.map Sl.sh ++ List.replicate (N.length - ds.length) Sl.un
theorem start_sr {Th : Type} {K : PySem.W.Frag} {M : Wd Th} {F H : Hp} {t : Th} {N : List Str} {ds : List D} {vs : List V} (s : L2.Same F H) (j : M.J t F H) (hf : ∀ a ∈ M.fp t, F a = none ∧ ∃ o, H a = some o ∧ NT o) (r : RepL K F ds vs) :
    SR ⟨K, M, H, F, t⟩ F t (startE N ds) (L2.start N vs) H := by
  have hl := r.length
  refine ⟨.refl s j hf, by unfold startE L2.start; simp [hl], fun i d h => ?_, fun i d h => ?_, fun i j d d' a h1 h2 _ _ => ?_⟩
  · unfold startE at h
    unfold L2.start
    by_cases hi : i < ds.length
    · rw [List.getElem?_append_left (by simpa using hi), List.getElem?_map] at h
      cases e : ds[i]? with
      | none => rw [e] at h; cases h
      | some d' =>
        rw [e] at h
        cases h
        obtain ⟨v, ev, rv⟩ := r.get e
        refine ⟨v, ?_, rv⟩
        rw [List.getElem?_append_left (by simpa [hl] using hi), List.getElem?_map, ev]
        rfl
    · rw [List.getElem?_append_right (by simpa using hi), List.getElem?_replicate] at h
      split at h <;> cases h
  · unfold startE at h
    by_cases hi : i < ds.length
    · rw [List.getElem?_append_left (by simpa using hi), List.getElem?_map] at h
      cases e : ds[i]? with
      | none => rw [e] at h; cases h
      | some d' => rw [e] at h; cases h
    · rw [List.getElem?_append_right (by simpa using hi), List.getElem?_replicate] at h
      split at h <;> cases h
  · unfold startE at h1
    by_cases hi : i < ds.length
    · rw [List.getElem?_append_left (by simpa using hi), List.getElem?_map] at h1
      cases e : ds[i]? with
      | none => rw [e] at h1; cases h1
      | some d' => rw [e] at h1; cases h1
    · rw [List.getElem?_append_right (by simpa using hi), List.getElem?_replicate] at h1
      split at h1 <;> cases h1
/-- what a body promises -/
def bodyC {Th : Type} (N : List Str) (n : Nat) (w : WS Th) : Ct Th := fun ds t Q E => ds.length = n ∧ w { nx := fun _ t' => Q (.sh .non) t', rt := Q, bk := fun _ _ => False, ct := fun _ _ => False, ex := fun x _ t' => E x t' } (startE N ds) t
theorem body_reads {Th : Type} {K : PySem.W.Frag} {M : Wd Th} {F H : Hp} {t : Th} {N : List Str} {ds : List D} {vs : List V} {Qc : R → Th → Prop} {Ec : Xn → Th → Prop} {Q : VK} {E : XK} {n : Nat} {w : WS Th} (s : L2.Same F H) (j : M.J t F H) (hf : ∀ a ∈ M.fp t, F a = none ∧ ∃ o, H a = some o ∧ NT o) (r : RepL K F ds vs) (hc : bodyC N n w ds t Qc Ec)
    (hq : ∀ v H' F' t' r, After M F t H F' t' H' → RetA K M F' t' H H' r v → Qc r t' → Q v H') (he : ∀ cls d H' F' t' x, After M F t H F' t' H' → RepX K F' x cls d → Ec x t' → E cls d H') :
    liftS ⟨K, M, H, F, t⟩ (fun cls d _ H' => E cls d H') w { nx := fun _ H' => Q .non H', rt := Q } (L2.start N vs) H := by
  refine ⟨F, t, startE N ds, _, start_sr s j hf r, fun σ' x F' t' e' H' cls d S' rx q => he cls d H' F' t' x S'.af rx q, hc.2, fun σ' H' F' t' e' S' L' q => hq _ H' F' t' (.sh .non) S'.af (by unfold RetA Rep; rfl) q,
    fun v H' F' t' r A L' ra q => hq v H' F' t' r A ?_ q, fun _ _ _ _ _ _ _ q => q.elim, fun _ _ _ _ _ _ _ q => q.elim⟩
  cases r with
  | sh d => exact ra
  | ow d => exact ra
section
variable {P : Program} {w : World} {K : PySem.W.Frag} {mg : Str → Option Value} {base : Heap}
theorem okD {Th : Type} {M : Wd Th} {x qual : Str} {st : Stmt} {f : Addr} {fd : FuncData} {N ps : List Str} {k : Nat} {wb : WS Th} (G : Fun K x qual st f fd) (S : FnScope N ps (defScope st))
    (hbody : ∀ (cdv : Value) (A : Around) (outer : List Env) (s : Shared) (H F : Hp) (t : Th) (E : XK), Room k (A.deeper (envOfC qual (defScope st) s.heap.objs.size f cdv)) →
      PSs (cxOf (L2.CX P w) P w K mg base N qual (defScope st) f cdv A outer s H E) (defBody st) (liftS ⟨K, M, H, F, t⟩ (fun cls d _ H' => E cls d H') wb)) :
    FnOk P w K mg base (L2.CX P w) (k + 1) f fd ps (spD K M (bodyC N ps.length wb)) := by
  refine G.okX S (fun vs H Q E h => ?_) fun cdv A outer s H vs Q E hr h => ?_
  · obtain ⟨F, t, ds, Qc, Ec, s, j, hf, r, hc, _⟩ := h
    rw [r.length]
    exact hc.1
  · obtain ⟨F, t, ds, Qc, Ec, ss, j, hf, r, hc, hq, he⟩ := h
    exact ⟨_, hbody cdv A outer s H F t E hr, body_reads ss j hf r hc hq he⟩
theorem imD {Th : Type} {M : Wd Th} {c c' : Ct Th} (h : ∀ ds t Q E, c' ds t Q E → c ds t Q E) {vs : List V} {H : Hp} {Q : VK} {E : XK} (q : spD K M c' vs H Q E) : spD K M c vs H Q E := by
  obtain ⟨F, t, ds, Qc, Ec, s, j, hf, r, hc, z⟩ := q
  exact ⟨F, t, ds, Qc, Ec, s, j, hf, r, h _ _ _ _ hc, z⟩
/-- for a pure def -/
theorem okP {x qual : Str} {st : Stmt} {f : Addr} {fd : FuncData} {N ps : List Str} {k : Nat} {wb : WS Unit} {c : Cp} (G : Fun K x qual st f fd) (S : FnScope N ps (defScope st))
    (hbody : ∀ (cdv : Value) (A : Around) (outer : List Env) (s : Shared) (H F : Hp) (E : XK), Room k (A.deeper (envOfC qual (defScope st) s.heap.objs.size f cdv)) →
      PSs (cxOf (L2.CX P w) P w K mg base N qual (defScope st) f cdv A outer s H E) (defBody st) (liftS ⟨K, M0, H, F, ()⟩ (fun cls d _ H' => E cls d H') wb))
    (hc : ∀ ds (Q : R → Prop) (E : Xn → Prop), c ds Q E → bodyC N ps.length wb ds () (fun r _ => Q r) fun x _ => E x) : FnOk P w K mg base (L2.CX P w) (k + 1) f fd ps (spP K c) :=
  (okD (M := M0) G S fun cdv A outer s H F t E hr => hbody cdv A outer s H F E hr).imp fun vs H Q E h => imD (c' := upC c) (fun ds t Q E h => hc ds (fun r => Q r ()) (fun x => E x ()) h) h
end
end VL

set_option Elab.async false
set_option linter.all false
set_option maxRecDepth 100000
set_option maxHeartbeats 1000000
namespace VL
open PySem PySem.Spec PyProof.Rows L2

/-! what can be read of a thing, frozen or not -/
def Red (K : PySem.W.Frag) (F H : Hp) : D → V → Prop
  | .lst l, v => ∃ a vs, v = .ref a ∧ H a = some (.lst vs) ∧ RepL K F l vs
  | .dk l, v => ∃ a vs, v = .ref a ∧ L2.Rd H a (.dK vs) ∧ RepK K F l vs
  | .dt l, v => ∃ a vs, v = .ref a ∧ L2.Rd H a (.dT vs) ∧ RepT K F l vs
  | .ins C fs, v => ∃ a dx gs, v = .ref a ∧ H a = some (.ins C dx gs) ∧ RepF K F fs gs
  | d, v => Rep K F d v
theorem Red.of_rep {K : PySem.W.Frag} {F H : Hp} (s : L2.Same F H) {d : D} {v : V} (h : Rep K F d v) : Red K F H d v := by
  cases d with
  | lst l => obtain ⟨a, vs, e, h, r⟩ := rep_lst.mp h; exact ⟨a, vs, e, s _ _ h, r⟩
  | dk l => obtain ⟨a, od, vs, e, h, r⟩ := rep_dk.mp h; exact ⟨a, vs, e, .inr ⟨od, s _ _ h⟩, r⟩
  | dt l => obtain ⟨a, od, vs, e, h, r⟩ := rep_dt.mp h; exact ⟨a, vs, e, .inr ⟨od, s _ _ h⟩, r⟩
  | ins C fs => obtain ⟨a, dx, gs, e, h, r⟩ := rep_ins.mp h; exact ⟨a, dx, gs, e, s _ _ h, r⟩
  | _ => exact h
theorem Red.of_own {K : PySem.W.Frag} {F H : Hp} {d : D} {a : Addr} (h : Own K F H a d) : Red K F H d (.ref a) := by
  obtain ⟨_, h⟩ := h
  cases d with
  | lst l => obtain ⟨vs, h, r⟩ := h; exact ⟨a, vs, rfl, h, r⟩
  | dk l => obtain ⟨vs, h, r⟩ := h; exact ⟨a, vs, rfl, .inl h, r⟩
  | dt l => obtain ⟨vs, h, r⟩ := h; exact ⟨a, vs, rfl, .inl h, r⟩
  | ins C fs => obtain ⟨⟨dx, gs⟩, h, r⟩ := h; exact ⟨a, dx, gs, rfl, h, r⟩
  | _ => exact h.elim
inductive RedL (K : PySem.W.Frag) (F H : Hp) : List D → List V → Prop
  | nil : RedL K F H [] []
  | cons {d : D} {v : V} {ds : List D} {vs : List V} : Red K F H d v → RedL K F H ds vs → RedL K F H (d :: ds) (v :: vs)
theorem redL1 {K : PySem.W.Frag} {F H : Hp} {d : D} {vs : List V} (h : RedL K F H [d] vs) : ∃ x, vs = [x] ∧ Red K F H d x := by
  cases h with | cons a b => cases b; exact ⟨_, rfl, a⟩
theorem redL2 {K : PySem.W.Frag} {F H : Hp} {d e : D} {vs : List V} (h : RedL K F H [d, e] vs) : ∃ x y, vs = [x, y] ∧ Red K F H d x ∧ Red K F H e y := by
  cases h with | cons a b => obtain ⟨y, rfl, q⟩ := redL1 b; exact ⟨_, y, rfl, a, q⟩
theorem redL3 {K : PySem.W.Frag} {F H : Hp} {d e f : D} {vs : List V} (h : RedL K F H [d, e, f] vs) : ∃ x y z, vs = [x, y, z] ∧ Red K F H d x ∧ Red K F H e y ∧ Red K F H f z := by
  cases h with | cons a b => obtain ⟨y, z, rfl, q, r⟩ := redL2 b; exact ⟨_, y, z, rfl, a, q, r⟩

/-! what an operation makes -/
inductive Mk (K : PySem.W.Frag) (F H : Hp) : R → V → Hp → Prop
  | sh {d : D} {v : V} : Rep K F d v → Mk K F H (.sh d) v H
  | tup {l : List D} {vs : List V} {p : Addr} : H p = none → RepL K F l vs → Mk K F H (.sh (.tup l)) (.ref p) (upd H p (.tup vs))
  | rng {i j : Int} {p : Addr} : H p = none → Mk K F H (.sh (.rng i j)) (.ref p) (upd H p (.rng i j))
  | lst {l : List D} {vs : List V} {p : Addr} : H p = none → RepL K F l vs → Mk K F H (.ow (.lst l)) (.ref p) (upd H p (.lst vs))
  | dk {l : List (Key × D)} {vs : List (Key × V)} {p : Addr} : H p = none → RepK K F l vs → Mk K F H (.ow (.dk l)) (.ref p) (upd H p (.dK vs))
  | dt {l : List (List Key × D)} {vs : List (List Key × V)} {p : Addr} : H p = none → RepT K F l vs → Mk K F H (.ow (.dt l)) (.ref p) (upd H p (.dT vs))

/-! operands: a frozen value, or a slot that is read when the operation comes -/
inductive Od where
  | d (x : D) | v (i : Nat)
def slD : Sl → Option D
  | .sh d => some d
  | .ow d => some d
  | .un => none
def rs (e : Ev) : Od → Option D
  | .d x => some x
  | .v i => (e[i]?).bind slD
def rss (e : Ev) : List Od → Option (List D)
  | [] => some []
  | o :: os => match rs e o with
    | some d => match rss e os with
      | some ds => some (d :: ds)
      | none => none
    | none => none
def oL (o : Option (List D)) (k : List D → Prop) : Prop := match o with
  | some d => k d
  | none => False
theorem oL_some {o : Option (List D)} {k : List D → Prop} (h : oL o k) : ∃ d, o = some d ∧ k d := by
  unfold oL at h
  split at h
  · exact ⟨_, rfl, h⟩
  · exact h.elim
abbrev WO (Th : Type) := Ev → Th → (Od → Ev → Th → Prop) → KX Th → Prop
abbrev WOs (Th : Type) := Ev → Th → (List Od → Ev → Th → Prop) → KX Th → Prop
def RepO (K : PySem.W.Frag) (F : Hp) (σ : L2.St) : Od → V → Prop
  | .d x, v => Rep K F x v
  | .v i, v => σ[i]? = some (some v)
inductive RepOs (K : PySem.W.Frag) (F : Hp) (σ : L2.St) : List Od → List V → Prop
  | nil : RepOs K F σ [] []
  | cons {o : Od} {v : V} {os : List Od} {vs : List V} : RepO K F σ o v → RepOs K F σ os vs → RepOs K F σ (o :: os) (v :: vs)
theorem RepO.mono {K : PySem.W.Frag} {F F' : Hp} {σ : L2.St} (s : L2.Same F F') {o : Od} {v : V} (h : RepO K F σ o v) : RepO K F' σ o v := by
  cases o with
  | d x => exact Rep.mono s h
  | v i => exact h
def liftO {Th : Type} (B : Bs Th) (W : WX) (w : WO Th) : TE := fun σ H Q => ∃ (F : Hp) (t : Th) (e : Ev) (Qd : Od → Ev → Th → Prop) (Ed : KX Th), SR B F t e σ H ∧ EOK B W σ Ed ∧ w e t Qd Ed ∧
  ∀ v H' F' t' e' o, SR B F' t' e' σ H' → Stp B σ F t e H F' t' e' H' → RepO B.K F' σ o v → Qd o e' t' → Q v H'
def liftOs {Th : Type} (B : Bs Th) (W : WX) (w : WOs Th) : TA := fun σ H Q => ∃ (F : Hp) (t : Th) (e : Ev) (Qd : List Od → Ev → Th → Prop) (Ed : KX Th), SR B F t e σ H ∧ EOK B W σ Ed ∧ w e t Qd Ed ∧
  ∀ vs H' F' t' e' os, SR B F' t' e' σ H' → Stp B σ F t e H F' t' e' H' → RepOs B.K F' σ os vs → Qd os e' t' → Q vs H'
section
variable {Th : Type} {B : Bs Th} {W : WX} {X : Cx} {pos p : Pos} {F F' H H' : Hp} {t t' : Th} {e e' : Ev} {σ : L2.St} {a b : Expr} {es : List Expr}
theorem SR.read (S : SR B F t e σ H) {i : Nat} {d : D} (h : (e[i]?).bind slD = some d) : ∃ v, σ[i]? = some (some v) ∧ Red B.K F H d v := by
  cases q : e[i]? with
  | none => rw [q] at h; cases h
  | some s =>
    rw [q] at h
    cases s with
    | un => cases h
    | sh x =>
      cases h
      obtain ⟨v, e1, r⟩ := S.sh i _ q
      exact ⟨v, e1, .of_rep S.sub r⟩
    | ow x =>
      cases h
      obtain ⟨c, e1, o, _⟩ := S.ow i _ q
      exact ⟨_, e1, .of_own o⟩
theorem RepO.red (S : SR B F t e σ H) {o : Od} {v : V} {d : D} (h : RepO B.K F σ o v) (r : rs e o = some d) : Red B.K F H d v := by
  cases o with
  | d x => cases r; exact .of_rep S.sub h
  | v i =>
    obtain ⟨u, e1, q⟩ := S.read r
    have e2 : σ[i]? = some (some v) := h
    rw [e1] at e2
    cases e2
    exact q
theorem RepOs.red (S : SR B F t e σ H) : ∀ {os : List Od} {vs : List V} {ds : List D}, RepOs B.K F σ os vs → rss e os = some ds → RedL B.K F H ds vs
  | _, _, _, .nil, r => by cases r; exact .nil
  | _, _, ds, .cons (o := o) (os := os) h q, r => by
    unfold rss at r
    cases e1 : rs e o with
    | none => rw [e1] at r; cases r
    | some d =>
      cases e2 : rss e os with
      | none => rw [e1, e2] at r; cases r
      | some l =>
        rw [e1, e2] at r
        cases r
        exact .cons (h.red S e1) (RepOs.red S q e2)
theorem Mk.go (S : SR B F t e σ H) {r : R} {v : V} (m : Mk B.K F H r v H') : ∃ F', SR B F' t e σ H' ∧ Stp B σ F t e H F' t e H' ∧ RepR B F' t e σ H' r v ∧ NewR σ e H r v := by
  cases m with
  | sh h => exact ⟨F, S, .refl, h, trivial⟩
  | tup hp h =>
    obtain ⟨S2, L2, r2⟩ := S.newTup hp h
    exact ⟨_, S2, L2, r2, trivial⟩
  | rng hp => exact ⟨_, S.fresh hp, .fresh hp (S.sub.free hp), by unfold RepR Rep; exact ⟨_, rfl, upd_same⟩, trivial⟩
  | lst hp h => exact ⟨F, S.loose hp, .loose hp, S.newLst hp h, newR_none hp⟩
  | dk hp h => exact ⟨F, S.loose hp, .loose hp, S.newDk hp h, newR_none hp⟩
  | dt hp h => exact ⟨F, S.loose hp, .loose hp, S.newDt hp h, newR_none hp⟩

/-- operands -/
def wOe (w : WE Th) : WO Th := fun e t Q E => w e t (fun d e1 t1 => Q (.d d) e1 t1) E
def wOv (i : Nat) : WO Th := fun e t Q _ => (rs e (.v i)).isSome = true ∧ Q (.v i) e t
theorem do_e {w : WE Th} (h : PE X a (liftE B W w)) : PE X a (liftO B W (wOe w)) := weakE h (by
  rintro σ H Q ⟨F, t, e, Qd, Ed, S, eo, hw, hq⟩
  exact ⟨F, t, e, _, Ed, S, eo, hw, fun v H1 F1 t1 e1 d S1 L1 r1 q1 => hq v H1 F1 t1 e1 (.d d) S1 L1 r1 q1⟩)
theorem do_v (i : Nat) {x : Str} (hN : X.N[i]? = some x := by rfl) (hv : Vis X.env.scope x := by first | exact Or.inl rfl | exact Or.inr (Or.inl rfl) | exact Or.inr (Or.inr rfl)) (hd : (x == ("__debug__" : Str)) = false := by decide)
    (hcd : (x == ("__classdict__" : Str)) = false := by decide) : PE X (.Name x pos) (liftO B W (wOv i)) := weakE (pe_var hN hv hd hcd) (by
  rintro σ H Q ⟨F, t, e, Qd, Ed, S, eo, ⟨hs, hw⟩, hq⟩
  obtain ⟨d, hd⟩ := Option.isSome_iff_exists.mp hs
  obtain ⟨v, e1, r⟩ := S.read hd
  exact ⟨v, e1, hq v H F t e (.v i) S .refl e1 hw⟩)
def wOnil : WOs Th := fun e t Q _ => Q [] e t
def wOcons (wa : WO Th) (ws : WOs Th) : WOs Th := fun e t Q E => wa e t (fun a e1 t1 => ws e1 t1 (fun l e2 t2 => Q (a :: l) e2 t2) E) E
theorem dos_nil : PA X [] (liftOs B W wOnil) := weakA pa_nil (by
  rintro σ H Q ⟨F, t, e, Qd, Ed, S, eo, hw, hq⟩
  exact hq [] H F t e [] S .refl .nil hw)
theorem dos_cons {wa : WO Th} {ws : WOs Th} (ha : PE X a (liftO B W wa)) (hr : PA X es (liftOs B W ws)) (hs : starEach (a :: es) X.env = (false, eval a X.env) :: starEach es X.env := by rfl) : PA X (a :: es) (liftOs B W (wOcons wa ws)) := weakA (pa_cons ha hr hs) (by
  rintro σ H Q ⟨F, t, e, Qd, Ed, S, eo, hw, hq⟩
  refine ⟨F, t, e, _, Ed, S, eo, hw, fun x H1 F1 t1 e1 dx S1 L1 r1 q1 => ?_⟩
  exact ⟨F1, t1, e1, _, Ed, S1, eo, q1, fun vs H2 F2 t2 e2 ds S2 L2 r2 q2 => hq _ H2 F2 t2 e2 _ S2 (L1.trans L2) (.cons (r1.mono L2.le) r2) q2⟩)

/-! operations on operands -/
abbrev G1 := D → (R → Prop) → Prop
abbrev G2 := D → D → (R → Prop) → Prop
abbrev GL := List D → (R → Prop) → Prop
def OkU (K : PySem.W.Frag) (r : V → Hp → VK → Prop) (g : G1) : Prop := ∀ (F H : Hp) (x : V) (a : D) (k : R → Prop) (Q : VK), L2.Same F H → Red K F H a x → g a k → (∀ r v H', Mk K F H r v H' → k r → Q v H') → r x H Q
def Ok2 (K : PySem.W.Frag) (r : R2) (g : G2) : Prop := ∀ (F H : Hp) (x y : V) (a b : D) (k : R → Prop) (Q : VK), L2.Same F H → Red K F H a x → Red K F H b y → g a b k → (∀ r v H', Mk K F H r v H' → k r → Q v H') → r x y H Q
def OkL (K : PySem.W.Frag) (r : List V → Hp → VK → Prop) (g : GL) : Prop := ∀ (F H : Hp) (xs : List V) (ds : List D) (k : R → Prop) (Q : VK), L2.Same F H → RedL K F H ds xs → g ds k → (∀ r v H', Mk K F H r v H' → k r → Q v H') → r xs H Q
def wX2 (g : G2) (wa wb : WO Th) : WR Th := fun e t Q E => wa e t (fun a e1 t1 => wb e1 t1 (fun b e2 t2 => ob (rs e2 a) fun x => ob (rs e2 b) fun y => g x y fun r => Q r e2 t2) E) E
def wX1 (g : G1) (wa : WO Th) : WR Th := fun e t Q E => wa e t (fun a e1 t1 => ob (rs e1 a) fun x => g x fun r => Q r e1 t1) E
def wXL (g : GL) (ws : WOs Th) : WR Th := fun e t Q E => ws e t (fun os e1 t1 => oL (rss e1 os) fun ds => g ds fun r => Q r e1 t1) E
/-- as tests -/
def tR (r : R) (k : Bool → Prop) : Prop := match r with
  | .sh (.bl b) => k b
  | _ => False
def wX2T (g : G2) (wa wb : WO Th) : WT Th := fun e t Q E => wa e t (fun a e1 t1 => wb e1 t1 (fun b e2 t2 => ob (rs e2 a) fun x => ob (rs e2 b) fun y => g x y fun r => tR r fun c => Q c e2 t2) E) E
variable {wa wb : WO Th} {ws : WOs Th}
theorem liftX2 {r : R2} {g : G2} (hg : Ok2 B.K r g) : ∀ (σ : L2.St) (H : Hp) (Q : VK), liftR B W (wX2 g wa wb) σ H Q → tOp r (liftO B W wa) (liftO B W wb) σ H Q := by
  rintro σ H Q ⟨F, t, e, Qd, Ed, S, eo, hw, hq⟩
  refine ⟨F, t, e, _, Ed, S, eo, hw, fun x H1 F1 t1 e1 ox S1 L1 r1 q1 => ?_⟩
  refine ⟨F1, t1, e1, _, Ed, S1, eo, q1, fun y H2 F2 t2 e2 oy S2 L2 r2 q2 => ?_⟩
  obtain ⟨dx, ex, q2⟩ := ob_some q2
  obtain ⟨dy, ey, q2⟩ := ob_some q2
  refine hg F2 H2 x y dx dy _ Q S2.sub ((r1.mono L2.le).red S2 ex) (r2.red S2 ey) q2 fun r v H3 m q3 => ?_
  obtain ⟨F3, S3, L3, r3, n3⟩ := m.go S2
  exact hq v H3 F3 t2 e2 r S3 ((L1.trans L2).trans L3) r3 (n3.from (L1.trans L2)) q3
theorem liftX2T {r : R2} {g : G2} (hg : Ok2 B.K r g) : ∀ (σ : L2.St) (H : Hp) (Q : Bool → Hp → Prop), liftT B W (wX2T g wa wb) σ H Q → tTest (tOp r (liftO B W wa) (liftO B W wb)) σ H Q := by
  rintro σ H Q ⟨F, t, e, Qd, Ed, S, eo, hw, hq⟩
  refine ⟨F, t, e, _, Ed, S, eo, hw, fun x H1 F1 t1 e1 ox S1 L1 r1 q1 => ?_⟩
  refine ⟨F1, t1, e1, _, Ed, S1, eo, q1, fun y H2 F2 t2 e2 oy S2 L2 r2 q2 => ?_⟩
  obtain ⟨dx, ex, q2⟩ := ob_some q2
  obtain ⟨dy, ey, q2⟩ := ob_some q2
  refine hg F2 H2 x y dx dy _ _ S2.sub ((r1.mono L2.le).red S2 ex) (r2.red S2 ey) q2 fun r v H3 m q3 => ?_
  obtain ⟨F3, S3, L3, r3, n3⟩ := m.go S2
  cases r with
  | ow d => exact q3.elim
  | sh d =>
    cases d with
    | bl c =>
      have : v = .bl c := rep_bl.mp (show Rep B.K F3 (.bl c) v from r3)
      exact ⟨c, this, hq c H3 F3 t2 e2 S3 ((L1.trans L2).trans L3) q3⟩
    | _ => exact q3.elim
theorem dr_op2 {op : Operator} {r : R2} {g : G2} (ho : OpR X (binaryOp op) r) (hg : Ok2 B.K r g) (ha : PE X a (liftO B W wa)) (hb : PE X b (liftO B W wb)) : PE X (.BinOp a op b pos) (liftR B W (wX2 g wa wb)) := weakE (pe_op ho ha hb) (liftX2 hg)
theorem dr_cmp2 {op : CmpOp} {r : R2} {g : G2} (ho : OpR X (compareOp op) r) (hg : Ok2 B.K r g) (ha : PE X a (liftO B W wa)) (hb : PE X b (liftO B W wb)) (hm : behindInMarks op b = false := by first | exact nomark _ | rfl) :
    PE X (.Compare a [op] [b] pos) (liftR B W (wX2 g wa wb)) := weakE (pe_cmpR ho ha hb hm) (liftX2 hg)
theorem dt_cmp2 {op : CmpOp} {r : R2} {g : G2} (ho : OpR X (compareOp op) r) (hg : Ok2 B.K r g) (ha : PE X a (liftO B W wa)) (hb : PE X b (liftO B W wb)) (hm : behindInMarks op b = false := by first | exact nomark _ | rfl) :
    PT X (.Compare a [op] [b] pos) (liftT B W (wX2T g wa wb)) := weakT (pt_cmpR ho ha hb hm) (liftX2T hg)
theorem dr_un1 {op : UnaryOp} {r : V → Hp → VK → Prop} {g : G1} (ho : UnR X (unaryOp op) r) (hg : OkU B.K r g) (ha : PE X a (liftO B W wa)) : PE X (.UnaryOp op a pos) (liftR B W (wX1 g wa)) := weakE (pe_un ho ha) (by
  rintro σ H Q ⟨F, t, e, Qd, Ed, S, eo, hw, hq⟩
  refine ⟨F, t, e, _, Ed, S, eo, hw, fun x H1 F1 t1 e1 ox S1 L1 r1 q1 => ?_⟩
  obtain ⟨dx, ex, q2⟩ := ob_some q1
  refine hg F1 H1 x dx _ Q S1.sub (r1.red S1 ex) q2 fun r v H3 m q3 => ?_
  obtain ⟨F3, S3, L3, r3, n3⟩ := m.go S1
  exact hq v H3 F3 t1 e1 r S3 (L1.trans L3) r3 (n3.from L1) q3)
/-- a[b] -/
theorem dr_ix {r : R2} {g : G2} (hr : IxR X r) (hg : Ok2 B.K r g) (ha : PE X a (liftO B W wa)) (hb : PE X b (liftO B W wb)) (hs : PlainIx b := by intro _ _; rfl) : PE X (.Subscript a b pos) (liftR B W (wX2 g wa wb)) := weakE (pe_ix hr ha hb hs) (liftX2 hg)
theorem liftXL {r : List V → Hp → VK → Prop} {g : GL} (hg : OkL B.K r g) {σ : L2.St} {H : Hp} {Q : VK} (h : liftR B W (wXL g ws) σ H Q) : liftOs B W ws σ H fun xs H1 => r xs H1 Q := by
  obtain ⟨F, t, e, Qd, Ed, S, eo, hw, hq⟩ := h
  refine ⟨F, t, e, _, Ed, S, eo, hw, fun xs H1 F1 t1 e1 os S1 L1 r1 q1 => ?_⟩
  obtain ⟨ds, ex, q2⟩ := oL_some q1
  refine hg F1 H1 xs ds _ Q S1.sub (r1.red S1 ex) q2 fun r v H3 m q3 => ?_
  obtain ⟨F3, S3, L3, r3, n3⟩ := m.go S1
  exact hq v H3 F3 t1 e1 r S3 (L1.trans L3) r3 (n3.from L1) q3
variable {x : Str} {id T : String}
theorem dr_bi {r : List V → Hp → VK → Prop} {g : GL} (hc : CallR X (.builtin id) r) (hg : OkL B.K r g) (hm : X.mg x = none) (ha : PA X (a :: es) (liftOs B W ws)) (hgl : Gl X x := by rfl) (hv : bootBuiltins x = some (.builtin id) := by decide +kernel) (hn : x ≠ "__name__" := by decide) (hdb : (x == ("__debug__" : Str)) = false := by decide)
    (he : starEach (a :: es) X.env = (false, eval a X.env) :: starEach es X.env := by rfl) (hpl : (backTo pos (starEach es X.env)).any (·.1) = false := by rfl) : PE X (.Call (.Name x p) (a :: es) [] pos) (liftR B W (wXL g ws)) := weakE (pe_callB hc hgl hm hv ha hn hdb he hpl) fun _ _ _ h => liftXL hg h
theorem dr_ty {r : List V → Hp → VK → Prop} {g : GL} (hc : CallR X (.type T) r) (hg : OkL B.K r g) (hm : X.mg x = none) (ha : PA X (a :: es) (liftOs B W ws)) (hgl : Gl X x := by rfl) (hv : bootBuiltins x = some (.type T) := by decide +kernel) (hn : x ≠ "__name__" := by decide) (hdb : (x == ("__debug__" : Str)) = false := by decide)
    (he : starEach (a :: es) X.env = (false, eval a X.env) :: starEach es X.env := by rfl) (hpl : (backTo pos (starEach es X.env)).any (·.1) = false := by rfl) : PE X (.Call (.Name x p) (a :: es) [] pos) (liftR B W (wXL g ws)) := weakE (pe_callTy hc hgl hm hv ha hn hdb he hpl) fun _ _ _ h => liftXL hg h
end
end VL

set_option Elab.async false
set_option linter.all false
set_option maxRecDepth 100000
set_option maxHeartbeats 1000000
namespace VL
open PySem PySem.Spec PyProof.Rows L2

theorem OpR_or {X : Cx} {f : Value → Value → Sem Value} {r r' : R2} (h : OpR X f r) (h' : OpR X f r') : OpR X f (fun x y H Q => r x y H Q ∨ r' x y H Q) := by
  intro pins s σ H x y v u Q I rx ry q
  rcases q with q | q
  · exact h pins s σ H x y v u Q I rx ry q
  · exact h' pins s σ H x y v u Q I rx ry q
section
variable {K : PySem.W.Frag} {F H : Hp} {r r' : R2} {g g' : G2} {v : V}
theorem red_int {i : Int} : Red K F H (.int i) v → v = .int i := (rep_int (K := K) (F := F)).mp
theorem red_bl {i : Bool} : Red K F H (.bl i) v → v = .bl i := (rep_bl (K := K) (F := F)).mp
theorem red_str {i : Str} : Red K F H (.str i) v → v = .str i := (rep_str (K := K) (F := F)).mp
theorem red_non : Red K F H .non v → v = .non := (rep_non (K := K) (F := F)).mp
theorem red_tup {l : List D} : Red K F H (.tup l) v → ∃ a vs, v = .ref a ∧ F a = some (.tup vs) ∧ RepL K F l vs := rep_tup.mp
theorem red_pt {l : List D} : Red K F H (.pt l) v → ∃ a o vs, v = .ref a ∧ F a = some (.frz o (.tup vs)) ∧ o.dict = none ∧ RepL K F l vs := fun h => by unfold Red Rep at h; exact h
theorem red_lst {l : List D} : Red K F H (.lst l) v → ∃ a vs, v = .ref a ∧ H a = some (.lst vs) ∧ RepL K F l vs := id
theorem red_dk {l : List (Key × D)} : Red K F H (.dk l) v → ∃ a vs, v = .ref a ∧ L2.Rd H a (.dK vs) ∧ RepK K F l vs := id
theorem red_dt {l : List (List Key × D)} : Red K F H (.dt l) v → ∃ a vs, v = .ref a ∧ L2.Rd H a (.dT vs) ∧ RepT K F l vs := id
theorem mk_int (i : Int) : Mk K F H (.sh (.int i)) (.int i) H := .sh (rep_int.mpr rfl)
theorem mk_bl (i : Bool) : Mk K F H (.sh (.bl i)) (.bl i) H := .sh (rep_bl.mpr rfl)
theorem mk_str (i : Str) : Mk K F H (.sh (.str i)) (.str i) H := .sh (rep_str.mpr rfl)
theorem mk_non : Mk K F H (.sh .non) .non H := .sh (rep_non.mpr rfl)
def gOr (g g' : G2) : G2 := fun a b k => g a b k ∨ g' a b k
theorem ok_rep (h : RepL K F l vs) : ∀ n : Nat, RepL K F (List.replicate n l).flatten (List.replicate n vs).flatten
  | 0 => .nil
  | n + 1 => by
    rw [List.replicate_succ, List.replicate_succ, List.flatten_cons, List.flatten_cons]
    exact h.append (ok_rep h n)
end

/-! + - * // % ** -/
def gAdd : G2 := fun a b k => match a, b with
  | .int i, .int j => k (.sh (.int (i + j)))
  | .str x, .str y => x.length + y.length ≤ sizeLine ∧ k (.sh (.str (x ++ y)))
  | .lst x, .lst y => x.length + y.length ≤ sizeLine ∧ k (.ow (.lst (x ++ y)))
  | .tup x, .tup y => x.length + y.length ≤ sizeLine ∧ k (.sh (.tup (x ++ y)))
  | _, _ => False
def gSub : G2 := fun a b k => match a, b with
  | .int i, .int j => k (.sh (.int (i - j)))
  | _, _ => False
def gMul : G2 := fun a b k => match a, b with
  | .int i, .int j => (CMul i j ∨ CMulW i j) ∧ k (.sh (.int (i * j)))
  | .lst x, .int n => (-(2 ^ 63) ≤ n ∧ n < 2 ^ 63 ∧ x.length * n.toNat ≤ sizeLine) ∧ k (.ow (.lst (List.replicate n.toNat x).flatten))
  | _, _ => False
def gDiv : G2 := fun a b k => match a, b with
  | .int i, .int j => (0 < j ∧ j.natAbs.log2 < 9000) ∧ k (.sh (.int (i / j)))
  | _, _ => False
def gMod : G2 := fun a b k => match a, b with
  | .int i, .int j => 0 < j ∧ k (.sh (.int (i % j)))
  | _, _ => False
def gPow : G2 := fun a b k => match a, b with
  | .int i, .int j => CPow i j ∧ k (.sh (.int (i ^ j.toNat)))
  | _, _ => False
def rAddS : R2 := fun x y H Q => ∃ i j, x = .str i ∧ y = .str j ∧ i.length + j.length ≤ sizeLine ∧ Q (.str (i ++ j)) H
def rAddA (K : PySem.W.Frag) : R2 := fun x y H Q => rI0 (fun i j => .int (i + j)) x y H Q ∨ rAddS x y H Q ∨ rCat x y H Q ∨ rCatA K x y H Q
theorem op_addA {X : Cx} : OpR X (binaryOp .Add) (rAddA X.K) := OpR_or op_add (OpR_or op_add_str (OpR_or op_cat op_catA))
theorem ok_add {K : PySem.W.Frag} : Ok2 K (rAddA K) gAdd := by
  intro F H x y a b k Q s ha hb hg hk
  unfold gAdd at hg
  split at hg
  · exact .inl ⟨_, _, red_int ha, red_int hb, hk _ _ _ (mk_int _) hg⟩
  · exact .inr (.inl ⟨_, _, red_str ha, red_str hb, hg.1, hk _ _ _ (mk_str _) hg.2⟩)
  · obtain ⟨c, vs, rfl, h1, r1⟩ := red_lst ha
    obtain ⟨d, us, rfl, h2, r2⟩ := red_lst hb
    exact .inr (.inr (.inl ⟨c, d, vs, us, rfl, rfl, h1, h2, by rw [r1.length, r2.length]; exact hg.1, fun p hp => hk _ _ _ (.lst hp (r1.append r2)) hg.2⟩))
  · obtain ⟨c, vs, rfl, h1, r1⟩ := red_tup ha
    obtain ⟨d, us, rfl, h2, r2⟩ := red_tup hb
    refine .inr (.inr (.inr ⟨c, d, vs, us, rfl, rfl, SqT.of (s _ _ h1), SqT.of (s _ _ h2), by rw [r1.length, r2.length]; exact hg.1, fun e => ?_, fun _ e => ?_, fun _ _ p hp => hk _ _ _ (.tup hp (r1.append r2)) hg.2⟩))
    · subst e
      have := r1.length
      rename_i l m
      have e : l = [] := List.length_eq_zero_iff.mp (by simpa using this.symm)
      subst e
      exact hk _ _ _ (.sh (rep_tup.mpr ⟨d, us, rfl, h2, r2⟩)) hg.2
    · subst e
      have := r2.length
      rename_i l m _
      have e : m = [] := List.length_eq_zero_iff.mp (by simpa using this.symm)
      subst e
      refine hk _ _ _ (.sh (rep_tup.mpr ⟨c, vs, rfl, h1, ?_⟩)) hg.2
      rw [List.append_nil]
      exact r1
  · exact hg.elim
theorem ok_sub {K : PySem.W.Frag} : Ok2 K (rI0 fun i j => .int (i - j)) gSub := by
  intro F H x y a b k Q s ha hb hg hk
  unfold gSub at hg
  split at hg
  · exact ⟨_, _, red_int ha, red_int hb, hk _ _ _ (mk_int _) hg⟩
  · exact hg.elim
def rMulA : R2 := fun x y H Q => rI CMul (fun i j => .int (i * j)) x y H Q ∨ rI CMulW (fun i j => .int (i * j)) x y H Q ∨ rRep x y H Q
theorem op_mulA {X : Cx} : OpR X (binaryOp .Mult) rMulA := OpR_or op_mul (OpR_or op_mulW op_rep)
theorem ok_mul {K : PySem.W.Frag} : Ok2 K rMulA gMul := by
  intro F H x y a b k Q s ha hb hg hk
  unfold gMul at hg
  split at hg
  · rcases hg.1 with c | c
    · exact .inl ⟨_, _, red_int ha, red_int hb, c, hk _ _ _ (mk_int _) hg.2⟩
    · exact .inr (.inl ⟨_, _, red_int ha, red_int hb, c, hk _ _ _ (mk_int _) hg.2⟩)
  · obtain ⟨c, vs, rfl, h1, r1⟩ := red_lst ha
    obtain ⟨⟨z1, z2, z3⟩, q⟩ := hg
    exact .inr (.inr ⟨c, _, vs, rfl, red_int hb, h1, z1, z2, by rw [r1.length]; exact z3, fun p hp => hk _ _ _ (.lst hp (ok_rep r1 _)) q⟩)
  · exact hg.elim
theorem ok_div {K : PySem.W.Frag} : Ok2 K (rI CDivW fun i j => .int (i / j)) gDiv := by
  intro F H x y a b k Q s ha hb hg hk
  unfold gDiv at hg
  split at hg
  · exact ⟨_, _, red_int ha, red_int hb, hg.1, hk _ _ _ (mk_int _) hg.2⟩
  · exact hg.elim
theorem ok_mod {K : PySem.W.Frag} : Ok2 K (rI (fun _ j => 0 < j) fun i j => .int (i % j)) gMod := by
  intro F H x y a b k Q s ha hb hg hk
  unfold gMod at hg
  split at hg
  · exact ⟨_, _, red_int ha, red_int hb, hg.1, hk _ _ _ (mk_int _) hg.2⟩
  · exact hg.elim
theorem ok_pow {K : PySem.W.Frag} : Ok2 K (rI CPow fun i j => .int (i ^ j.toNat)) gPow := by
  intro F H x y a b k Q s ha hb hg hk
  unfold gPow at hg
  split at hg
  · exact ⟨_, _, red_int ha, red_int hb, hg.1, hk _ _ _ (mk_int _) hg.2⟩
  · exact hg.elim
def gNeg : G1 := fun a k => match a with
  | .int i => k (.sh (.int (-i)))
  | _ => False
theorem ok_neg {K : PySem.W.Frag} : OkU K (rU fun i => .int (-i)) gNeg := by
  intro F H x a k Q s ha hg hk
  unfold gNeg at hg
  split at hg
  · exact ⟨_, red_int ha, hk _ _ _ (mk_int _) hg⟩
  · exact hg.elim

/-! order -/
def gLt : G2 := fun a b k => match a, b with
  | .int i, .int j => k (.sh (.bl (decide (i < j))))
  | .str x, .str y => k (.sh (.bl (decide (x.cps.toList < y.cps.toList))))
  | _, _ => False
def gLe : G2 := fun a b k => match a, b with
  | .int i, .int j => k (.sh (.bl (decide (i ≤ j))))
  | _, _ => False
def gGt : G2 := fun a b k => match a, b with
  | .int i, .int j => k (.sh (.bl (decide (j < i))))
  | _, _ => False
def gGe : G2 := fun a b k => match a, b with
  | .int i, .int j => k (.sh (.bl (decide (j ≤ i))))
  | _, _ => False
def rLtA : R2 := fun x y H Q => rI0 (fun i j => .bl (decide (i < j))) x y H Q ∨ ∃ i j, x = .str i ∧ y = .str j ∧ Q (.bl (decide (i.cps.toList < j.cps.toList))) H
theorem op_ltA {X : Cx} : OpR X (compareOp .Lt) rLtA := OpR_or op_lt op_lt_str
theorem ok_lt {K : PySem.W.Frag} : Ok2 K rLtA gLt := by
  intro F H x y a b k Q s ha hb hg hk
  unfold gLt at hg
  split at hg
  · exact .inl ⟨_, _, red_int ha, red_int hb, hk _ _ _ (mk_bl _) hg⟩
  · exact .inr ⟨_, _, red_str ha, red_str hb, hk _ _ _ (mk_bl _) hg⟩
  · exact hg.elim
theorem ok_le {K : PySem.W.Frag} : Ok2 K (rI0 fun i j => .bl (decide (i ≤ j))) gLe := by
  intro F H x y a b k Q s ha hb hg hk
  unfold gLe at hg
  split at hg
  · exact ⟨_, _, red_int ha, red_int hb, hk _ _ _ (mk_bl _) hg⟩
  · exact hg.elim
theorem ok_gt {K : PySem.W.Frag} : Ok2 K (rI0 fun i j => .bl (decide (j < i))) gGt := by
  intro F H x y a b k Q s ha hb hg hk
  unfold gGt at hg
  split at hg
  · exact ⟨_, _, red_int ha, red_int hb, hk _ _ _ (mk_bl _) hg⟩
  · exact hg.elim
theorem ok_ge {K : PySem.W.Frag} : Ok2 K (rI0 fun i j => .bl (decide (j ≤ i))) gGe := by
  intro F H x y a b k Q s ha hb hg hk
  unfold gGe at hg
  split at hg
  · exact ⟨_, _, red_int ha, red_int hb, hk _ _ _ (mk_bl _) hg⟩
  · exact hg.elim

/-! is None -/
def isNon : D → Bool
  | .non => true
  | _ => false
theorem red_isNon {K : PySem.W.Frag} {F H : Hp} {a : D} {x : V} (h : Red K F H a x) : decide (x = .non) = isNon a := by
  cases a with
  | non => rw [red_non h]; rfl
  | bl _ => rw [red_bl h]; rfl
  | int _ => rw [red_int h]; rfl
  | str _ => rw [red_str h]; rfl
  | lst _ => obtain ⟨a, vs, rfl, _⟩ := red_lst h; rfl
  | dk _ => obtain ⟨a, vs, rfl, _⟩ := red_dk h; rfl
  | dt _ => obtain ⟨a, vs, rfl, _⟩ := red_dt h; rfl
  | tup _ => obtain ⟨a, vs, rfl, _⟩ := red_tup h; rfl
  | kt l => unfold Red Rep at h; obtain ⟨a, vs, rfl, _⟩ := h; rfl
  | pt l => obtain ⟨a, o, vs, rfl, _⟩ := red_pt h; rfl
  | ins C l => unfold Red at h; obtain ⟨a, _, vs, rfl, _⟩ := h; rfl
  | han a => unfold Red Rep at h; subst h; rfl
  | ty a => unfold Red Rep at h; subst h; rfl
  | rng i j => unfold Red Rep at h; obtain ⟨a, rfl, _⟩ := h; rfl
def gIs : G2 := fun a b k => match b with
  | .non => k (.sh (.bl (isNon a)))
  | _ => False
def gIsN : G2 := fun a b k => match b with
  | .non => k (.sh (.bl (!isNon a)))
  | _ => False
theorem ok_is {K : PySem.W.Frag} : Ok2 K (fun x y H Q => y = .non ∧ Q (.bl (decide (x = .non))) H) gIs := by
  intro F H x y a b k Q s ha hb hg hk
  unfold gIs at hg
  split at hg
  · refine ⟨red_non hb, ?_⟩
    rw [red_isNon ha]
    exact hk _ _ _ (mk_bl _) hg
  · exact hg.elim
theorem ok_isN {K : PySem.W.Frag} : Ok2 K (fun x y H Q => y = .non ∧ Q (.bl (!decide (x = .non))) H) gIsN := by
  intro F H x y a b k Q s ha hb hg hk
  unfold gIsN at hg
  split at hg
  · refine ⟨red_non hb, ?_⟩
    rw [red_isNon ha]
    exact hk _ _ _ (mk_bl _) hg
  · exact hg.elim

/-! == -/
mutual
def eqD : D → D → Bool
  | .non, .non => true
  | .bl a, .bl b => a == b
  | .bl a, .int b => (if a then 1 else 0) == b
  | .int a, .bl b => a == (if b then 1 else 0)
  | .int a, .int b => a == b
  | .str a, .str b => a == b
  | .lst a, .lst b => eqDs a b
  | .tup a, .tup b => eqDs a b
  | .pt a, .pt b => eqDs a b
  | .pt a, .tup b => eqDs a b
  | .tup a, .pt b => eqDs a b
  | _, _ => false
def eqDs : List D → List D → Bool
  | [], [] => true
  | a :: l, b :: m => eqD a b && eqDs l m
  | _, _ => false
end
mutual
/-- data of depth below n, all texts of right signs -/
def okN : Nat → D → Bool
  | _, .non => true
  | _, .bl _ => true
  | _, .int _ => true
  | _, .str x => PyData.strOk x
  | 0, .lst _ => false
  | 0, .tup _ => false
  | 0, .pt _ => false
  | n + 1, .lst l => okNs n l
  | n + 1, .tup l => okNs n l
  | n + 1, .pt l => okNs n l
  | _, _ => false
def okNs : Nat → List D → Bool
  | _, [] => true
  | n, d :: l => okN n d && okNs n l
end
mutual
def toP : D → PyData
  | .bl b => .bool b
  | .int i => .int i
  | .str x => .str x
  | .lst l => .list (toPs l)
  | .tup l => .tuple (toPs l)
  | .pt l => .tuple (toPs l)
  | _ => .none
def toPs : List D → List PyData
  | [] => []
  | d :: l => toP d :: toPs l
end
mutual
theorem toP_shape : ∀ (n : Nat) (d : D), okN n d = true → (toP d).canLay0 = true ∧ (toP d).depth ≤ n
  | n, .non, _ => by unfold toP PyData.canLay0 PyData.depth; exact ⟨rfl, Nat.zero_le _⟩
  | n, .bl _, _ => by unfold toP PyData.canLay0 PyData.depth; exact ⟨rfl, Nat.zero_le _⟩
  | n, .int _, _ => by unfold toP PyData.canLay0 PyData.depth; exact ⟨rfl, Nat.zero_le _⟩
  | n, .str x, h => by unfold okN at h; unfold toP PyData.canLay0 PyData.depth; exact ⟨h, Nat.zero_le _⟩
  | 0, .lst _, h => by unfold okN at h; cases h
  | 0, .tup _, h => by unfold okN at h; cases h
  | n + 1, .lst l, h => by
    unfold okN at h
    obtain ⟨a, b⟩ := toPs_shape n l h
    unfold toP PyData.canLay0 PyData.depth
    exact ⟨a, by omega⟩
  | n + 1, .tup l, h => by
    unfold okN at h
    obtain ⟨a, b⟩ := toPs_shape n l h
    unfold toP PyData.canLay0 PyData.depth
    exact ⟨a, by omega⟩
  | n, .kt _, h => by unfold okN at h; cases h
  | 0, .pt _, h => by unfold okN at h; cases h
  | n + 1, .pt l, h => by
    unfold okN at h
    obtain ⟨a, b⟩ := toPs_shape n l h
    unfold toP PyData.canLay0 PyData.depth
    exact ⟨a, by omega⟩
  | n, .dk _, h => by unfold okN at h; cases h
  | n, .dt _, h => by unfold okN at h; cases h
  | n, .ins _ _, h => by unfold okN at h; cases h
  | n, .han _, h => by unfold okN at h; cases h
  | n, .ty _, h => by unfold okN at h; cases h
  | n, .rng _ _, h => by unfold okN at h; cases h
theorem toPs_shape : ∀ (n : Nat) (l : List D), okNs n l = true → PyData.canLayAll0 (toPs l) = true ∧ PyData.depthAll (toPs l) ≤ n
  | n, [], _ => by unfold toPs PyData.canLayAll0 PyData.depthAll; exact ⟨rfl, Nat.zero_le _⟩
  | n, d :: l, h => by
    unfold okNs at h
    rw [Bool.and_eq_true] at h
    obtain ⟨a, b⟩ := toP_shape n d h.1
    obtain ⟨c, e⟩ := toPs_shape n l h.2
    unfold toPs PyData.canLayAll0 PyData.depthAll
    rw [a, c]
    exact ⟨rfl, by omega⟩
end
theorem shaped_of {n : Nat} {d : D} (h : okN n d = true) (hn : n ≤ 64) : SeqAt.shaped (toP d) = true := by
  obtain ⟨a, b⟩ := toP_shape n d h
  unfold SeqAt.shaped
  rw [a, Bool.true_and]
  exact decide_eq_true (by omega)
theorem okNs_all (n : Nat) : ∀ l : List D, okNs n l = l.all (okN n)
  | [] => by unfold okNs; rfl
  | d :: l => by unfold okNs; rw [List.all_cons, okNs_all n l]
mutual
theorem toP_eqv : ∀ (n : Nat) (a b : D), okN n a = true → ∀ m : Nat, okN m b = true → PyData.eqv (toP a) (toP b) = eqD a b
  | n, .non, b, _, m, hb => by cases b <;> first | (simp [okN] at hb; done) | simp [toP, PyData.eqv, eqD]
  | n, .bl _, b, _, m, hb => by cases b <;> first | (simp [okN] at hb; done) | simp [toP, PyData.eqv, eqD]
  | n, .int _, b, _, m, hb => by cases b <;> first | (simp [okN] at hb; done) | simp [toP, PyData.eqv, eqD]
  | n, .str _, b, _, m, hb => by cases b <;> first | (simp [toP, PyData.eqv, eqD]; done) | simp [okN] at hb
  | 0, .lst _, b, ha, m, hb => by simp [okN] at ha
  | 0, .tup _, b, ha, m, hb => by simp [okN] at ha
  | n + 1, .lst l, b, ha, m, hb => by
    cases b with
    | lst r =>
      cases m with
      | zero => simp [okN] at hb
      | succ m =>
        unfold okN at ha hb
        have := toPs_eqv n l r ha m hb
        simp [toP, PyData.eqv, eqD, this]
    | _ => first | (simp [toP, PyData.eqv, eqD]; done) | simp [okN] at hb
  | n + 1, .tup l, b, ha, m, hb => by
    cases b with
    | tup r =>
      cases m with
      | zero => simp [okN] at hb
      | succ m =>
        unfold okN at ha hb
        have := toPs_eqv n l r ha m hb
        simp [toP, PyData.eqv, eqD, this]
    | pt r =>
      cases m with
      | zero => simp [okN] at hb
      | succ m =>
        unfold okN at ha hb
        have := toPs_eqv n l r ha m hb
        simp [toP, PyData.eqv, eqD, this]
    | _ => first | (simp [toP, PyData.eqv, eqD]; done) | simp [okN] at hb
  | n, .kt _, b, ha, m, hb => by simp [okN] at ha
  | 0, .pt _, b, ha, m, hb => by simp [okN] at ha
  | n + 1, .pt l, b, ha, m, hb => by
    cases b with
    | tup r =>
      cases m with
      | zero => simp [okN] at hb
      | succ m =>
        unfold okN at ha hb
        have := toPs_eqv n l r ha m hb
        simp [toP, PyData.eqv, eqD, this]
    | pt r =>
      cases m with
      | zero => simp [okN] at hb
      | succ m =>
        unfold okN at ha hb
        have := toPs_eqv n l r ha m hb
        simp [toP, PyData.eqv, eqD, this]
    | _ => first | (simp [toP, PyData.eqv, eqD]; done) | simp [okN] at hb
  | n, .dk _, b, ha, m, hb => by simp [okN] at ha
  | n, .dt _, b, ha, m, hb => by simp [okN] at ha
  | n, .ins _ _, b, ha, m, hb => by simp [okN] at ha
  | n, .han _, b, ha, m, hb => by simp [okN] at ha
  | n, .ty _, b, ha, m, hb => by simp [okN] at ha
  | n, .rng _ _, b, ha, m, hb => by simp [okN] at ha
theorem toPs_eqv : ∀ (n : Nat) (a b : List D), okNs n a = true → ∀ m : Nat, okNs m b = true → PyData.eqvAll (toPs a) (toPs b) = eqDs a b
  | n, [], [], _, m, _ => by simp [toPs, PyData.eqvAll, eqDs]
  | n, [], _ :: _, _, m, _ => by simp [toPs, PyData.eqvAll, eqDs]
  | n, _ :: _, [], _, m, _ => by simp [toPs, PyData.eqvAll, eqDs]
  | n, a :: l, b :: r, ha, m, hb => by
    unfold okNs at ha hb
    rw [Bool.and_eq_true] at ha hb
    have h1 := toP_eqv n a b ha.1 m hb.1
    have h2 := toPs_eqv n l r ha.2 m hb.2
    simp [toPs, PyData.eqvAll, eqDs, h1, h2]
end
mutual
theorem dp_of {K : PySem.W.Frag} {F H : Hp} (s : L2.Same F H) : ∀ (n : Nat) (d : D) (v : V), okN n d = true → Red K F H d v → Dp K H v (toP d)
  | n, .non, v, _, h => by rw [red_non h]; unfold toP; exact .non
  | n, .bl b, v, _, h => by rw [red_bl h]; unfold toP; exact .bl b
  | n, .int b, v, _, h => by rw [red_int h]; unfold toP; exact .int b
  | n, .str b, v, _, h => by rw [red_str h]; unfold toP; exact .str b
  | 0, .lst _, _, ha, _ => by simp [okN] at ha
  | 0, .tup _, _, ha, _ => by simp [okN] at ha
  | n + 1, .lst l, v, ha, h => by
    obtain ⟨a, vs, rfl, h1, r⟩ := red_lst h
    unfold okN at ha
    unfold toP
    exact .lst (SqL.of h1) (dps_of s n l vs ha r)
  | n + 1, .tup l, v, ha, h => by
    obtain ⟨a, vs, rfl, h1, r⟩ := red_tup h
    unfold okN at ha
    unfold toP
    exact .tup (SqT.of (s _ _ h1)) (dps_of s n l vs ha r)
  | n, .kt _, _, ha, _ => by simp [okN] at ha
  | 0, .pt _, _, ha, _ => by simp [okN] at ha
  | n + 1, .pt l, v, ha, h => by
    obtain ⟨a, o, vs, rfl, h1, _, r⟩ := red_pt h
    unfold okN at ha
    unfold toP
    exact .tup (.inl (.inr ⟨o, s _ _ h1⟩)) (dps_of s n l vs ha r)
  | n, .dk _, _, ha, _ => by simp [okN] at ha
  | n, .dt _, _, ha, _ => by simp [okN] at ha
  | n, .ins _ _, _, ha, _ => by simp [okN] at ha
  | n, .han _, _, ha, _ => by simp [okN] at ha
  | n, .ty _, _, ha, _ => by simp [okN] at ha
  | n, .rng _ _, _, ha, _ => by simp [okN] at ha
theorem dps_of {K : PySem.W.Frag} {F H : Hp} (s : L2.Same F H) : ∀ (n : Nat) (l : List D) (vs : List V), okNs n l = true → RepL K F l vs → DpAll K H vs (toPs l)
  | n, [], vs, _, h => by
    unfold RepL at h
    subst h
    unfold toPs
    exact .nil
  | n, d :: l, vs, ha, h => by
    unfold RepL at h
    obtain ⟨x, r, rfl, h1, h2⟩ := h
    unfold okNs at ha
    rw [Bool.and_eq_true] at ha
    unfold toPs
    exact .cons (dp_of s n d x ha.1 (.of_rep s h1)) (dps_of s n l r ha.2 h2)
end
/-- the scalars that == tells apart at once -/
def scalD : D → D → Bool
  | .non, .non => true | .non, .int _ => true | .int _, .non => true | .non, .bl _ => true | .bl _, .non => true | .non, .str _ => true | .str _, .non => true
  | .int _, .int _ => true | .bl _, .bl _ => true | .str _, .str _ => true
  | .int _, .str _ => true | .str _, .int _ => true | .bl _, .str _ => true | .str _, .bl _ => true
  | _, _ => false
theorem scal_of {K : PySem.W.Frag} {F H : Hp} {a b : D} {x y : V} (h : scalD a b = true) (ha : Red K F H a x) (hb : Red K F H b y) : scal x y = true ∧ decide (x = y) = eqD a b := by
  cases a <;> cases b <;> first | (cases h; done) | skip
  all_goals (first | rw [red_non ha] | rw [red_bl ha] | rw [red_int ha] | rw [red_str ha])
  all_goals (first | rw [red_non hb] | rw [red_bl hb] | rw [red_int hb] | rw [red_str hb])
  all_goals first | (refine ⟨rfl, ?_⟩; simp [eqD]; done) | (refine ⟨rfl, ?_⟩; unfold eqD; first | exact dec_int | exact dec_bl | exact dec_str)
def okE (a b : D) : Prop := scalD a b = true ∨ okN 60 a = true ∧ okN 60 b = true
def gEq : G2 := fun a b k => okE a b ∧ k (.sh (.bl (eqD a b)))
def gNe : G2 := fun a b k => okE a b ∧ k (.sh (.bl (!eqD a b)))
def rEqA (K : PySem.W.Frag) : R2 := fun x y H Q => rEq x y H Q ∨ rEqD K x y H Q
def rNeA (K : PySem.W.Frag) : R2 := fun x y H Q => rNe x y H Q ∨ rNeD K x y H Q
theorem op_eqA {X : Cx} (hu : X.A.units + 64 < cLine) : OpR X (compareOp .Eq) (rEqA X.K) := OpR_or op_eq (op_eqD hu)
theorem op_neA {X : Cx} (hu : X.A.units + 64 < cLine) : OpR X (compareOp .NotEq) (rNeA X.K) := OpR_or op_ne (op_neD hu)
theorem ok_eq {K : PySem.W.Frag} : Ok2 K (rEqA K) gEq := by
  rintro F H x y a b k Q s ha hb ⟨h | ⟨h1, h2⟩, hg⟩ hk
  · obtain ⟨z, e⟩ := scal_of h ha hb
    refine .inl ⟨z, ?_⟩
    rw [e]
    exact hk _ _ _ (mk_bl _) hg
  · refine .inr ⟨_, _, dp_of s 60 a x h1 ha, dp_of s 60 b y h2 hb, shaped_of h1 (by decide), shaped_of h2 (by decide), ?_⟩
    rw [toP_eqv 60 a b h1 60 h2]
    exact hk _ _ _ (mk_bl _) hg
theorem ok_ne {K : PySem.W.Frag} : Ok2 K (rNeA K) gNe := by
  rintro F H x y a b k Q s ha hb ⟨h | ⟨h1, h2⟩, hg⟩ hk
  · obtain ⟨z, e⟩ := scal_of h ha hb
    refine .inl ⟨z, ?_⟩
    rw [e]
    exact hk _ _ _ (mk_bl _) hg
  · refine .inr ⟨_, _, dp_of s 60 a x h1 ha, dp_of s 60 b y h2 hb, shaped_of h1 (by decide), shaped_of h2 (by decide), ?_⟩
    rw [toP_eqv 60 a b h1 60 h2]
    exact hk _ _ _ (mk_bl _) hg
end VL

set_option Elab.async false
set_option linter.all false
set_option maxRecDepth 100000
set_option maxHeartbeats 1000000
namespace VL
open PySem PySem.Spec PyProof.Rows L2

/-! tables as data -/
section
variable {κ : Type} [DecidableEq κ] {α : Type}
def valD (l : List (κ × α)) (k : κ) : Option α := (l.find? fun kv => decide (kv.1 = k)).map (·.2)
def putD (l : List (κ × α)) (k : κ) (v : α) : List (κ × α) := if (l.any fun kv => decide (kv.1 = k)) = true then l.map (fun kv => if kv.1 = k then (kv.1, v) else kv) else l ++ [(k, v)]
def delD (l : List (κ × α)) (k : κ) : List (κ × α) := l.filter fun kv => decide (kv.1 ≠ k)
theorem valD_nil {k : κ} : valD ([] : List (κ × α)) k = none := rfl
theorem valD_cons (p : κ × α) (r : List (κ × α)) (k : κ) : valD (p :: r) k = if p.1 = k then some p.2 else valD r k := by
  unfold valD
  by_cases h : p.1 = k <;> simp [List.find?_cons, h]
theorem valD_isSome (k : κ) (l : List (κ × α)) : (l.any fun kv => decide (kv.1 = k)) = (valD l k).isSome := by
  induction l with
  | nil => rfl
  | cons p r ih =>
    rw [List.any_cons, valD_cons, ih]
    by_cases h : p.1 = k <;> simp [h]
theorem valD_append_new (l : List (κ × α)) (k j : κ) (v : α) (h : valD l k = none) : valD (l ++ [(k, v)]) j = if j = k then some v else valD l j := by
  induction l with
  | nil =>
    rw [List.nil_append, valD_cons, valD_nil]
    by_cases h : k = j
    · subst h; simp
    · have h' : ¬ j = k := fun z => h z.symm
      simp [h, h']
  | cons p r ih =>
    rw [valD_cons] at h
    split at h
    · cases h
    · rename_i hp
      rw [List.cons_append, valD_cons, valD_cons, ih h]
      by_cases hj : j = k
      · subst hj; rw [if_neg hp]; simp
      · simp [hj]
theorem valD_map (l : List (κ × α)) (k j : κ) (v : α) : valD (l.map fun kv => if kv.1 = k then (kv.1, v) else kv) j = (valD l j).map fun x => if j = k then v else x := by
  induction l with
  | nil => rfl
  | cons p r ih =>
    rw [List.map_cons, valD_cons, valD_cons, ih]
    by_cases hp : p.1 = k
    · simp only [hp, if_true]
      by_cases hj : k = j
      · subst hj; simp
      · have : ¬ j = k := fun z => hj z.symm
        simp [hj]
    · simp only [hp, if_false]
      by_cases hj : p.1 = j
      · subst hj; simp [hp]
      · simp [hj]
theorem valD_put (l : List (κ × α)) (k j : κ) (v : α) : valD (putD l k v) j = if j = k then some v else valD l j := by
  unfold putD
  split
  · rename_i h
    rw [valD_map]
    rw [valD_isSome] at h
    by_cases hj : j = k
    · subst hj
      cases e : valD l j with
      | none => rw [e] at h; cases h
      | some x => simp
    · simp only [hj, if_false]
      cases valD l j <;> rfl
  · rename_i h
    refine valD_append_new l k j v ?_
    rw [valD_isSome] at h
    cases e : valD l k with
    | none => rfl
    | some x => rw [e] at h; exact (h rfl).elim
theorem putD_length (l : List (κ × α)) (k : κ) (v : α) : (putD l k v).length ≤ l.length + 1 := by
  unfold putD
  split <;> simp
end
section
variable {K : PySem.W.Frag} {F : Hp}
theorem repK_val : ∀ {l : List (Key × D)} {vs : List (Key × V)}, RepK K F l vs → ∀ k : Key, (∀ d, valD l k = some d → ∃ v, valV vs k = some v ∧ Rep K F d v) ∧ (valD l k = none → valV vs k = none)
  | [], vs, h, k => by
    unfold RepK at h
    subst h
    exact ⟨fun d e => (by cases e), fun _ => rfl⟩
  | (k', d') :: l, vs, h, k => by
    unfold RepK at h
    obtain ⟨x, r, rfl, h1, h2⟩ := h
    have ih := repK_val h2 k
    rw [valD_cons]
    by_cases hk : k' = k
    · rw [if_pos hk, valV_pos (p := (k', x)) hk]
      exact ⟨fun d e => by cases e; exact ⟨x, rfl, h1⟩, fun e => by cases e⟩
    · rw [if_neg hk, valV_neg (p := (k', x)) hk]
      exact ih
theorem repT_val : ∀ {l : List (List Key × D)} {vs : List (List Key × V)}, RepT K F l vs → ∀ k : List Key, (∀ d, valD l k = some d → ∃ v, valV vs k = some v ∧ Rep K F d v) ∧ (valD l k = none → valV vs k = none)
  | [], vs, h, k => by
    unfold RepT at h
    subst h
    exact ⟨fun d e => (by cases e), fun _ => rfl⟩
  | (k', d') :: l, vs, h, k => by
    unfold RepT at h
    obtain ⟨x, r, rfl, h1, h2⟩ := h
    have ih := repT_val h2 k
    rw [valD_cons]
    by_cases hk : k' = k
    · rw [if_pos hk, valV_pos (p := (k', x)) hk]
      exact ⟨fun d e => by cases e; exact ⟨x, rfl, h1⟩, fun e => by cases e⟩
    · rw [if_neg hk, valV_neg (p := (k', x)) hk]
      exact ih
theorem repK_snoc {k : Key} {d : D} {v : V} (hv : Rep K F d v) : ∀ {l : List (Key × D)} {vs : List (Key × V)}, RepK K F l vs → RepK K F (l ++ [(k, d)]) (vs ++ [(k, v)])
  | [], vs, h => by
    unfold RepK at h
    subst h
    unfold RepK RepK
    exact ⟨v, [], rfl, hv, rfl⟩
  | (k', d') :: l, vs, h => by
    unfold RepK at h
    obtain ⟨x, r, rfl, h1, h2⟩ := h
    rw [List.cons_append]
    unfold RepK
    exact ⟨x, _, rfl, h1, repK_snoc hv h2⟩
theorem repT_snoc {k : List Key} {d : D} {v : V} (hv : Rep K F d v) : ∀ {l : List (List Key × D)} {vs : List (List Key × V)}, RepT K F l vs → RepT K F (l ++ [(k, d)]) (vs ++ [(k, v)])
  | [], vs, h => by
    unfold RepT at h
    subst h
    unfold RepT RepT
    exact ⟨v, [], rfl, hv, rfl⟩
  | (k', d') :: l, vs, h => by
    unfold RepT at h
    obtain ⟨x, r, rfl, h1, h2⟩ := h
    rw [List.cons_append]
    unfold RepT
    exact ⟨x, _, rfl, h1, repT_snoc hv h2⟩
theorem repK_map {k : Key} {d : D} {v : V} (hv : Rep K F d v) : ∀ {l : List (Key × D)} {vs : List (Key × V)}, RepK K F l vs → RepK K F (l.map fun kv => if kv.1 = k then (kv.1, d) else kv) (vs.map fun kv => if kv.1 = k then (kv.1, v) else kv)
  | [], vs, h => by
    unfold RepK at h
    subst h
    exact (by unfold RepK; rfl)
  | (k', d') :: l, vs, h => by
    unfold RepK at h
    obtain ⟨x, r, rfl, h1, h2⟩ := h
    have ih := repK_map (k := k) hv h2
    rw [List.map_cons, List.map_cons]
    by_cases hk : k' = k
    · simp only [hk, if_true]
      unfold RepK
      exact ⟨v, _, rfl, hv, ih⟩
    · simp only [hk, if_false]
      unfold RepK
      exact ⟨x, _, rfl, h1, ih⟩
theorem repT_map {k : List Key} {d : D} {v : V} (hv : Rep K F d v) : ∀ {l : List (List Key × D)} {vs : List (List Key × V)}, RepT K F l vs → RepT K F (l.map fun kv => if kv.1 = k then (kv.1, d) else kv) (vs.map fun kv => if kv.1 = k then (kv.1, v) else kv)
  | [], vs, h => by
    unfold RepT at h
    subst h
    exact (by unfold RepT; rfl)
  | (k', d') :: l, vs, h => by
    unfold RepT at h
    obtain ⟨x, r, rfl, h1, h2⟩ := h
    have ih := repT_map (k := k) hv h2
    rw [List.map_cons, List.map_cons]
    by_cases hk : k' = k
    · simp only [hk, if_true]
      unfold RepT
      exact ⟨v, _, rfl, hv, ih⟩
    · simp only [hk, if_false]
      unfold RepT
      exact ⟨x, _, rfl, h1, ih⟩
theorem repK_any (k : Key) : ∀ {l : List (Key × D)} {vs : List (Key × V)}, RepK K F l vs → (l.any fun kv => decide (kv.1 = k)) = vs.any fun kv => decide (kv.1 = k)
  | [], vs, h => by unfold RepK at h; subst h; rfl
  | (k', d') :: l, vs, h => by
    unfold RepK at h
    obtain ⟨x, r, rfl, h1, h2⟩ := h
    rw [List.any_cons, List.any_cons, repK_any k h2]
theorem repT_any (k : List Key) : ∀ {l : List (List Key × D)} {vs : List (List Key × V)}, RepT K F l vs → (l.any fun kv => decide (kv.1 = k)) = vs.any fun kv => decide (kv.1 = k)
  | [], vs, h => by unfold RepT at h; subst h; rfl
  | (k', d') :: l, vs, h => by
    unfold RepT at h
    obtain ⟨x, r, rfl, h1, h2⟩ := h
    rw [List.any_cons, List.any_cons, repT_any k h2]
theorem repK_put {l : List (Key × D)} {vs : List (Key × V)} {k : Key} {d : D} {v : V} (h : RepK K F l vs) (hv : Rep K F d v) : RepK K F (putD l k d) (putK vs k v) := by
  unfold putD putK
  rw [repK_any k h]
  split
  · exact repK_map hv h
  · exact repK_snoc hv h
theorem repT_put {l : List (List Key × D)} {vs : List (List Key × V)} {k : List Key} {d : D} {v : V} (h : RepT K F l vs) (hv : Rep K F d v) : RepT K F (putD l k d) (putK vs k v) := by
  unfold putD putK
  rw [repT_any k h]
  split
  · exact repT_map hv h
  · exact repT_snoc hv h
end

/-! keys -/
def toK : D → Option Key
  | .int i => some (.inl i)
  | .str x => some (.inr x)
  | _ => none
def toKs : List D → Option (List Key)
  | [] => some []
  | d :: l => match toK d with
    | some k => match toKs l with
      | some ks => some (k :: ks)
      | none => none
    | none => none
section
variable {K : PySem.W.Frag} {F H : Hp}
theorem toK_rep {d : D} {k : Key} {v : V} (h : toK d = some k) (r : Rep K F d v) : v = kV k := by
  cases d <;> cases h
  · exact rep_int.mp r
  · exact rep_str.mp r
theorem toKs_rep : ∀ {l : List D} {ks : List Key} {vs : List V}, toKs l = some ks → RepL K F l vs → vs = ks.map kV
  | [], _, vs, h, r => by
    cases h
    unfold RepL at r
    exact r
  | d :: l, ks, vs, h, r => by
    unfold toKs at h
    unfold RepL at r
    obtain ⟨x, rr, rfl, r1, r2⟩ := r
    cases e1 : toK d with
    | none => rw [e1] at h; cases h
    | some k =>
      cases e2 : toKs l with
      | none => rw [e1, e2] at h; cases h
      | some ks' =>
        rw [e1, e2] at h
        cases h
        rw [toK_rep e1 r1, toKs_rep e2 r2]
        rfl
/-- what the dict holds at the key -/
def getDk (d k : D) (kk : Option D → Prop) : Prop := match d with
  | .dk l => match toK k with
    | some key => kk (valD l key)
    | none => False
  | .dt l => match k with
    | .tup t => match toKs t with
      | some ks => kk (valD l ks)
      | none => False
    | _ => False
  | _ => False
theorem getDk_some {d k : D} {kk : Option D → Prop} {x y : V} (s : L2.Same F H) (h : getDk d k kk) (hx : Red K F H d x) (hy : Red K F H k y) :
    ∃ a od o, x = .ref a ∧ kk od ∧ DGet H a y o ∧ IsD H a ∧ (∀ e, od = some e → ∃ v, o = some v ∧ Rep K F e v) ∧ (od = none → o = none) := by
  unfold getDk at h
  split at h
  · rename_i l
    split at h
    · rename_i key hk
      obtain ⟨a, vs, rfl, h1, r⟩ := red_dk hx
      have hy' : y = kV key := by
        cases k <;> cases hk
        · exact red_int hy
        · exact red_str hy
      obtain ⟨v1, v2⟩ := repK_val r key
      exact ⟨a, _, _, rfl, h, .inl ⟨vs, key, h1, hy', rfl⟩, .inl ⟨vs, h1⟩, v1, v2⟩
    · exact h.elim
  · rename_i l
    split at h
    · rename_i t
      split at h
      · rename_i ks hk
        obtain ⟨a, vs, rfl, h1, r⟩ := red_dt hx
        obtain ⟨b, us, rfl, h2, r2⟩ := red_tup hy
        have e := toKs_rep hk r2
        subst e
        obtain ⟨v1, v2⟩ := repT_val r ks
        exact ⟨a, _, _, rfl, h, .inr ⟨vs, ks, b, h1, rfl, s _ _ h2, rfl⟩, .inr ⟨vs, h1⟩, v1, v2⟩
      · exact h.elim
    · exact h.elim
  · exact h.elim
end

/-! in, not in -/
def flatD : D → Bool
  | .non => true
  | .bl _ => true
  | .int _ => true
  | .str _ => true
  | _ => false
theorem flatD_red {K : PySem.W.Frag} {F H : Hp} {a : D} {x : V} (f : flatD a = true) (h : Red K F H a x) : flatV x = true := by
  cases a <;> first | (cases f; done) | skip
  · rw [red_non h]; rfl
  · rw [red_bl h]; rfl
  · rw [red_int h]; rfl
  · rw [red_str h]; rfl
theorem eqD_flat {K : PySem.W.Frag} {F H : Hp} {a b : D} {x y : V} (fa : flatD a = true) (fb : flatD b = true) (ha : Red K F H a x) (hb : Red K F H b y) : eqV x y = eqD a b := by
  cases a <;> cases b <;> first | (cases fa; done) | (cases fb; done) | skip
  all_goals (first | rw [red_non ha] | rw [red_bl ha] | rw [red_int ha] | rw [red_str ha])
  all_goals (first | rw [red_non hb] | rw [red_bl hb] | rw [red_int hb] | rw [red_str hb])
  all_goals first | rfl | simp [eqV, eqD]
def inD (d : D) (l : List D) : Bool := l.any fun z => eqD z d
theorem inV_flat {K : PySem.W.Frag} {F H : Hp} (s : L2.Same F H) {d : D} {x : V} (fd : flatD d = true) (hd : Red K F H d x) : ∀ {l : List D} {vs : List V}, l.all flatD = true → RepL K F l vs → vs.all flatV = true ∧ inV x vs = inD d l
  | [], vs, _, r => by
    unfold RepL at r
    subst r
    exact ⟨rfl, rfl⟩
  | e :: l, vs, f, r => by
    unfold RepL at r
    obtain ⟨v, rr, rfl, r1, r2⟩ := r
    rw [List.all_cons, Bool.and_eq_true] at f
    obtain ⟨h1, h2⟩ := inV_flat s fd hd f.2 r2
    unfold inV inD at h2 ⊢
    rw [List.all_cons, List.any_cons, List.any_cons, h1, h2, eqD_flat f.1 fd (.of_rep s r1) hd, flatD_red f.1 (.of_rep (K := K) s r1)]
    exact ⟨rfl, rfl⟩
def okI (d : D) (l : List D) : Prop := flatD d = true ∧ l.all flatD = true
def gInB (a b : D) (k : Bool → Prop) : Prop := match b with
  | .str z => match a with
    | .str x => ∃ c, x = ⟨#[c]⟩ ∧ k (decide (c ∈ z.cps.toList))
    | _ => False
  | .lst l => (okI a l ∨ okN 60 a = true ∧ okNs 60 l = true) ∧ k (inD a l)
  | .tup l => okI a l ∧ k (inD a l)
  | .rng i j => match a with
    | .int n => k (decide (i ≤ n ∧ n < j))
    | _ => False
  | b => getDk b a fun o => k o.isSome
def gIn : G2 := fun a b k => gInB a b fun c => k (.sh (.bl c))
def gNotIn : G2 := fun a b k => gInB a b fun c => k (.sh (.bl (!c)))
theorem op_notin_rng {X : Cx} : OpR X (compareOp .NotIn) (fun x y H Q => ∃ i a lo hi, x = V.int i ∧ y = V.ref a ∧ H a = some (.rng lo hi) ∧ Q (.bl (!decide (lo ≤ i ∧ i < hi))) H) := by
  intro pins s σ H x y v u Q I rx ry h
  obtain ⟨i, a, lo, hi, rfl, rfl, ha, q⟩ := h
  obtain ⟨k, rfl⟩ := rx
  obtain rfl : u = Value.ref a := ry
  obtain ⟨t1, t2, t3, ho⟩ := I.hok a _ ha
  show wpAny _ _ (do return Value.bool (!(← contains (Value.ref a) (Value.int i k)))) _ _ s
  refine wpAny_bind (wpAny_contains_slot (T := "range") ⟨_, ho, rfl⟩ F.slot_range_contains (call_meets F.slot_range_contains ⟨_, ho, rfl⟩ F.entry_range_contains (F.args_range_contains_2 _ _) (q_contains a lo hi i t1 t2 t3 k)
    ⟨ho, wpAny_truthy_bool (wpAny_pure ⟨.bl _, H, I, rfl, ?_⟩)⟩))
  rw [place1]
  exact q
def rInRng (n : Bool → Bool) : R2 := fun x y H Q => ∃ i a lo hi, x = V.int i ∧ y = V.ref a ∧ H a = some (.rng lo hi) ∧ Q (.bl (n (decide (lo ≤ i ∧ i < hi)))) H
def rInDct (n : Bool → Bool) : R2 := fun x y H Q => ∃ a o, y = .ref a ∧ DGet H a x o ∧ Q (.bl (n o.isSome)) H
def rInSgn (n : Bool → Bool) : R2 := fun x y H Q => ∃ (c : Nat) (z : Str), x = .str ⟨#[c]⟩ ∧ y = .str z ∧ Q (.bl (n (decide (c ∈ z.cps.toList)))) H
def rInA (K : PySem.W.Frag) : R2 := fun x y H Q => rIn K false x y H Q ∨ rInD K x y H Q ∨ rInSgn id x y H Q ∨ rInDct id x y H Q ∨ rInRng id x y H Q
def rNotInA (K : PySem.W.Frag) : R2 := fun x y H Q => rIn K true x y H Q ∨ rNotInD K x y H Q ∨ rInSgn (!·) x y H Q ∨ rInDct (!·) x y H Q ∨ rInRng (!·) x y H Q
theorem op_inDct {X : Cx} (hu : X.A.units + 1 < cLine) : OpR X (compareOp .In) (rInDct id) := by
  rintro pins s σ H x y v u Q I rx ry ⟨a, o, rfl, g, q⟩
  obtain rfl : u = Value.ref a := ry
  exact d_in hu I g rx fun s3 I3 => ⟨.bl o.isSome, H, I3, rfl, q⟩
theorem op_notInDct {X : Cx} (hu : X.A.units + 1 < cLine) : OpR X (compareOp .NotIn) (rInDct (!·)) := by
  rintro pins s σ H x y v u Q I rx ry ⟨a, o, rfl, g, q⟩
  obtain rfl : u = Value.ref a := ry
  exact d_notIn hu I g rx fun s3 I3 => ⟨.bl (!o.isSome), H, I3, rfl, q⟩
theorem op_inA {X : Cx} (hu : X.A.units + 65 < cLine) : OpR X (compareOp .In) (rInA X.K) := OpR_or op_in_seq (OpR_or (op_inD hu) (OpR_or op_in_sign (OpR_or (op_inDct (by omega)) op_in_rng)))
theorem op_notInA {X : Cx} (hu : X.A.units + 65 < cLine) : OpR X (compareOp .NotIn) (rNotInA X.K) := OpR_or op_notIn_seq (OpR_or (op_notInD hu) (OpR_or op_notIn_sign (OpR_or (op_notInDct (by omega)) op_notin_rng)))
theorem inPs (n : Nat) (d : D) (hd : okN n d = true) : ∀ l : List D, okNs n l = true → ((toPs l).any fun z => PyData.eqv z (toP d)) = inD d l
  | [], _ => by unfold toPs; rfl
  | e :: l, h => by
    unfold okNs at h
    rw [Bool.and_eq_true] at h
    have ih := inPs n d hd l h.2
    unfold inD at ih ⊢
    unfold toPs
    rw [List.any_cons, List.any_cons, ih, toP_eqv n e d h.1 n hd]
theorem gIn_core {K : PySem.W.Frag} {F H : Hp} {x y : V} {a b : D} {k : Bool → Prop} (s : L2.Same F H) (ha : Red K F H a x) (hb : Red K F H b y) (hg : gInB a b k) :
    ∃ c, k c ∧ ((∃ p xs, y = .ref p ∧ (SqL K H p xs ∨ SqT K H p xs) ∧ flatV x = true ∧ xs.all flatV = true ∧ inV x xs = c) ∨ (∃ d ds, Dp K H x d ∧ Dp K H y (.list ds) ∧ SeqAt.shaped d = true ∧ SeqAt.shaped (.list ds) = true ∧ (ds.any fun z => PyData.eqv z d) = c) ∨
      (∃ (e : Nat) (z : Str), x = .str ⟨#[e]⟩ ∧ y = .str z ∧ decide (e ∈ z.cps.toList) = c) ∨ (∃ a o, y = .ref a ∧ DGet H a x o ∧ o.isSome = c) ∨ ∃ i a lo hi, x = V.int i ∧ y = V.ref a ∧ H a = some (.rng lo hi) ∧ decide (lo ≤ i ∧ i < hi) = c) := by
  have dct : getDk b a (fun o => k o.isSome) → ∃ c, k c ∧ ∃ a o, y = .ref a ∧ DGet H a x o ∧ o.isSome = c := fun hg => by
    obtain ⟨p, od, o, rfl, q, g, _, g1, g2⟩ := getDk_some s hg hb ha
    refine ⟨_, q, p, o, rfl, g, ?_⟩
    cases od with
    | none => rw [g2 rfl] <;> rfl
    | some e => obtain ⟨v, ev, _⟩ := g1 e rfl; rw [ev] <;> rfl
  unfold gInB at hg
  split at hg
  · split at hg
    · obtain ⟨c, rfl, q⟩ := hg
      exact ⟨_, q, .inr (.inr (.inl ⟨c, _, red_str ha, red_str hb, rfl⟩))⟩
    · exact hg.elim
  · rename_i l
    obtain ⟨h | h, q⟩ := hg
    · obtain ⟨p, vs, rfl, h1, r⟩ := red_lst hb
      obtain ⟨i1, i2⟩ := inV_flat s h.1 ha h.2 r
      exact ⟨_, q, .inl ⟨p, vs, rfl, .inl (SqL.of h1), flatD_red h.1 ha, i1, i2⟩⟩
    · have hl : okN 61 (.lst l) = true := by unfold okN; exact h.2
      have z := dp_of s 61 (.lst l) y hl hb
      unfold toP at z
      have z2 := shaped_of hl (by decide)
      unfold toP at z2
      exact ⟨_, q, .inr (.inl ⟨_, _, dp_of s 60 a x h.1 ha, z, shaped_of h.1 (by decide), z2, inPs 60 a h.1 l h.2⟩)⟩
  · obtain ⟨h, q⟩ := hg
    obtain ⟨p, vs, rfl, h1, r⟩ := red_tup hb
    obtain ⟨i1, i2⟩ := inV_flat s h.1 ha h.2 r
    exact ⟨_, q, .inl ⟨p, vs, rfl, .inr (SqT.of (s _ _ h1)), flatD_red h.1 ha, i1, i2⟩⟩
  · split at hg
    · unfold Red Rep at hb
      obtain ⟨p, rfl, h1⟩ := hb
      exact ⟨_, hg, .inr (.inr (.inr (.inr ⟨_, p, _, _, red_int ha, rfl, s _ _ h1, rfl⟩)))⟩
    · exact hg.elim
  · obtain ⟨c, q, z⟩ := dct hg
    exact ⟨c, q, .inr (.inr (.inr (.inl z)))⟩
theorem ok_in {K : PySem.W.Frag} : Ok2 K (rInA K) gIn := by
  intro F H x y a b k Q s ha hb hg hk
  obtain ⟨c, q, h⟩ := gIn_core s ha hb hg
  have q' := hk _ _ _ (mk_bl c) q
  rcases h with ⟨p, xs, e, h1, h2, h3, rfl⟩ | ⟨d, ds, h1, h2, h3, h4, rfl⟩ | ⟨e, z, h1, h2, rfl⟩ | ⟨a, o, h1, h2, rfl⟩ | ⟨i, a, lo, hi, h1, h2, h3, rfl⟩
  · exact .inl ⟨p, xs, e, h1, h2, h3, q'⟩
  · exact .inr (.inl ⟨d, ds, h1, h2, h3, h4, q'⟩)
  · exact .inr (.inr (.inl ⟨e, z, h1, h2, q'⟩))
  · exact .inr (.inr (.inr (.inl ⟨a, o, h1, h2, q'⟩)))
  · exact .inr (.inr (.inr (.inr ⟨i, a, lo, hi, h1, h2, h3, q'⟩)))
theorem ok_notIn {K : PySem.W.Frag} : Ok2 K (rNotInA K) gNotIn := by
  intro F H x y a b k Q s ha hb hg hk
  obtain ⟨c, q, h⟩ := gIn_core s ha hb hg
  have q' := hk _ _ _ (mk_bl (!c)) q
  rcases h with ⟨p, xs, e, h1, h2, h3, rfl⟩ | ⟨d, ds, h1, h2, h3, h4, rfl⟩ | ⟨e, z, h1, h2, rfl⟩ | ⟨a, o, h1, h2, rfl⟩ | ⟨i, a, lo, hi, h1, h2, h3, rfl⟩
  · exact .inl ⟨p, xs, e, h1, h2, h3, q'⟩
  · exact .inr (.inl ⟨d, ds, h1, h2, h3, h4, q'⟩)
  · exact .inr (.inr (.inl ⟨e, z, h1, h2, q'⟩))
  · exact .inr (.inr (.inr (.inl ⟨a, o, h1, h2, q'⟩)))
  · exact .inr (.inr (.inr (.inr ⟨i, a, lo, hi, h1, h2, h3, q'⟩)))

/-! a[b] -/
def oD (o : Option D) (k : D → Prop) : Prop := match o with
  | some d => k d
  | none => False
def gIx : G2 := fun a b k => match a with
  | .lst l => match b with
    | .int i => oD (atI l i) fun d => k (.sh d)
    | _ => False
  | .tup l => match b with
    | .int i => oD (atI l i) fun d => k (.sh d)
    | _ => False
  | .pt l => match b with
    | .int i => oD (atI l i) fun d => k (.sh d)
    | _ => False
  | .str z => match b with
    | .int i => z.length ≤ sizeLine ∧ ∃ c, atI z.cps.toList i = some c ∧ k (.sh (.str ⟨#[c]⟩))
    | _ => False
  | a => getDk a b fun o => oD o fun d => k (.sh d)
def rIxDct : R2 := fun x y H Q => ∃ a v, x = .ref a ∧ DGet H a y (some v) ∧ Q v H
def rIxA (K : PySem.W.Frag) : R2 := fun x y H Q => rIx K x y H Q ∨ rIxDct x y H Q
theorem ix_dct {X : Cx} (hu : X.A.units + 1 < cLine) : IxR X rIxDct := by
  rintro value slice pins s σ H x y v u Q I rx ry ⟨a, w, rfl, g, q⟩ hs
  obtain rfl : v = Value.ref a := rx
  exact tail_any (dict_typeIs I g) PySem.F.slot_dict_getitem.lookup (d_getItem hu I g ry fun w' s3 I3 rw' => ⟨w, H, I3, rw', q⟩) hs
theorem ix_A {X : Cx} (hu : X.A.units + 1 < cLine) : IxR X (rIxA X.K) := ix_seq.or (ix_dct hu)
theorem oD_some {o : Option D} {k : D → Prop} (h : oD o k) : ∃ d, o = some d ∧ k d := by
  unfold oD at h
  split at h
  · exact ⟨_, rfl, h⟩
  · exact h.elim
theorem repL_atI {K : PySem.W.Frag} {F : Hp} {l : List D} {vs : List V} {i : Int} {d : D} (r : RepL K F l vs) (h : atI l i = some d) : ∃ v, atI vs i = some v ∧ Rep K F d v := by
  unfold atI at h ⊢
  rw [r.length]
  cases e : ixN l.length i with
  | none => rw [e] at h; cases h
  | some j =>
    rw [e] at h
    exact r.get h
theorem ok_ix {K : PySem.W.Frag} : Ok2 K (rIxA K) gIx := by
  intro F H x y a b k Q s ha hb hg hk
  have dct : (getDk a b fun o => oD o fun d => k (.sh d)) → rIxA K x y H Q := fun hg => by
    obtain ⟨p, od, o, rfl, q, g, _, g1, g2⟩ := getDk_some s hg ha hb
    obtain ⟨d, rfl, q⟩ := oD_some q
    obtain ⟨v, rfl, rv⟩ := g1 d rfl
    exact .inr ⟨p, v, rfl, g, hk _ _ _ (.sh rv) q⟩
  unfold gIx at hg
  split at hg
  · split at hg
    · obtain ⟨d, e, q⟩ := oD_some hg
      obtain ⟨p, vs, rfl, h1, r⟩ := red_lst ha
      obtain ⟨v, ev, rv⟩ := repL_atI r e
      exact .inl (.inl ⟨p, vs, _, v, rfl, red_int hb, SqL.of h1, ev, hk _ _ _ (.sh rv) q⟩)
    · exact hg.elim
  · split at hg
    · obtain ⟨d, e, q⟩ := oD_some hg
      obtain ⟨p, vs, rfl, h1, r⟩ := red_tup ha
      obtain ⟨v, ev, rv⟩ := repL_atI r e
      exact .inl (.inr (.inl ⟨p, vs, _, v, rfl, red_int hb, SqT.of (s _ _ h1), ev, hk _ _ _ (.sh rv) q⟩))
    · exact hg.elim
  · split at hg
    · obtain ⟨d, e, q⟩ := oD_some hg
      obtain ⟨p, o, vs, rfl, h1, _, r⟩ := red_pt ha
      obtain ⟨v, ev, rv⟩ := repL_atI r e
      exact .inl (.inr (.inl ⟨p, vs, _, v, rfl, red_int hb, .inl (.inr ⟨o, s _ _ h1⟩), ev, hk _ _ _ (.sh rv) q⟩))
    · exact hg.elim
  · split at hg
    · obtain ⟨h1, c, e, q⟩ := hg
      exact .inl (.inr (.inr ⟨_, _, c, red_str ha, red_int hb, h1, e, hk _ _ _ (mk_str _) q⟩))
    · exact hg.elim
  · exact dct hg
end VL

set_option Elab.async false
set_option linter.all false
set_option maxRecDepth 100000
set_option maxHeartbeats 1000000
namespace VL
open PySem PySem.Spec PyProof.Rows L2

/-! lists of ints, of bools as data -/
def intsD (ns : List Int) : List D := ns.map .int
def blsD (bs : List Bool) : List D := bs.map .bl
section
variable {K : PySem.W.Frag} {F H : Hp}
theorem repL_ints : ∀ {ns : List Int} {vs : List V}, RepL K F (intsD ns) vs → vs = ns.map V.int
  | [], vs, h => by unfold intsD at h; rw [List.map_nil] at h; unfold RepL at h; exact h
  | n :: ns, vs, h => by
    unfold intsD at h
    rw [List.map_cons] at h
    unfold RepL at h
    obtain ⟨x, r, rfl, h1, h2⟩ := h
    rw [rep_int.mp h1, repL_ints h2]
    rfl
theorem repL_bls : ∀ {ns : List Bool} {vs : List V}, RepL K F (blsD ns) vs → vs = ns.map V.bl
  | [], vs, h => by unfold blsD at h; rw [List.map_nil] at h; unfold RepL at h; exact h
  | n :: ns, vs, h => by
    unfold blsD at h
    rw [List.map_cons] at h
    unfold RepL at h
    obtain ⟨x, r, rfl, h1, h2⟩ := h
    rw [rep_bl.mp h1, repL_bls h2]
    rfl
theorem ints_rep : ∀ ns : List Int, RepL K F (intsD ns) (ns.map V.int)
  | [] => .nil
  | n :: ns => .cons (rep_int.mpr rfl) (ints_rep ns)
end

/-! built-in calls -/
def gLen : GL := fun ds k => match ds with
  | [.str z] => z.length ≤ sizeLine ∧ k (.sh (.int z.length))
  | [.lst l] => k (.sh (.int l.length))
  | [.tup l] => k (.sh (.int l.length))
  | [.dk l] => k (.sh (.int l.length))
  | [.pt l] => k (.sh (.int l.length))
  | _ => False
def rLenDK : List V → Hp → VK → Prop := fun xs H Q => ∃ a kvs, xs = [.ref a] ∧ L2.Rd H a (.dK kvs) ∧ Q (.int kvs.length) H
theorem call_lenDK {X : Cx} : CallR X (.builtin "len") rLenDK := by
  intro pins s σ H xs us Q I r h
  obtain ⟨a, kvs, rfl, e, q⟩ := h
  obtain ⟨u, rfl, rx⟩ := vals1 r
  obtain rfl : u = .ref a := rx
  exact d_len I e fun t s' I' => ⟨.int kvs.length, H, I', ⟨t, rfl⟩, q⟩
def rLenS : List V → Hp → VK → Prop := fun xs H Q => ∃ z, xs = [.str z] ∧ z.length ≤ sizeLine ∧ Q (.int z.length) H
def rLenL (K : PySem.W.Frag) : List V → Hp → VK → Prop := fun xs H Q => ∃ p ys, xs = [.ref p] ∧ (SqL K H p ys ∨ SqT K H p ys) ∧ Q (.int ys.length) H
def rLenA (K : PySem.W.Frag) : List V → Hp → VK → Prop := fun xs H Q => rLenL K xs H Q ∨ rLenS xs H Q ∨ rLenDK xs H Q
theorem call_lenA {X : Cx} : CallR X (.builtin "len") (rLenA X.K) := CallR.or call_len_seq (CallR.or call_len_str call_lenDK)
theorem ok_len {K : PySem.W.Frag} : OkL K (rLenA K) gLen := by
  intro F H xs ds k Q s r hg hk
  unfold gLen at hg
  split at hg
  · obtain ⟨x, rfl, h⟩ := redL1 r
    exact .inr (.inl ⟨_, by rw [red_str h], hg.1, hk _ _ _ (mk_int _) hg.2⟩)
  · obtain ⟨x, rfl, h⟩ := redL1 r
    obtain ⟨p, vs, rfl, h1, r1⟩ := red_lst h
    refine .inl ⟨p, vs, rfl, .inl (SqL.of h1), ?_⟩
    rw [r1.length]
    exact hk _ _ _ (mk_int _) hg
  · obtain ⟨x, rfl, h⟩ := redL1 r
    obtain ⟨p, vs, rfl, h1, r1⟩ := red_tup h
    refine .inl ⟨p, vs, rfl, .inr (SqT.of (s _ _ h1)), ?_⟩
    rw [r1.length]
    exact hk _ _ _ (mk_int _) hg
  · obtain ⟨x, rfl, h⟩ := redL1 r
    obtain ⟨p, vs, rfl, h1, r1⟩ := red_dk h
    refine .inr (.inr ⟨p, vs, rfl, h1, ?_⟩)
    rw [repK_len r1]
    exact hk _ _ _ (mk_int _) hg
  · obtain ⟨x, rfl, h⟩ := redL1 r
    obtain ⟨p, o, vs, rfl, h1, _, r1⟩ := red_pt h
    refine .inl ⟨p, vs, rfl, .inr (.inl (.inr ⟨o, s _ _ h1⟩)), ?_⟩
    rw [r1.length]
    exact hk _ _ _ (mk_int _) hg
  · exact hg.elim
def gInt : GL := fun ds k => match ds with
  | [.int i] => k (.sh (.int i))
  | [.bl b] => k (.sh (.int (if b = true then 1 else 0)))
  | _ => False
def rIntA : List V → Hp → VK → Prop := fun xs H Q => (∃ i, xs = [.int i] ∧ Q (.int i) H) ∨ ∃ k, xs = [.bl k] ∧ Q (.int (if k then 1 else 0)) H
theorem call_intA {X : Cx} : CallR X (.type "int") rIntA := call_int1
theorem ok_int {K : PySem.W.Frag} : OkL K rIntA gInt := by
  intro F H xs ds k Q s r hg hk
  unfold gInt at hg
  split at hg
  · obtain ⟨x, rfl, h⟩ := redL1 r
    exact .inl ⟨_, by rw [red_int h], hk _ _ _ (mk_int _) hg⟩
  · obtain ⟨x, rfl, h⟩ := redL1 r
    exact .inr ⟨_, by rw [red_bl h], hk _ _ _ (mk_int _) hg⟩
  · exact hg.elim
def gAbs : GL := fun ds k => match ds with
  | [.int i] => k (.sh (.int (if i < 0 then -i else i)))
  | _ => False
theorem ok_abs {K : PySem.W.Frag} : OkL K (fun xs H Q => ∃ i, xs = [.int i] ∧ Q (.int (if i < 0 then -i else i)) H) gAbs := by
  intro F H xs ds k Q s r hg hk
  unfold gAbs at hg
  split at hg
  · obtain ⟨x, rfl, h⟩ := redL1 r
    exact ⟨_, by rw [red_int h], hk _ _ _ (mk_int _) hg⟩
  · exact hg.elim
/-- max, min: two ints, or a list of ints -/
def gMax : GL := fun ds k => match ds with
  | [.int i, .int j] => k (.sh (.int (max i j)))
  | [.lst l] => ∃ ns, l = intsD ns ∧ 0 < ns.length ∧ ∀ m, m ∈ ns → (∀ y, y ∈ ns → y ≤ m) → k (.sh (.int m))
  | _ => False
def gMin : GL := fun ds k => match ds with
  | [.int i, .int j] => k (.sh (.int (min i j)))
  | [.lst l] => ∃ ns, l = intsD ns ∧ 0 < ns.length ∧ ∀ m, m ∈ ns → (∀ y, y ∈ ns → m ≤ y) → k (.sh (.int m))
  | _ => False
def rMax2 : List V → Hp → VK → Prop := fun xs H Q => ∃ i j, xs = [.int i, .int j] ∧ Q (.int (if j > i then j else i)) H
def rMin2 : List V → Hp → VK → Prop := fun xs H Q => ∃ i j, xs = [.int i, .int j] ∧ Q (.int (if j < i then j else i)) H
def rMaxA (K : PySem.W.Frag) : List V → Hp → VK → Prop := fun xs H Q => rMax2 xs H Q ∨ L2.rMax K xs H Q
def rMinA (K : PySem.W.Frag) : List V → Hp → VK → Prop := fun xs H Q => rMin2 xs H Q ∨ L2.rMin K xs H Q
theorem call_maxA {X : Cx} (hc : X.calm = true) : CallR X (.builtin "max") (rMaxA X.K) := CallR.or (call_max2 hc) (cr_max hc)
theorem call_minA {X : Cx} (hc : X.calm = true) : CallR X (.builtin "min") (rMinA X.K) := CallR.or (call_min2 hc) (cr_min hc)
theorem ok_max {K : PySem.W.Frag} : OkL K (rMaxA K) gMax := by
  intro F H xs ds k Q s r hg hk
  unfold gMax at hg
  split at hg
  · obtain ⟨x, y, rfl, h1, h2⟩ := redL2 r
    rename_i i j
    refine .inl ⟨i, j, by rw [red_int h1, red_int h2], ?_⟩
    have e : (if j > i then j else i) = max i j := by split <;> omega
    rw [e]
    exact hk _ _ _ (mk_int _) hg
  · obtain ⟨x, rfl, h⟩ := redL1 r
    obtain ⟨p, vs, rfl, h1, r1⟩ := red_lst h
    obtain ⟨ns, rfl, h0, q⟩ := hg
    rw [repL_ints r1] at h1
    exact .inr ⟨p, ns, rfl, SqL.of h1, h0, fun m hm ho => hk _ _ _ (mk_int _) (q m hm ho)⟩
  · exact hg.elim
theorem ok_min {K : PySem.W.Frag} : OkL K (rMinA K) gMin := by
  intro F H xs ds k Q s r hg hk
  unfold gMin at hg
  split at hg
  · obtain ⟨x, y, rfl, h1, h2⟩ := redL2 r
    rename_i i j
    refine .inl ⟨i, j, by rw [red_int h1, red_int h2], ?_⟩
    have e : (if j < i then j else i) = min i j := by split <;> omega
    rw [e]
    exact hk _ _ _ (mk_int _) hg
  · obtain ⟨x, rfl, h⟩ := redL1 r
    obtain ⟨p, vs, rfl, h1, r1⟩ := red_lst h
    obtain ⟨ns, rfl, h0, q⟩ := hg
    rw [repL_ints r1] at h1
    exact .inr ⟨p, ns, rfl, SqL.of h1, h0, fun m hm ho => hk _ _ _ (mk_int _) (q m hm ho)⟩
  · exact hg.elim
def gSum : GL := fun ds k => match ds with
  | [.lst l] => ∃ ns, l = intsD ns ∧ k (.sh (.int ns.sum))
  | _ => False
theorem ok_sum {K : PySem.W.Frag} : OkL K (rSum K) gSum := by
  intro F H xs ds k Q s r hg hk
  unfold gSum at hg
  split at hg
  · obtain ⟨x, rfl, h⟩ := redL1 r
    obtain ⟨p, vs, rfl, h1, r1⟩ := red_lst h
    obtain ⟨ns, rfl, q⟩ := hg
    rw [repL_ints r1] at h1
    exact ⟨p, ns, rfl, SqL.of h1, hk _ _ _ (mk_int _) q⟩
  · exact hg.elim
def gAll : GL := fun ds k => match ds with
  | [.lst l] => ∃ bs, l = blsD bs ∧ k (.sh (.bl (bs.all id)))
  | _ => False
def gAny : GL := fun ds k => match ds with
  | [.lst l] => ∃ bs, l = blsD bs ∧ k (.sh (.bl (bs.any id)))
  | _ => False
theorem ok_all {K : PySem.W.Frag} : OkL K (rAll K) gAll := by
  intro F H xs ds k Q s r hg hk
  unfold gAll at hg
  split at hg
  · obtain ⟨x, rfl, h⟩ := redL1 r
    obtain ⟨p, vs, rfl, h1, r1⟩ := red_lst h
    obtain ⟨ns, rfl, q⟩ := hg
    rw [repL_bls r1] at h1
    exact ⟨p, ns, rfl, SqL.of h1, hk _ _ _ (mk_bl _) q⟩
  · exact hg.elim
theorem ok_any {K : PySem.W.Frag} : OkL K (rAny K) gAny := by
  intro F H xs ds k Q s r hg hk
  unfold gAny at hg
  split at hg
  · obtain ⟨x, rfl, h⟩ := redL1 r
    obtain ⟨p, vs, rfl, h1, r1⟩ := red_lst h
    obtain ⟨ns, rfl, q⟩ := hg
    rw [repL_bls r1] at h1
    exact ⟨p, ns, rfl, SqL.of h1, hk _ _ _ (mk_bl _) q⟩
  · exact hg.elim
def gStr : GL := fun ds k => match ds with
  | [.int i] => i.natAbs.log2 < 1920 ∧ k (.sh (.str (toString i)))
  | [.str x] => k (.sh (.str x))
  | _ => False
def rStrA : List V → Hp → VK → Prop := fun xs H Q => (∃ i, xs = [.int i] ∧ i.natAbs.log2 < 1920 ∧ Q (.str (toString i)) H) ∨ ∃ a, xs = [.str a] ∧ Q (.str a) H
theorem call_strA {X : Cx} : CallR X (.type "str") rStrA := CallR.or call_str_int SkE.call_str_str
theorem ok_str {K : PySem.W.Frag} : OkL K rStrA gStr := by
  intro F H xs ds k Q s r hg hk
  unfold gStr at hg
  split at hg
  · obtain ⟨x, rfl, h⟩ := redL1 r
    exact .inl ⟨_, by rw [red_int h], hg.1, hk _ _ _ (mk_str _) hg.2⟩
  · obtain ⟨x, rfl, h⟩ := redL1 r
    exact .inr ⟨_, by rw [red_str h], hk _ _ _ (mk_str _) hg⟩
  · exact hg.elim
/-- list(..): of a list, a tuple, a dict's keys -/
def gList : GL := fun ds k => match ds with
  | [.lst l] => k (.ow (.lst l))
  | [.tup l] => k (.ow (.lst l))
  | [.dk l] => k (.ow (.lst (l.map fun p => keyD p.1)))
  | _ => False
def rListA (K : PySem.W.Frag) : List V → Hp → VK → Prop := fun xs H Q => (∃ p ys, xs = [.ref p] ∧ (SqL K H p ys ∨ SqT K H p ys) ∧ ∀ l, H l = none → Q (.ref l) (upd H l (.lst ys))) ∨
  ∃ (a : Addr) (kvs : List (Key × V)), xs = [.ref a] ∧ L2.Rd H a (.dK kvs) ∧ ∀ p, H p = none → Q (.ref p) (upd H p (.lst (kvs.map fun kv => kV kv.1)))
theorem call_listA {X : Cx} (hc : X.calm = true) : CallR X (.type "list") (rListA X.K) := CallR.or call_list_of (call_listD hc)
theorem repK_keys {K : PySem.W.Frag} {F : Hp} : ∀ {l : List (Key × D)} {vs : List (Key × V)}, RepK K F l vs → RepL K F (l.map fun p => keyD p.1) (vs.map fun p => kV p.1)
  | [], vs, h => by unfold RepK at h; subst h; exact .nil
  | (k, d) :: l, vs, h => by
    unfold RepK at h
    obtain ⟨x, r, rfl, h1, h2⟩ := h
    exact .cons (rep_key k) (repK_keys h2)
theorem ok_list {K : PySem.W.Frag} : OkL K (rListA K) gList := by
  intro F H xs ds k Q s r hg hk
  unfold gList at hg
  split at hg
  · obtain ⟨x, rfl, h⟩ := redL1 r
    obtain ⟨p, vs, rfl, h1, r1⟩ := red_lst h
    exact .inl ⟨p, vs, rfl, .inl (SqL.of h1), fun q hq => hk _ _ _ (.lst hq r1) hg⟩
  · obtain ⟨x, rfl, h⟩ := redL1 r
    obtain ⟨p, vs, rfl, h1, r1⟩ := red_tup h
    exact .inl ⟨p, vs, rfl, .inr (SqT.of (s _ _ h1)), fun q hq => hk _ _ _ (.lst hq r1) hg⟩
  · obtain ⟨x, rfl, h⟩ := redL1 r
    obtain ⟨p, vs, rfl, h1, r1⟩ := red_dk h
    exact .inr ⟨p, vs, rfl, h1, fun q hq => hk _ _ _ (.lst hq (repK_keys r1)) hg⟩
  · exact hg.elim
def gTuple : GL := fun ds k => match ds with
  | [.lst l] => k (.sh (.tup l))
  | [.tup l] => k (.sh (.tup l))
  | _ => False
def rTupleA (K : PySem.W.Frag) : List V → Hp → VK → Prop := fun xs H Q => ∃ p ys, xs = [.ref p] ∧ ((SqL K H p ys ∧ ∀ l, H l = none → Q (.ref l) (upd H l (.tup ys))) ∨ (SqT K H p ys ∧ Q (.ref p) H))
theorem call_tupleA {X : Cx} : CallR X (.type "tuple") (rTupleA X.K) := call_tuple_of
theorem ok_tuple {K : PySem.W.Frag} : OkL K (rTupleA K) gTuple := by
  intro F H xs ds k Q s r hg hk
  unfold gTuple at hg
  split at hg
  · obtain ⟨x, rfl, h⟩ := redL1 r
    obtain ⟨p, vs, rfl, h1, r1⟩ := red_lst h
    exact ⟨p, vs, rfl, .inl ⟨SqL.of h1, fun q hq => hk _ _ _ (.tup hq r1) hg⟩⟩
  · obtain ⟨x, rfl, h⟩ := redL1 r
    obtain ⟨p, vs, rfl, h1, r1⟩ := red_tup h
    exact ⟨p, vs, rfl, .inr ⟨SqT.of (s _ _ h1), hk _ _ _ (.sh (rep_tup.mpr ⟨p, vs, rfl, h1, r1⟩)) hg⟩⟩
  · exact hg.elim
/-- range(i, j) as a value -/
def gRng : GL := fun ds k => match ds with
  | [.int i, .int j] => k (.sh (.rng i j))
  | _ => False
def rRngA : List V → Hp → VK → Prop := fun vs H Q => ∃ i j, vs = [V.int i, V.int j] ∧ ∀ p, H p = none → Q (.ref p) (upd H p (.rng i j))
theorem call_rngA {X : Cx} : CallR X (.type "range") rRngA := cr_range2
theorem ok_rng {K : PySem.W.Frag} : OkL K rRngA gRng := by
  intro F H xs ds k Q s r hg hk
  unfold gRng at hg
  split at hg
  · obtain ⟨x, y, rfl, h1, h2⟩ := redL2 r
    exact ⟨_, _, by rw [red_int h1, red_int h2], fun p hp => hk _ _ _ (.rng hp) hg⟩
  · exact hg.elim
/-- sorted(list of ints), sorted(dict of ints) -/
def srtI (ns : List Int) : List Int := ns.mergeSort (fun a b => decide (a ≤ b))
theorem srtI_of {ns ms : List Int} (h1 : ms.Perm ns) (h2 : ms.Pairwise (· ≤ ·)) : ms = srtI ns := by
  have e1 : (srtI ns).Pairwise (· ≤ ·) := by
    have := List.pairwise_mergeSort (le := fun a b : Int => decide (a ≤ b)) (fun a b c h1 h2 => by simp at h1 h2 ⊢; omega) (fun a b => by simp; omega) ns
    exact this.imp (by intro a b h; simpa using h)
  have e2 : (srtI ns).Perm ns := List.mergeSort_perm ns _
  exact List.Perm.eq_of_pairwise (fun a b _ _ h h' => Int.le_antisymm h h') h2 e1 (h1.trans e2.symm)
def gSorted : GL := fun ds k => match ds with
  | [.lst l] => ∃ ns, l = intsD ns ∧ k (.ow (.lst (intsD (srtI ns))))
  | [.dk l] => ∃ ns : List Int, l.map (·.1) = ns.map Sum.inl ∧ k (.ow (.lst (intsD (srtI ns))))
  | _ => False
def rSrtD : List V → Hp → VK → Prop := fun xs H Q => ∃ (a : Addr) (kvs : List (Key × V)) (ks : List Int), xs = [.ref a] ∧ L2.Rd H a (.dK kvs) ∧ kvs.map (·.1) = ks.map Sum.inl ∧
    ∀ (ys : List Int) (p : Addr), ys.Perm ks → ys.Pairwise (· ≤ ·) → H p = none → Q (.ref p) (upd H p (.lst (ys.map V.int)))
theorem call_srtD {X : Cx} (hcalm : X.calm = true) : CallR X (.builtin "sorted") rSrtD := by
  intro pins s σ H xs us Q I r q
  obtain ⟨a, kvs, ks, ex, hd, hks, q⟩ := q
  subst ex
  obtain ⟨u, eu, rx⟩ := vals1 r
  subst eu
  cases rx
  obtain ⟨z, lo, vs, rel, dd⟩ := dk_rd I.hok hd
  obtain ⟨ep, hat⟩ := dd.dictAt
  have hkeys : vs.map (·.1) = ks.map Sum.inl := rel.keys.symm.trans hks
  have hl : vs.length = ks.length := by simpa using congrArg List.length hkeys
  have hl2 : kvs.length = ks.length := by simpa using congrArg List.length hks
  have h16 : vs.length ≤ sizeLine := by omega
  refine Calls.call_function_entry PyProof.Rows.kind_sorted PyProof.Rows.plain_sorted PyProof.Rows.entry_sorted (PyProof.Rows.args_sorted1 _) ?_
  unfold Builtin.«sorted»
  refine wpAny_bind (m := checkCount "sorted" 1 1 _) (wpAny_pure ?_)
  refine wpAny_bind (PySem.W.kdu_collect (A := X.A.in1) (PySem.W.kdl_dict (knd := mixKind X.prog X.w) (kvs := vs) (ep := ep) lo) (I.ok.hd hcalm) hat h16 fun h' tk acc hk hacc => ?_)
  have hal : acc.toList.length = ks.length := by rw [Array.length_toList, hacc.1, hl]
  have hS : IntsAre acc.toList ks := ints_each hal fun j v e => by
    obtain ⟨k, x, e1, e2⟩ := hacc.2 j v (by rw [← Array.getElem?_toList]; exact e)
    have e3 : (vs.map (·.1))[j]? = some k := by rw [List.getElem?_map, e1]; rfl
    rw [hkeys, List.getElem?_map] at e3
    cases e4 : ks[j]? with
    | none => rw [e4] at e3; cases e3
    | some y =>
      rw [e4] at e3
      have e5 : Sum.inl y = k := Option.some.inj e3
      subst e5
      rcases keyIs_shape (show keyIs (Sum.inl y) v = true from e2) with ⟨i, t, ek, ev⟩ | ⟨z, t, ek, ev⟩
      · cases ek
        exact ⟨y, t, rfl, ev⟩
      · cases ek
  have I1 : Inv X pins σ H { s with heap := h', toks := tk } := I.kept hk
  refine wpAny_bind (wpAny_newList ?_ (by rw [hal]; omega))
  have hoL : (h'.push (seqObj "list" acc.toList.toArray 0)).get? h'.objs.size = some (seqObj "list" acc.toList.toArray 0) := Heap.get?_push_size _ rfl
  show wpAny _ _ _ _ _ { s with heap := h'.push (seqObj "list" acc.toList.toArray 0), toks := tk }
  refine wpAny_bind (wpAny_holding (wpAny_call_entry PyProof.Rows.slot_list_sort ⟨_, hoL, rfl⟩ PyProof.Rows.entry_list_sort
    (SrtO.list_sort_ord (s := { s with heap := h'.push (seqObj "list" acc.toList.toArray 0), toks := tk }) SrtO.swo_int hoL (by rw [hal]; omega) (fun h2 => SrtO.ints_sortable hS h2) fun out g1 g2 => ⟨_, rfl, ?_⟩) (PyProof.Rows.args_list_sort _)))
  obtain ⟨k1, k2, k3⟩ := SrtO.ints_out hS g1 g2
  obtain ⟨e', he'⟩ := PyProof.Rows.sortedHeap_at (vs := acc.toList) (out := out.toArray) hoL
  have hlen : ((out.map SrtO.iv).map V.int).length ≤ sizeLine := by
    rw [List.length_map, k2.length_eq]
    omega
  refine wpAny_pure ⟨_, rfl, .ref h'.objs.size, upd H h'.objs.size (.lst ((out.map SrtO.iv).map V.int)), I1.laid (t' := tk) (fun b u e => ?_) (Nat.le_refl _)
    (show ObjOk X.prog X.w _ _ _ (.lst ((out.map SrtO.iv).map V.int)) from ⟨hlen, out, e', vals_of_ints k1, he'⟩), rfl, q _ _ k2 k3 (I1.hok.fresh (Nat.le_refl _))⟩
  have hb : b < h'.objs.size := Heap.lt_size e
  rw [PyProof.Rows.sortedHeap_old (Nat.ne_of_lt hb) (by rw [size_push']; exact Nat.lt_succ_of_lt hb)]
  exact Heap.get?_push_of_some _ e
def rSortedA (K : PySem.W.Frag) : List V → Hp → VK → Prop := fun xs H Q => rSortedI K xs H Q ∨ rSrtD xs H Q
theorem call_sortedA {X : Cx} (hc : X.calm = true) : CallR X (.builtin "sorted") (rSortedA X.K) := CallR.or cr_sortedI (call_srtD hc)
theorem repK_fst {K : PySem.W.Frag} {F : Hp} : ∀ {l : List (Key × D)} {vs : List (Key × V)}, RepK K F l vs → vs.map (·.1) = l.map (·.1)
  | [], vs, h => by unfold RepK at h; subst h; rfl
  | (k, d) :: l, vs, h => by
    unfold RepK at h
    obtain ⟨x, r, rfl, h1, h2⟩ := h
    rw [List.map_cons, List.map_cons, repK_fst h2]
theorem ok_sorted {K : PySem.W.Frag} : OkL K (rSortedA K) gSorted := by
  intro F H xs ds k Q s r hg hk
  unfold gSorted at hg
  split at hg
  · obtain ⟨x, rfl, h⟩ := redL1 r
    obtain ⟨p, vs, rfl, h1, r1⟩ := red_lst h
    obtain ⟨ns, rfl, q⟩ := hg
    rw [repL_ints r1] at h1
    refine .inl ⟨p, ns, rfl, SqL.of h1, fun ms a p1 p2 ha => ?_⟩
    rw [srtI_of p1 p2]
    exact hk _ _ _ (.lst ha (ints_rep _)) q
  · obtain ⟨x, rfl, h⟩ := redL1 r
    obtain ⟨p, vs, rfl, h1, r1⟩ := red_dk h
    obtain ⟨ns, e, q⟩ := hg
    refine .inr ⟨p, vs, ns, rfl, h1, by rw [repK_fst r1]; exact e, fun ms a p1 p2 ha => ?_⟩
    rw [srtI_of p1 p2]
    exact hk _ _ _ (.lst ha (ints_rep _)) q
  · exact hg.elim
/-- isinstance(x, T), (T1, ..) -/
def tyD : D → Option String
  | .non => some "NoneType"
  | .bl _ => some "bool"
  | .int _ => some "int"
  | .str _ => some "str"
  | .lst _ => some "list"
  | .tup _ => some "tuple"
  | .pt _ => some "tuple"
  | .dk _ => some "dict"
  | _ => none
def tyNames : List String := ["int", "bool", "str", "list", "tuple", "dict"]
def isB (t n : String) : Bool := t == n || (t == "bool" && n == "int")
theorem isB_ok {t n : String} (ht : t ∈ "NoneType" :: tyNames) (hn : n ∈ tyNames) : kitB t n = some (isB t n) := by
  have key : ∀ t ∈ "NoneType" :: tyNames, ∀ n ∈ tyNames, kitB t n = some (isB t n) := by decide +kernel
  exact key t ht n hn
def namesD : List D → Option (List String)
  | [] => some []
  | .ty n :: l => match namesD l with
    | some ns => some (n :: ns)
    | none => none
  | _ :: _ => none
def gIsi : GL := fun ds k => match ds with
  | [x, .ty n] => ∃ t, tyD x = some t ∧ n ∈ tyNames ∧ k (.sh (.bl (isB t n)))
  | [x, .tup l] => ∃ t ns, tyD x = some t ∧ namesD l = some ns ∧ (∀ n ∈ ns, n ∈ tyNames) ∧ k (.sh (.bl (ns.any (isB t))))
  | _ => False
theorem tyD_x {K : PySem.W.Frag} {F H : Hp} {d : D} {x : V} {t : String} (s : L2.Same F H) (h : tyD d = some t) (r : Red K F H d x) : TyX K H x (.type t) ∧ t ∈ "NoneType" :: tyNames := by
  cases d <;> cases h
  · rw [red_non r]; exact ⟨.base .non, by decide⟩
  · rw [red_bl r]; exact ⟨.base (.bl _), by decide⟩
  · rw [red_int r]; exact ⟨.base (.int _), by decide⟩
  · rw [red_str r]; exact ⟨.base (.str _), by decide⟩
  · obtain ⟨a, vs, rfl, h1, _⟩ := red_tup r; exact ⟨.base (.tup (s _ _ h1)), by decide⟩
  · obtain ⟨a, vs, rfl, h1, _⟩ := red_lst r; exact ⟨.base (.lst h1), by decide⟩
  · obtain ⟨a, o, vs, rfl, h1, _⟩ := red_pt r; exact ⟨.fTuple (s _ _ h1), by decide⟩
  · obtain ⟨a, vs, rfl, h1 | ⟨od, h1⟩, _⟩ := red_dk r
    · exact ⟨.base (.dK h1), by decide⟩
    · exact ⟨.fDict h1, by decide⟩
theorem kitAny_of {K : PySem.W.Frag} {t : String} (ht : t ∈ "NoneType" :: tyNames) : ∀ {ns : List String}, (∀ n ∈ ns, n ∈ tyNames) → PySem.W.kitAny K (.type t) (ns.map Value.type) = some (ns.any (isB t))
  | [], _ => kitAny_nil
  | n :: ns, h => by
    rw [List.map_cons, List.any_cons]
    refine kitAny_cons (kit_ty (isB_ok ht (h n List.mem_cons_self))) (fun e => ?_) fun e => ?_
    · rw [e, Bool.false_or]; exact kitAny_of ht fun m hm => h m (List.mem_cons_of_mem _ hm)
    · rw [e, Bool.true_or]
theorem names_cls {K : PySem.W.Frag} {F : Hp} : ∀ {l : List D} {ns : List String} {vs : List V}, namesD l = some ns → RepL K F l vs → Paired ClsV vs (ns.map Value.type)
  | [], ns, vs, h, r => by
    cases h
    unfold RepL at r
    subst r
    exact .nil
  | d :: l, ns, vs, h, r => by
    unfold RepL at r
    obtain ⟨x, rr, rfl, h1, h2⟩ := r
    cases d <;> first | (unfold namesD at h; cases h; done) | skip
    rename_i n
    unfold namesD at h
    cases e : namesD l with
    | none => rw [e] at h; cases h
    | some ms =>
      rw [e] at h
      cases h
      have : x = .ty n := by unfold Rep at h1; exact h1
      subst this
      exact .cons (.ty n) (names_cls e h2)
def rIsiA (K : PySem.W.Frag) : List V → Hp → VK → Prop := fun xs H Q => rIsi K xs H Q ∨ rIsiT K xs H Q
theorem call_isiA {X : Cx} : CallR X (.builtin "isinstance") (rIsiA X.K) := CallR.or call_isi call_isiT
theorem ok_isi {K : PySem.W.Frag} : OkL K (rIsiA K) gIsi := by
  intro F H xs ds k Q s r hg hk
  unfold gIsi at hg
  split at hg
  · rename_i n
    obtain ⟨x, y, rfl, h1, h2⟩ := redL2 r
    obtain ⟨t, et, hn, q⟩ := hg
    obtain ⟨ty, ht⟩ := tyD_x s et h1
    have hy : y = .ty n := by unfold Red Rep at h2; exact h2
    subst hy
    exact .inl ⟨x, .ty _, _, _, _, rfl, .ty _, ty, kit_ty (isB_ok ht hn), hk _ _ _ (mk_bl _) q⟩
  · obtain ⟨x, y, rfl, h1, h2⟩ := redL2 r
    obtain ⟨t, ns, et, en, hn, q⟩ := hg
    obtain ⟨ty, ht⟩ := tyD_x s et h1
    obtain ⟨p, vs, rfl, h3, r3⟩ := red_tup h2
    exact .inr ⟨x, p, vs, _, _, _, rfl, s _ _ h3, names_cls en r3, ty, kitAny_of ht hn, hk _ _ _ (mk_bl _) q⟩
  · exact hg.elim
end VL

set_option Elab.async false
set_option linter.all false
set_option maxRecDepth 100000
set_option maxHeartbeats 1000000
namespace VL
open PySem PySem.Spec PyProof.Rows L2

/-! items of a dict with tuple keys -/
theorem frzT_at {X : Cx} {pins : List (Addr × Obj)} {σ : L2.St} {H : Hp} {s : Shared} {d : Addr} {o : Obj} {kvs : List (List Key × V)} (I : Inv X pins σ H s) (h : H d = some (.frz o (.dT kvs))) :
    (d == sysModules) = false ∧ s.heap.get? d = some o ∧ o.ExactDict ∧ ∃ (es : Array DictEntry) (ep : Nat), o.data = .dict es ep ∧ es.size = kvs.length ∧
      ∀ (i : Nat) (k : List Key) (v : V), kvs[i]? = some (k, v) → ∃ (en : DictEntry) (q : Addr), es[i]? = some en ∧ en.key = .ref q ∧ H q = some (.tup (k.map kV)) ∧ RelV v en.val := by
  obtain ⟨hd, z, hs, xs, pr, o', es, ep, ho, hx, hdt, he, _⟩ := I.hok d _ h
  rw [hd] at ho
  cases ho
  refine ⟨hs, hd, hx, es, ep, hdt, ?_, fun i k v e => ?_⟩
  · have l1 : es.size = xs.length := size_of_entries he
    have l2 : kvs.length = xs.length := Paired.length pr
    omega
  · obtain ⟨b, hb, e1, e2, e3⟩ := paired_get pr e
    have q := entry_at he i
    rw [hb] at q
    exact ⟨_, b.2.1, q, rfl, e2, e3⟩
/-- the pairs, each a new tuple of the key's own tuple and the value -/
def ItiT (d : Addr) (o : Obj) (kvs : List (List Key × V)) : It :=
  ⟨fun i H => H d = some (.frz o (.dT kvs)) ∧ i < kvs.length, fun i H x H' => ∃ T k v q, kvs[i]? = some (k, v) ∧ x = .ref T ∧ H T = none ∧ H q = some (.tup (k.map kV)) ∧ H' = upd H T (.tup [.ref q, v]), fun i H => H d = some (.frz o (.dT kvs)) ∧ kvs.length ≤ i⟩
section
variable {P : Program} {w : World} {K : PySem.W.Frag} {d : Addr} {o : Obj} {es : Array DictEntry} {ep : Nat}
theorem turn_itemsT {kvs : List (List Key × V)} {elts : List Expr} {kk : Nat} {tpos : Pos} (it : Addr) (hod : o.data = .dict es ep) :
    Turn P w K (.Tuple elts kk tpos) (ItiT d o kvs) [it] it (fun i h => ∃ ok ov, IsItemIter h it d i kvs.length ep ok ov) where
  mem := by simp
  obj := fun i h st b hb => by
    have e : b = it := by simpa using hb
    subst e
    obtain ⟨ok, ov, e⟩ := st
    exact ⟨_, e, fun v z => nomatch z⟩
  keep := fun i h h' st k => let ⟨ok, ov, e⟩ := st; ⟨ok, ov, k it (by simp) _ e⟩
  item := by
    intro X hP hw hK hc i pins s σ H E I hf st hg
    subst hP hw hK
    obtain ⟨hd, hi⟩ := hg
    obtain ⟨hs, hgd, hx, es', ep', hdt, hsz, ent⟩ := frzT_at I hd
    obtain ⟨rfl, rfl⟩ := dict_ep hod hdt
    obtain ⟨⟨k, v⟩, hkv⟩ : ∃ p, kvs[i]? = some p := ⟨kvs[i], List.getElem?_eq_getElem hi⟩
    obtain ⟨en, q, hen, hkey, hq, rv⟩ := ent i k v hkv
    obtain ⟨ok, ov, he⟩ := st
    rw [← hsz] at he
    have hlt : it < s.heap.objs.size := Heap.lt_size he
    obtain ⟨hie, ee⟩ := Array.getElem?_eq_some_iff.mp hen
    refine DT.nextI he ⟨o, hgd, hx, hdt⟩ hie fun h' ho hT hz hk => ?_
    rw [ee, hkey] at ho hT
    refine ⟨_, rfl, wpAny_letOwnedTupleGo_items (s := { s with heap := h' }) ho fun h'' he' sb => ?_⟩
    have hT2 : h''.get? s.heap.objs.size = some { cls := .type "tuple", data := .seq #[.ref q, en.val] } := (sb.2 _ (Nat.ne_of_gt hlt)).trans hT
    have new : ObjOk X.prog X.w (upd H s.heap.objs.size (.tup [.ref q, v])) h'' s.heap.objs.size (.tup [.ref q, v]) :=
      ⟨by show 2 ≤ sizeLine; decide, [.ref q, en.val], .cons rfl (.cons rv .nil), ⟨_, hT2, rfl, _, rfl⟩⟩
    have I1 : Inv X pins σ (upd H s.heap.objs.size (.tup [.ref q, v])) { s with heap := h'' } :=
      I.turnedNew (t' := s.toks) (ch := [it]) (fun b ob hb e => (sb.2 b (by simpa using hb)).trans (hk b ob (by simpa using hb) e)) hf (Nat.le_refl _) new
    refine ⟨.ref s.heap.objs.size, _, I1, rfl, ⟨_, k, v, q, hkv, rfl, I.hok.fresh (Nat.le_refl _), hq, rfl⟩, ⟨.ref q, en.val, ?_⟩, fun b hb => ?_⟩
    · rw [hsz] at he'; exact he'
    · have e : b = it := by simpa using hb
      rw [e, upd_ne (Nat.ne_of_lt hlt)]
      exact (hf it (by simp)).1
  done := by
    intro X hP hw hK hc i pins s σ H E I hf st hg
    subst hP hw hK
    obtain ⟨hd, hi⟩ := hg
    obtain ⟨f0, f1, f2, f3, f4, f5⟩ := hf it (by simp)
    obtain ⟨hs, hgd, hx, es', ep', hdt, hsz, ent⟩ := frzT_at I hd
    obtain ⟨rfl, rfl⟩ := dict_ep hod hdt
    obtain ⟨ok, ov, he⟩ := st
    rw [← hsz] at he
    exact DT.endI (I.ok.hd hc) he ⟨o, hgd, hx, hdt⟩ (by omega) fun h' eb => ⟨rfl, I.turned (t' := s.toks) (fun b ob hb e => eb b ob hb e) f0 f1 f3 f4 f5⟩
  self := fun A i s Q E st h => let ⟨_, _, e⟩ := st; PySem.W.kcp_self e h
end
def iItemsA (td : TE) : TI := fun σ H R => td σ H fun x H1 => ∃ d o, x = .ref d ∧ ((∃ kvs, H1 d = some (.frz o (.dK kvs)) ∧ R (Iti d o kvs) H1) ∨ ∃ kvs, H1 d = some (.frz o (.dT kvs)) ∧ R (ItiT d o kvs) H1)
section
variable {X : Cx} {tg e : Expr} {td : TE} {apos cpos p pos : Pos}
theorem pi_itemsA {elts : List Expr} {kk : Nat} {tpos : Pos} (he : PE X e td) (hbase : attributeBase e "items" X.env (eval e X.env) = eval e X.env := by rfl) (hline : (apos.endLine == cpos.line) = true := by rfl) :
    PI X (.Tuple elts kk tpos) (.Call (.Attribute e "items" apos) [] [] cpos) (iItemsA td) := by
  refine ⟨fun pins s σ H R I h => ?_⟩
  refine wpAny_Call_method (T := "dict") (id := "dict.items") hbase rfl hline F.plainAttrs_dict F.slot_dict_items F.type_dict_items (thn (he.run pins s σ H _ I h) fun u s1 ⟨x, H1, I1, rx, d, o, ex, q⟩ => ?_)
  subst ex
  obtain rfl : u = Value.ref d := rx
  rcases q with ⟨kvs, hd, q⟩ | ⟨kvs, hd, q⟩
  · obtain ⟨hs, hgd, hx, es, ep, vs, hdt, hsz, kv, hm⟩ := I1.frzK hd
    have hl : kvs.length = vs.length := Paired.length kv
    refine ⟨hm.dictOf.typeIs, hm.dictOf.mapOf.noDict, ?_⟩
    have I2 : Inv X pins σ H1 { s1 with heap := s1.heap.push { cls := .type "dict_items", data := .fields #[.ref d] } } := I1.kept (t' := s1.toks) fun b ob q => Heap.get?_push_of_some _ q
    have fin : wpAny (model X.prog X.w) X.A (pyIter (.ref s1.heap.objs.size)) (PIE X pins σ (.Tuple elts kk tpos) R) X.xe { s1 with heap := s1.heap.push { cls := .type "dict_items", data := .fields #[.ref d] } } := by
      refine wpAny_pyIter_items (d := d) (knd := mixKind X.prog X.w) ⟨_, Heap.get?_push_size _ rfl, rfl, rfl⟩ (hm.push _) (pi_one (tk := s1.toks) I2 _ (turn_items _ hdt) ⟨.none, .none, ?_⟩ q)
      rw [hl]
      exact Heap.get?_push_size _ rfl
    show wpAny _ _ (callWith cpos (.builtin "dict.items") [.ref d] [] []) _ X.xe s1
    exact method_meetsIn F.slot_dict_items F.entry_dict_items rfl (PySem.evalArgs_none ⟨rfl, hm.dictOf.typeIs, F.args_dict_items_1 _, _, meets_dict_items (mixKind X.prog X.w) d hs, ⟨vs, hm.dictOf⟩, fin⟩)
  · obtain ⟨hs, hgd, hx, es, ep, hdt, hsz, ent⟩ := frzT_at I1 hd
    have raw : DT.Raw s1.heap d es ep := ⟨o, hgd, hx, hdt⟩
    refine ⟨raw.typeIs, fun b q => ?_, ?_⟩
    · cases q
      exact ⟨o, hgd, hx.2.1⟩
    have I2 : Inv X pins σ H1 { s1 with heap := s1.heap.push { cls := .type "dict_items", data := .fields #[.ref d] } } := I1.kept (t' := s1.toks) fun b ob q => Heap.get?_push_of_some _ q
    have fin : wpAny (model X.prog X.w) X.A (pyIter (.ref s1.heap.objs.size)) (PIE X pins σ (.Tuple elts kk tpos) R) X.xe { s1 with heap := s1.heap.push { cls := .type "dict_items", data := .fields #[.ref d] } } := by
      refine DT.iterI (d := d) ⟨_, Heap.get?_push_size _ rfl, rfl, rfl⟩ (raw.push _) (pi_one (tk := s1.toks) I2 _ (turn_itemsT _ hdt) ⟨.none, .none, ?_⟩ q)
      rw [← hsz]
      exact Heap.get?_push_size _ rfl
    show wpAny _ _ (callWith cpos (.builtin "dict.items") [.ref d] [] []) _ X.xe s1
    exact method_meetsIn F.slot_dict_items F.entry_dict_items rfl (PySem.evalArgs_none ⟨rfl, raw.typeIs, F.args_dict_items_1 _, _, DT.meetsItems (es := es) (ep := ep) hs, raw, fin⟩)

/-! list(d.values()) -/
theorem kv_vals {κ : Type} {ks : List (κ × V)} {us : List (κ × Value)} (r : KV ks us) : Vals (ks.map (·.2)) (us.map (·.2)) := by
  unfold KV at r
  induction r with
  | nil => exact .nil
  | cons h _ ih => exact .cons h.2 ih
def tListVals (te : TE) : TE := fun σ H Q => te σ H fun x H1 => ∃ (d : Addr) (kvs : List (Key × V)), x = .ref d ∧ L2.Rd H1 d (.dK kvs) ∧ ∀ p, H1 p = none → Q (.ref p) (upd H1 p (.lst (kvs.map (·.2))))
theorem pe_listVals (hc : X.calm = true) {te : TE} (he : PE X e te) (hg : Gl X "list") (hm : X.mg "list" = none) (hv : bootBuiltins "list" = some (.type "list")) (hbase : attributeBase e "values" X.env (eval e X.env) = eval e X.env := by rfl) (hline : (apos.endLine == cpos.line) = true := by rfl)
    (hs : starEach [.Call (.Attribute e "values" apos) [] [] cpos] X.env = (false, eval (.Call (.Attribute e "values" apos) [] [] cpos) X.env) :: starEach [] X.env := by rfl) :
    PE X (.Call (.Name "list" p) [.Call (.Attribute e "values" apos) [] [] cpos] [] pos) (tListVals te) := by
  refine ⟨fun pins s σ H Q I hq => ?_⟩
  refine wpAny_Call_Name_kw (ld_blt I hg hm hv ?_)
  refine PyProof.Rows.callWith_type1 ?_ hs rfl
  rw [hs]
  show wpAny _ _ (spliced ((false, eval (.Call (.Attribute e "values" apos) [] [] cpos) X.env) :: backTo pos (starEach [] X.env))) _ _ s
  refine Calls.spliced_cons ?_
  refine wpAny_Call_method (T := "dict") (id := "dict.values") hbase rfl hline F.plainAttrs_dict F.slot_dict_values F.type_dict_values (thn (he.run pins s σ H _ I hq) fun u s1 ⟨x, H1, I1, rx, d, kvs, ex, hd, q⟩ => ?_)
  subst ex
  obtain rfl : u = Value.ref d := rx
  obtain ⟨hz, hs0, vs, kv, hdo⟩ := dk_rd I1.hok hd
  obtain ⟨ep, hat⟩ := hdo.dictAt
  have lk : kvs.length = vs.length := Paired.length kv
  have I2 : Inv X pins σ H1 { s1 with heap := s1.heap.push { cls := .type "dict_values", data := .fields #[.ref d] } } := I1.kept (t' := s1.toks) fun b ob q => Heap.get?_push_of_some _ q
  refine ⟨hdo.typeIs, hdo.mapOf.noDict, ?_⟩
  show wpAny _ _ (callWith cpos (.builtin "dict.values") [.ref d] [] []) _ X.xe s1
  refine method_meetsIn F.slot_dict_values F.entry_dict_values rfl (PySem.evalArgs_none ⟨rfl, hdo.typeIs, F.args_dict_values_1 _, _, meets_dict_values (mixKind X.prog X.w) d hs0, ⟨vs, hdo⟩, ?_⟩)
  refine Calls.spliced_nil ?_
  refine PySem.W.kdl_call (PySem.W.kdl_values (knd := mixKind X.prog X.w) (kvs := vs) (ep := ep)) (I1.ok.hd hc) ⟨⟨_, Heap.get?_push_size _ rfl, rfl, rfl⟩, hat.push _⟩ (by omega) fun h' tk acc' c' hk hD hacc => ?_
  have hl : acc'.toList.length = vs.length := by rw [Array.length_toList]; exact hacc.1
  have ev : acc'.toList = vs.map (·.2) := PySem.W.kdl_vals_eq acc'.toList hl fun j v e => hacc.2 j v (by rw [← Array.getElem?_toList]; exact e)
  have rel : Vals (kvs.map (·.2)) acc'.toList := by
    rw [ev]
    exact kv_vals kv
  refine ⟨.ref _, upd H1 _ (.lst (kvs.map (·.2))), I2.laid (t' := tk) hk (Nat.le_refl _) (show ObjOk X.prog X.w _ _ _ (.lst (kvs.map (·.2))) from ⟨by rw [List.length_map]; exact hz, acc'.toList, c', rel, by rw [Array.toArray_toList]; exact hD⟩), rfl, q _ (I2.hok.fresh (Nat.le_refl _))⟩

/-! slices of lists with a step -/
def pkV {α : Type} (xs : List α) (lo hi st : Option Int) : List α := (sliceRange (sliceBounds lo hi st xs.length).1 (sliceBounds lo hi st xs.length).2.1 (sliceBounds lo hi st xs.length).2.2).filterMap (xs[·]?)
theorem vals_pick {xs : List V} {us : List Value} (r : Vals xs us) : ∀ is : List Nat, Vals (is.filterMap (xs[·]?)) (is.filterMap (us[·]?))
  | [] => .nil
  | i :: is => by
    have ih := vals_pick r is
    have hl := r.length
    by_cases h : i < xs.length
    · obtain ⟨u, eu, ru⟩ := r.get (List.getElem?_eq_getElem h)
      rw [List.filterMap_cons, List.filterMap_cons, List.getElem?_eq_getElem h, eu]
      exact .cons ru ih
    · rw [List.filterMap_cons, List.filterMap_cons, List.getElem?_eq_none (by omega), List.getElem?_eq_none (by omega)]
      exact ih
def tSl3 (K : PySem.W.Frag) (te : TE) (tl th ts : TO) : TE := fun σ H Q => te σ H fun x H1 => tl σ H1 fun l H2 => th σ H2 fun u H3 => ts σ H3 fun st H4 => ∃ a xs, x = .ref a ∧ SqL K H4 a xs ∧ st ≠ some 0 ∧ (pkV xs l u st).length ≤ sizeLine ∧ ∀ p, H4 p = none → Q (.ref p) (upd H4 p (.lst (pkV xs l u st)))
theorem pe_slice3 {te : TE} {lo hi : Option Expr} {se : Expr} {tl th ts : TO} {p2 : Pos} (he : PE X e te) (hl : PO X lo tl) (hu : PO X hi th) (hst : PO X (some se) ts) : PE X (.Subscript e (.Slice lo hi (some se) p2) pos) (tSl3 X.K te tl th ts) := by
  refine ⟨fun pins s σ H Q I h => ?_⟩
  refine Subscript_ (thn (he.run pins s σ H _ I h) fun v s1 ⟨x, H1, I1, r1, q1⟩ => ?_)
  refine wpAny_Slice (thn (hl.run pins s1 σ H1 _ I1 q1) fun vl s2 ⟨l, H2, I2, pl, q2⟩ => thn (hu.run pins s2 σ H2 _ I2 q2) fun vu s3 ⟨u, H3, I3, pu, q3⟩ => thn (hst.run pins s3 σ H3 _ I3 q3) fun vs s4 ⟨st, H4, I4, ps, q4⟩ => ?_)
  obtain ⟨a, xs, ex, hx, h0, hz', q⟩ := q4
  subst ex
  cases r1
  have I5 : Inv X pins σ H4 { s4 with heap := s4.heap.push { cls := .type "slice", data := .fields #[vl, vu, vs] } } := I4.kept (t' := s4.toks) fun b ob q => Heap.get?_push_of_some _ q
  obtain ⟨its, r, ht, hz⟩ := I5.list hx
  have hlen := r.length
  show wpAny (model X.prog X.w) X.A (subscriptTail e (.Slice lo hi (some se) p2) (.ref a) (.ref s4.heap.objs.size)) (EP X pins σ Q) X.xe { s4 with heap := s4.heap.push { cls := .type "slice", data := .fields #[vl, vu, vs] } }
  refine tail_any (ops := [.ref a, .ref s4.heap.objs.size]) ht.isList.typeIs (PySem.slot_list_getitem.lookup) ?_ (by with_unfolding_all rfl)
  refine wpAny_getItem_list_slice ht.isList (Heap.IsSliceOf.new _ vl vu vs) pl pu ps h0 ?_ (by rw [List.size_toArray]; omega)
  have hp : (slicePick its.toArray l u st) = (pkV its l u st).toArray := by
    unfold slicePick pkV
    simp
  have hv : Vals (pkV xs l u st) (pkV its l u st) := by
    unfold pkV
    rw [hlen]
    exact vals_pick r _
  rw [hp]
  refine ⟨.ref _, _, I5.laid (t' := s4.toks) (o := .lst (pkV xs l u st)) (fun b ob q => Heap.get?_push_of_some _ q) (Nat.le_refl _) ?_, rfl, q _ (I5.hok.fresh (Nat.le_refl _))⟩
  exact ⟨hz', _, 0, hv, Heap.get?_push_size _ rfl⟩
end
end VL

set_option Elab.async false
set_option linter.all false
set_option maxRecDepth 100000
set_option maxHeartbeats 1000000
namespace VL
open PySem PySem.Spec PyProof.Rows L2

/-! an object that stands untracked is tracked from now on -/
theorem adopt {X : Cx} {pins : List (Addr × Obj)} {σ : L2.St} {H : Hp} {s : Shared} {a : Addr} {o : HO} (I : Inv X pins σ H s) (f : FpOk X pins H a) (new : ObjOk X.prog X.w (upd H a o) s.heap a o) : Inv X pins σ (upd H a o) s := by
  obtain ⟨f0, f1, f2, f3, f4, f5⟩ := f
  have ne : ∀ {b : Addr} {u : HO}, H b = some u → b ≠ a := fun {b u} e z => by rw [z, f0] at e; cases e
  refine I.step (h' := s.heap) (t' := s.toks) (g' := s.gens) (d' := s.drawn) (ch := [a]) (fun b hb => ?_) (fun _ _ _ _ _ e _ => e) (fun b o _ _ _ e _ => ⟨o.slots, e⟩) (fun b o hc _ n => ?_) (fun b o _ e => ⟨o, e⟩) (fun b xs e => ?_) (fun b o u e => ?_) (fun b ps e => ⟨#[], ?_⟩) (fun m h => h) (fun b u e => ?_) I.bare
  · have e : b = a := by simpa using hb
    subst e
    exact ⟨f3, f1, f4, f5⟩
  · rw [upd_ne fun z => hc (by simp [z])]; exact n
  · rw [upd_ne (ne e)]; exact e
  · rw [upd_ne (ne e)]; exact e
  · rw [upd_ne (ne e), e]; simp
  · by_cases hb : b = a
    · subst hb
      rw [upd_same] at e
      cases e
      exact new
    · rw [upd_ne hb] at e
      exact (I.hok b u e).stay (fun c v _ q => q) (fun c q => by rw [upd_ne (ne q)]; exact q) fun c xs q => by rw [upd_ne (ne q)]; exact q

theorem freed_none (h : Heap) (k : Addr) : (h.update k fun o => { o with data := .freed }).get? k = none := by
  cases h with
  | mk objs lf =>
    unfold Heap.update Heap.get?
    dsimp only
    rw [Array.getElem?_modify]
    simp only [if_true]
    cases objs[k]? <;> rfl
/-! sorted(xs, key=f), f a def of the program: keys are ints -/
def KTurn (X : Cx) (A0 : Around) (f : Value) (W : Nat → Hp → Prop) (us : List Value) (ks : List Int) : Prop :=
  ∀ (i : Nat) (u : Value) (k : Int) (pins : List (Addr × Obj)) (σ : L2.St) (H : Hp) (s : Shared), us[i]? = some u → ks[i]? = some k → W i H → Inv X pins σ H s →
    wpAny (model X.prog X.w) A0 (call f [u]) (fun v s' => ∃ H' t, Inv X pins σ H' s' ∧ v = .int k t ∧ W (i + 1) H') (fun _ _ => False) s
def intP (ks : List Int) : List PyData := ks.map PyData.int
theorem intP_alike (ks : List Int) : PySem.W.AllAlike (intP ks) := PySem.W.AllAlike.of fun _ _ => by simp [PySem.W.alike]
theorem intP_sort (ks : List Int) : PySem.W.Sortable (intP ks) := PySem.W.Sortable.others fun _ => ⟨(fun z => nomatch z), (fun _ z => nomatch z)⟩
section
variable {X : Cx} {A0 : Around} {pins : List (Addr × Obj)} {σ : L2.St} {H0 : Hp} {s : Shared} {a kS : Addr} {f : Value} {W : Nat → Hp → Prop} {us : List Value} {ks : List Int} {e1 : Nat} {P : PySem.Fin → Shared → Prop} {E : Value → Shared → Prop}
theorem each_ints : ∀ {kl : List Value} {ns : List Int}, IntsAre kl ns → ∀ h : Heap, PySem.W.EachIs (fun v k => ∃ as, Reads h v k as) kl (intP ns)
  | _, _, .nil, _ => .nil
  | _, _, .cons n t r, h => .cons ⟨[], Reads.int n t⟩ (each_ints r h)
theorem skey_rest (I0 : Inv X pins σ H0 s) (fa : FpOk X pins H0 a) (fk : FpOk X pins H0 kS) (hka : kS ≠ a) (nk : s.heap.get? kS = some (seqObj "list" #[] 0)) (na : s.heap.get? a = some (seqObj "list" #[] e1)) (w0 : W 0 H0) (turn : KTurn X A0 f W us ks) (hl : ks.length = us.length) (hz : us.length ≤ sizeLine) (hu : A0.units < cLine)
    (h : ∀ (H' : Hp) (s' : Shared) (out : List Value) (c : Nat), Inv X pins σ H' s' → W us.length H' → FpOk X pins H' a → s'.heap.get? a = some (seqObj "list" out.toArray c) → PySem.W.KeyedOut false (intP ks) us out → P (.done (.ret .none)) s') :
    wpAny (model X.prog X.w) A0 (PyProof.Rows.ksk_rest a f false us.toArray e1 (.ref kS)) P E s := by
  have fp : ∀ {H' : Hp} {b : Addr}, FpOk X pins H0 b → H' b = none → FpOk X pins H' b := fun {H' b} q n => ⟨n, q.2⟩
  unfold PyProof.Rows.ksk_rest
  refine wpAny_bind (wpAny_rule ?_)
  rw [List.forIn_toArray]
  refine wpAny_bind (PyProof.Rows.ksk_fold (fun i s' => ∃ (H' : Hp) (kA : Array Value) (e : Nat), Inv X pins σ H' s' ∧ W i H' ∧ H' a = none ∧ H' kS = none ∧ s'.heap.get? kS = some (seqObj "list" kA e) ∧ s'.heap.get? a = some (seqObj "list" #[] e1) ∧ IntsAre kA.toList (ks.take i)) us 0 s
    ⟨H0, #[], 0, I0, w0, fa.1, fk.1, nk, na, by rw [List.take_zero]; exact .nil⟩ ?turns ?ends)
  case turns =>
    rintro j x s' hx ⟨H', kA, e, I', w', na', nk', hk, ha, hi⟩
    simp only [Nat.zero_add] at w' hi ⊢
    have hj : j < us.length := (List.getElem?_eq_some_iff.mp hx).1
    obtain ⟨k, hkj⟩ : ∃ k, ks[j]? = some k := ⟨_, List.getElem?_eq_getElem (by omega)⟩
    have pn : ∀ b ∈ [kS, a], FpOk X pins H' b := fun b hb => by
      rcases List.mem_cons.mp hb with z | z
      · subst z; exact fp fk nk'
      · have z := List.mem_singleton.mp z; subst z; exact fp fa na'
    have po : ∀ b ∈ [kS, a], ∃ o, s'.heap.get? b = some o ∧ ∀ v, o.data ≠ .cell v := fun b hb => by
      rcases List.mem_cons.mp hb with z | z
      · subst z; exact ⟨_, hk, fun v z => by cases z⟩
      · have z := List.mem_singleton.mp z; subst z; exact ⟨_, ha, fun v z => by cases z⟩
    have I2 := I'.pinned pn po
    refine wpAny_bind (wpAny_attempt (wpAny_mono (turn j x k _ σ H' s' hx hkj w' I2) (fun v s'' hv => ?_) fun _ _ hF => hF.elim))
    obtain ⟨H2, t, I3, rfl, w2⟩ := hv
    have pin : ∀ b ∈ [kS, a], ∀ o, s'.heap.get? b = some o → s''.heap.get? b = some o ∧ H2 b = none := fun b hb o e =>
      let z := I3.pin (b, o) (List.mem_append_right _ (List.mem_append_right _ (mem_pinsAt hb e)))
      ⟨z.1, z.2.1⟩
    obtain ⟨hk2, nk2⟩ := pin kS (by simp) _ hk
    obtain ⟨ha2, na2⟩ := pin a (by simp) _ ha
    have I4 := I3.unpinned (pins := pins)
    have hkl : kA.size = (ks.take j).length := by
      have := IntsAre.length hi
      rw [Array.length_toList] at this
      exact this
    rw [List.length_take] at hkl
    try dsimp only
    obtain ⟨c2, hc2⟩ : ∃ c2, (s''.heap.update kS (Obj.mapSeq (·.push (Value.int k t)))).get? kS = some (seqObj "list" (kA.push (.int k t)) c2) := ⟨_, get?_update_seq hk2 (·.push (.int k t))⟩
    have sb := Heap.SameBut.update s''.heap kS (Obj.mapSeq (·.push (Value.int k t)))
    refine wpAny_bind (listUpdate_at hk2 rfl ?_ (by omega) (by rw [Array.size_push]; omega))
    obtain ⟨f0, f1, f2, f3, f4, f5⟩ := fp fk nk2
    have I5 : Inv X pins σ H2 { s'' with heap := s''.heap.update kS (Obj.mapSeq (·.push (Value.int k t))) } := I4.turned (t' := s''.toks) (fun b o hb e => (sb.2 b hb).trans e) f0 f1 f3 f4 f5
    refine wpAny_pure ⟨rfl, H2, kA.push (.int k t), c2, I5, w2, na2, nk2, hc2, (sb.2 a hka.symm).trans ha2, ?_⟩
    rw [List.take_add_one, hkj, Array.toList_push]
    exact PyProof.Rows.ksk_snoc hi
  case ends =>
    rintro s' ⟨H', kA, e, I', w', na', nk', hk, ha, hi⟩
    simp only [Nat.zero_add] at w' hi
    rw [List.take_of_length_le (by omega)] at hi
    have hkl : kA.size = us.length := by
      have := IntsAre.length hi
      rw [Array.length_toList] at this
      omega
    try dsimp only
    refine wpAny_bind (listItems_at hk rfl ?_)
    -- the heap without the keys' own list
    have en := freed_none s'.heap kS
    have kp : PySem.W.KeepsBut a (s'.heap.update kS fun o => { o with data := .freed }) s'.heap := fun b o hb q => by
      by_cases hbk : b = kS
      · subst hbk; rw [en] at q; cases q
      · rw [← q]; exact (Heap.get?_update_other s'.heap _ (Ne.symm hbk)).symm
    have hea : PySem.W.EachIs (fun v k => ∃ as, Reads s'.heap v k as) kA.toList (intP ks) := each_ints hi s'.heap
    refine PySem.W.keyH_end (κ := PySem.W.dataKind s'.heap (intP ks)) kp en hk ha hka (PySem.W.SortsAt.data (s := s') hea (intP_alike ks) (intP_sort ks) (fun d hd => ?_)) hkl hz fun h3 tk3 c k3 n3 => ?_
    · obtain ⟨n, _, rfl⟩ := List.mem_map.mp hd
      simpa [PyData.depth] using hu
    · have kept : ∀ b o, b ∉ [kS, a] → s'.heap.get? b = some o → h3.get? b = some o := fun b o hb q => by
        have h1 : b ≠ kS := fun z => hb (by simp [z])
        have h2 : b ≠ a := fun z => hb (by simp [z])
        refine k3 b o h2 ?_
        rw [← q]; exact Heap.get?_update_other s'.heap _ (Ne.symm h1)
      have I6 : Inv X pins σ H' { s' with heap := h3, toks := tk3 } := I'.turnedL kept fun b hb => by
        rcases List.mem_cons.mp hb with z | z
        · subst z; exact fp fk nk'
        · have z := List.mem_singleton.mp z; subst z; exact fp fa na'
      exact h H' _ _ c I6 w' (fp fa na') n3 ⟨s'.heap, kA.toList, intP_alike ks, rfl, hea⟩
end
/-- a list by its keys, equal ones in their order -/
def srtK {α : Type} (ks : List Int) (l : List α) : List α := ((l.zip ks).mergeSort fun p q => decide (p.2 ≤ q.2)).map (·.1)
theorem dataLe_int {α : Type} (p q : α × Int) : PySem.W.dataLe false (fun p : α × Int => PyData.int p.2) p q = decide (p.2 ≤ q.2) := by
  unfold PySem.W.dataLe PySem.W.sortLe
  show (!PyProof.Rows.lexLt PyProof.Rows.itemOrd (PySem.W.keyToks (.int q.2)) (PySem.W.keyToks (.int p.2))) = _
  unfold PySem.W.keyToks PyProof.Rows.lexLt
  by_cases h : q.2 < p.2
  · have h' : ¬ p.2 ≤ q.2 := by omega
    simp [PyProof.Rows.itemLt, h, h', PyProof.Rows.lexLt]
  · have h' : p.2 ≤ q.2 := by omega
    simp [PyProof.Rows.itemLt, h, h', PyProof.Rows.lexLt]
theorem each_zip {α β γ : Type} {R : α → β → Prop} : ∀ {as : List α} {bs : List β} {ks : List γ}, PySem.W.EachIs R as bs → PySem.W.EachIs (fun p q => R p.1 q.1 ∧ p.2 = q.2) (as.zip ks) (bs.zip ks)
  | _, _, _, .nil => by simp only [List.zip_nil_left]; exact .nil
  | _, _, [], .cons h t => by simp only [List.zip_nil_right]; exact .nil
  | _, _, k :: ks, .cons h t => .cons ⟨h, rfl⟩ (each_zip t)
theorem each_fst {α β γ δ : Type} {R : α → β → Prop} : ∀ {as : List (α × γ)} {bs : List (β × δ)}, PySem.W.EachIs (fun p q => R p.1 q.1) as bs → PySem.W.EachIs R (as.map (·.1)) (bs.map (·.1))
  | _, _, .nil => .nil
  | _, _, .cons h t => .cons h (each_fst t)
theorem srtK_each {α β : Type} {R : α → β → Prop} {as : List α} {bs : List β} {ks : List Int} (h : PySem.W.EachIs R as bs) : PySem.W.EachIs R (srtK ks as) (srtK ks bs) := by
  have h2 := each_zip (ks := ks) h
  refine each_fst ((PySem.W.sort_each h2 fun p hp q hq => ?_).mono fun _ _ z => z.1)
  rw [(h2.zip p hp).2, (h2.zip q hq).2]
theorem each_vals : ∀ {us : List Value} {xs : List V}, PySem.W.EachIs (fun u x => RelV x u) us xs → Vals xs us
  | _, _, .nil => .nil
  | _, _, .cons h t => .cons h (each_vals t)
theorem vals_each : ∀ {us : List Value} {xs : List V}, Vals xs us → PySem.W.EachIs (fun u x => RelV x u) us xs
  | _, _, .nil => .nil
  | _, _, .cons h t => .cons h (vals_each t)
theorem each_repL {K : PySem.W.Frag} {F : Hp} : ∀ {xs : List V} {l : List D}, PySem.W.EachIs (fun x d => Rep K F d x) xs l → RepL K F l xs
  | _, _, .nil => .nil
  | _, _, .cons h t => .cons h (each_repL t)
theorem repL_each {K : PySem.W.Frag} {F : Hp} : ∀ {xs : List V} {l : List D}, RepL K F l xs → PySem.W.EachIs (fun x d => Rep K F d x) xs l
  | xs, [], h => by unfold RepL at h; subst h; exact .nil
  | xs, d :: l, h => by
    unfold RepL at h
    obtain ⟨x, r, rfl, h1, h2⟩ := h
    exact .cons h1 (repL_each h2)
theorem srtK_length {α : Type} {ks : List Int} {l : List α} (h : ks.length = l.length) : (srtK ks l).length = l.length := by
  unfold srtK
  rw [List.length_map, (List.mergeSort_perm _ _).length_eq, List.length_zip]
  omega
theorem repL_srtK {K : PySem.W.Frag} {F : Hp} {xs : List V} {l : List D} {ks : List Int} (h : RepL K F l xs) : RepL K F (srtK ks l) (srtK ks xs) := each_repL (srtK_each (repL_each h))
section
variable {X : Cx} {pins : List (Addr × Obj)} {σ : L2.St} {H : Hp} {s : Shared} {l q : Addr} {xs : List V} {ks : List Int} {W : Nat → Hp → Prop} {Q : VK}
theorem sorted_kturn (I : Inv X pins σ H s) (hs : SqL X.K H l xs) (w0 : W 0 H) (turn : ∀ us, Vals xs us → KTurn X X.A.in1.in1 (.ref q) W us ks) (hl : ks.length = xs.length) (hu : X.A.in1.in1.units < cLine)
    (qe : ∀ (H' : Hp) (p : Addr), W xs.length H' → H' p = none → H p = none → Q (.ref p) (upd H' p (.lst (srtK ks xs)))) : wpAny (model X.prog X.w) X.A (call (.builtin "sorted") [.ref l] [(Str.ofString "key", .ref q)]) (EP X pins σ Q) X.xe s := by
  obtain ⟨us, rv, hL, hz⟩ := I.list hs
  have hlen : us.length = xs.length := rv.length.symm
  refine PySem.W.sorted_of_sort hL.isList (by omega) (PyProof.Rows.ksk_s1 _ _) (fun _ => PyProof.Rows.ksk_l1 _ _) fun E' => ?_
  rw [PyProof.Rows.ksk_t1]
  generalize hc : PySem.W.copyHeap s.heap us = hp
  have ho : hp.get? (s.heap.objs.size + 1) = some (seqObj "list" us.toArray 0) := by rw [← hc]; exact PySem.W.copyHeap_at s.heap us
  have old : ∀ b o, s.heap.get? b = some o → hp.get? b = some o := fun b o e => by rw [← hc]; exact PySem.W.copyHeap_old e
  generalize ha : s.heap.objs.size + 1 = a at ho ⊢
  have haN : @Eq Nat (s.heap.objs.size + 1) a := ha
  have hlt : @LT.lt Nat _ a hp.objs.size := Heap.lt_size ho
  have hle : @LE.le Nat _ s.heap.objs.size a := by omega
  have hle2 : @LE.le Nat _ s.heap.objs.size (hp.objs.size + 1) := by omega
  have hne : hp.objs.size + 1 ≠ a := fun z => by
    have z' : @Eq Nat (hp.objs.size + 1) a := z
    omega
  obtain ⟨ep, ho1⟩ : ∃ ep, (hp.update a (Obj.mapSeq fun _ => (#[] : Array Value))).get? a = some (seqObj "list" #[] ep) := ⟨_, get?_update_seq ho fun _ => #[]⟩
  have sz : ((hp.update a (Obj.mapSeq fun _ => (#[] : Array Value))).push (seqObj "tuple" us.toArray 0)).objs.size = hp.objs.size + 1 := by rw [size_push', Heap.size_update]
  unfold PyProof.Rows.ksk_tree
  refine wpAny_bind (listItems_at (s := { s with heap := hp }) ho rfl ?_)
  refine wpAny_bind (listUpdate_at (s := { s with heap := hp }) ho rfl ?_ (by rw [List.size_toArray]; omega) (Nat.zero_le _))
  refine wpAny_bind (seqEpoch_at (s := { s with heap := hp.update a (Obj.mapSeq fun _ => (#[] : Array Value)) }) ho1 rfl ?_)
  refine wpAny_bind (wpAny_newTuple ?_ (by show us.length ≤ _; omega))
  refine wpAny_bind (wpAny_newList ?_ (Nat.zero_le _))
  refine wpAny_holding ?_
  have up : ∀ b o, s.heap.get? b = some o → (PySem.W.sortingHeap hp a us).get? b = some o := fun b o e => PySem.W.sortingHeap_old (fun z => by
    have h1 : @LT.lt Nat _ b s.heap.objs.size := Heap.lt_size e
    have h2 : @Eq Nat b a := z
    omega) (old b o e)
  have I1 : Inv X pins σ H { s with heap := PySem.W.sortingHeap hp a us } := I.kept (t' := s.toks) up
  have hn : H a = none := I.hok.fresh hle
  have hn2 : H (hp.objs.size + 1) = none := I.hok.fresh hle2
  have fa : FpOk X pins H a := I.fpOk hle hn
  have fk : FpOk X pins H (hp.objs.size + 1) := I.fpOk hle2 hn2
  show wpAny (model X.prog X.w) X.A.in1.in1 (PyProof.Rows.ksk_rest a (.ref q) false us.toArray ep (.ref ((hp.update a (Obj.mapSeq fun _ => (#[] : Array Value))).push (seqObj "tuple" us.toArray 0)).objs.size)) _ _ { s with heap := PySem.W.sortingHeap hp a us }
  rw [sz]
  refine skey_rest I1 fa fk hne ?_ ?_ w0 (turn us rv) (by omega) (by omega) hu fun H' s' out c I' w' f' hc' ko => ⟨rfl, ?_⟩
  · show (((hp.update a (Obj.mapSeq fun _ => (#[] : Array Value))).push (seqObj "tuple" us.toArray 0)).push (seqObj "list" #[] 0)).get? (hp.objs.size + 1) = _
    rw [← sz]
    exact Heap.get?_push_size _ rfl
  · show (((hp.update a (Obj.mapSeq fun _ => (#[] : Array Value))).push (seqObj "tuple" us.toArray 0)).push (seqObj "list" #[] 0)).get? a = _
    exact Heap.get?_push_of_some _ (Heap.get?_push_of_some _ ho1)
  · have e1 : (intP ks) = (xs.zip ks).map (fun p : V × Int => PyData.int p.2) := by
      unfold intP
      have : ks = (xs.zip ks).map (·.2) := by rw [List.map_snd_zip (by omega)]
      conv => lhs; rw [this]
      rw [List.map_map]
      rfl
    rw [e1] at ko
    have eR : PySem.W.EachIs (fun (u : Value) (p : V × Int) => RelV p.1 u) us (xs.zip ks) := by
      have h0 := vals_each rv
      clear ko e1 turn qe w' w0
      have gen : ∀ {us : List Value} {xs : List V} {ks : List Int}, PySem.W.EachIs (fun u x => RelV x u) us xs → ks.length = xs.length → PySem.W.EachIs (fun (u : Value) (p : V × Int) => RelV p.1 u) us (xs.zip ks) := by
        intro us xs ks h
        induction h generalizing ks with
        | nil => intro _; exact .nil
        | cons h t ih =>
          intro e
          cases ks with
          | nil => simp at e
          | cons k ks => exact .cons h (ih (by simpa using e))
      exact gen h0 hl
    have e2 := PySem.W.keyedOut_each (fun p : V × Int => PyData.int p.2) ko eR
    rw [PySem.W.sort_congr (s := fun p q : V × Int => decide (p.2 ≤ q.2)) fun p _ q _ => dataLe_int p q] at e2
    have e3 : Vals (srtK ks xs) out := each_vals (by
      have := each_fst (R := fun (u : Value) (x : V) => RelV x u) (as := out.map fun u => (u, ())) (bs := (xs.zip ks).mergeSort fun p q => decide (p.2 ≤ q.2)) (by
        have gen : ∀ {os : List Value} {ps : List (V × Int)}, PySem.W.EachIs (fun (u : Value) (p : V × Int) => RelV p.1 u) os ps → PySem.W.EachIs (fun (p : Value × Unit) (q : V × Int) => RelV q.1 p.1) (os.map fun u => (u, ())) ps := by
          intro os ps h
          induction h with
          | nil => exact .nil
          | cons h t ih => exact .cons h ih
        exact gen e2)
      rw [List.map_map] at this
      have e4 : (out.map ((fun x : Value × Unit => x.1) ∘ fun u => (u, ()))) = out := by
        rw [show ((fun x : Value × Unit => x.1) ∘ fun u => (u, ())) = id from rfl, List.map_id]
      rw [e4] at this
      exact this)
    refine ⟨.ref a, _, adopt I' f' (o := .lst (srtK ks xs)) ?_, rfl, qe H' a (by rw [← hlen]; exact w') f'.1 hn⟩
    exact ⟨by rw [srtK_length hl]; exact hz, out, c, e3, hc'⟩
end
end VL

set_option Elab.async false
set_option linter.all false
set_option maxRecDepth 100000
set_option maxHeartbeats 1000000
namespace VL
open PySem PySem.Spec PyProof.Rows L2

/-! o.m as a value -/
def tBnd (C : Addr) (m : Str) (g : Addr) (to : TE) : TE := fun σ H Q => to σ H fun y H1 => ∃ b dx fs, y = .ref b ∧ H1 b = some (.ins C dx fs) ∧ fs.lookup m = none ∧ ∀ q, H1 q = none → Q (.ref q) (upd H1 q (.met g b))
/-- sorted(l, key=q), q a bound method -/
def rSKM (K : PySem.W.Frag) (g : Addr) (sp : Sp) : List V → List V → Hp → VK → Prop := fun vs zs H Q => ∃ (l q b : Addr) (xs : List V) (ks : List Int) (W : Nat → Hp → Prop), vs = [.ref l] ∧ zs = [.ref q] ∧ SqL K H l xs ∧ ks.length = xs.length ∧ W 0 H ∧
  (∀ i x k H', xs[i]? = some x → ks[i]? = some k → W i H' → H' q = some (.met g b) ∧ sp [.ref b, x] H' (fun v H2 => v = .int k ∧ W (i + 1) H2) fun _ _ _ => False) ∧
  ∀ H' p, W xs.length H' → H' p = none → H p = none → Q (.ref p) (upd H' p (.lst (srtK ks xs)))
section
variable {X : Cx} {o : Expr} {to : TE} {C g : Addr} {m : Str} {pos apos : Pos} {k : Nat} {fd : FuncData} {ps : List Str} {sp : Sp}
theorem pe_bnd (he : PE X o to) (c : Cls X.K C) (bm : BMeth X.K C m g) (hb : attributeBase o m X.env (eval o X.env) = eval o X.env := by rfl) : PE X (.Attribute o m pos) (tBnd C m g to) := by
  refine ⟨fun pins s σ H Q I h => attr_of hb (thn (he.run pins s σ H _ I h) fun u s1 hu => ?_)⟩
  obtain ⟨y, H1, I1, ry, b, dx, fs, rfl, e, l, q⟩ := hu
  exact op_getbound I1 e c bm l ry q
theorem cr_sortKM (F : FnOk X.prog X.w X.K X.mg X.base (L2.CX X.prog X.w) k g fd ps sp) (hr : Room (k + 2) X.A) (hb : Binds X.K fd ps []) : CallRK X (.builtin "sorted") [Str.ofString "key"] (rSKM X.K g sp) := by
  intro pins s σ H vs zs us ws Q I rv rz h
  obtain ⟨l, q, b, xs, ks, W, rfl, rfl, hs, hl, w0, turn, qe⟩ := h
  obtain rfl := Vals.ref1 rv
  obtain rfl := Vals.ref1 rz
  refine sorted_kturn I hs w0 (fun us rx i u kk pins' σ' H' s' hu hk hw I' => ?_) hl (by have := hr.un; show X.A.units + 1 + 1 < _; omega) qe
  have hi : i < xs.length := by
    have h1 := (List.getElem?_eq_some_iff.mp hu).1
    have h2 := rx.length
    omega
  obtain ⟨u2, eu, ru⟩ := rx.get (List.getElem?_eq_getElem hi)
  have : u2 = u := Option.some.inj (eu.symm.trans hu)
  subst this
  obtain ⟨hq, hsp⟩ := turn i _ kk H' (List.getElem?_eq_getElem hi) hk hw
  have r2 : Vals [.ref b, xs[i]] [Value.ref b, u2] := .cons rfl (.cons ru .nil)
  have hps : [Value.ref b, u2].length = ps.length := by rw [← F.len _ _ _ _ hsp]; rfl
  have bt := hb s' [Value.ref b, u2] I'.kIn (by rw [List.append_nil]; exact hps)
  rw [List.append_nil] at bt
  have hr2 : Room k X.A.in1.in1 := (Room.in1 (k := k + 1) hr).in1
  refine wpAny_call (call_met I' hq (codeAny_mono (F.run X.A.in1.in1 X.stack s' H' ⟨[Value.ref b, u2], []⟩ _ _ _ _ hr2 I'.env0.in1.in1 bt r2 hsp) fun r s2 hc => ?_))
  cases r with
  | error e =>
    obtain ⟨_, _, _, _, _, _, _, _, _, _, _, _, z⟩ := hc
    exact z.elim
  | ok fl =>
    cases fl with
    | ret v =>
      obtain ⟨x, H2, I2, rx, rfl, w2⟩ := I'.after hc
      obtain ⟨t, rfl⟩ := rx
      exact ⟨H2, t, I2, rfl, w2⟩
    | next => exact False.elim hc
    | brk => exact False.elim hc
    | cont => exact False.elim hc
end

/-! on data -/
section
variable {Th : Type} {B : Bs Th} {W : WX} {X : Cx} {a o : Expr} {C g : Addr} {m : Str} {p pos apos kpos : Pos} {k : Nat} {fd : FuncData} {ps : List Str} {c : Cp} {wa : WO Th} {wo : WE Th}
def wSrtM (C : Addr) (m : Str) (c : Cp) (wa : WO Th) (wo : WE Th) : WR Th := fun e t Q E => wa e t (fun oa e1 t1 => wo e1 t1 (fun d e2 t2 => ob (rs e2 oa) fun ld => match ld, d with
  | .lst l, .ins C' fs => C' = C ∧ fs.lookup m = none ∧ ∃ ks : List Int, ks.length = l.length ∧ (∀ (i : Nat) (x : D) (k : Int), l[i]? = some x → ks[i]? = some k → c [.ins C fs, x] (fun r => r = .sh (.int k)) fun _ => False) ∧ Q (.ow (.lst (srtK ks l))) e2 t2
  | _, _ => False) E) E
theorem dr_sortM (hK : B.K = X.K) (F : FnOk X.prog X.w X.K X.mg X.base (L2.CX X.prog X.w) k g fd ps (spP B.K c)) (hr : Room (k + 2) X.A) (hb : Binds X.K fd ps []) (hcl : Cls X.K C) (bm : BMeth X.K C m g) (hm : X.mg "sorted" = none)
    (ha : PE X a (liftO B W wa)) (ho : PE X o (liftE B W wo)) (hg : Gl X "sorted" := by rfl)
    (hst : starEach [a] X.env = (false, eval a X.env) :: starEach [] X.env := by rfl) (hbs : attributeBase o m X.env (eval o X.env) = eval o X.env := by rfl) (he : backTo pos (starEach [a] X.env) = (false, eval a X.env) :: backTo pos (starEach [] X.env) := by rfl) (hpl : (backTo pos (starEach [a] X.env)).any (·.1) = false := by rfl)
    (hall : (backToKw pos (keywordEach [⟨some (Str.ofString "key"), .Attribute o m apos, kpos⟩] X.env)).all (·.1.isSome) = true := by rfl) (hnone : (backToKw pos (keywordEach [⟨some (Str.ofString "key"), .Attribute o m apos, kpos⟩] X.env)).any (·.1.isNone) = false := by rfl)
    (hks : (backToKw pos (keywordEach [⟨some (Str.ofString "key"), .Attribute o m apos, kpos⟩] X.env)).filterMap (·.1) = [Str.ofString "key"] := by rfl) :
    PE X (.Call (.Name "sorted" p) [a] [⟨some (Str.ofString "key"), .Attribute o m apos, kpos⟩] pos) (liftR B W (wSrtM C m c wa wo)) := by
  refine weakE (pe_callBK (cr_sortKM F hr hb) hg hm (by decide +kernel) (pa_cons ha pa_nil hst) (pk_cons (pe_bnd ho hcl bm hbs) pk_nil) (by decide) (by decide) he hpl hall hnone hks) ?_
  rintro σ H Q ⟨F0, t, e, Qd, Ed, S, eo, hw, hq⟩
  refine ⟨F0, t, e, _, Ed, S, eo, hw, fun x H1 F1 t1 e1 oa S1 L1 r1 q1 => ?_⟩
  refine ⟨F1, t1, e1, _, Ed, S1, eo, q1, fun y H2 F2 t2 e2 d S2 L2' r2 q2 => ?_⟩
  obtain ⟨ld, el, q2⟩ := ob_some q2
  cases ld with
  | lst l =>
    cases d with
    | ins C' fs =>
      obtain ⟨rfl, hlk, ks, hkl, hc, q3⟩ := q2
      obtain ⟨la, xs, rfl, hla, rl⟩ := red_lst ((r1.mono L2'.le).red S2 el)
      obtain ⟨b, dx, gs, rfl, hb', rf⟩ := rep_ins.mp r2
      refine ⟨b, dx, gs, rfl, S2.sub _ _ hb', (repF_lookup rf).1 hlk, fun q hq' => ?_⟩
      have hne : la ≠ q := ne_of_none hla hq'
      have S3 := S2.loose (o := .met g b) hq'
      have T3 : Stp B σ F0 t e H F2 t2 e2 (upd H2 q (.met g b)) := (L1.trans L2').trans (.loose hq')
      have fq : F2 q = none := S2.sub.free hq'
      have sq : ¬ InSl e2 σ q := fun ⟨i, d, h1, h2⟩ => S2.nslot hq' i d h1 h2
      refine ⟨la, q, b, xs, ks, fun i H' => ∃ F', SR B F' t2 e2 σ H' ∧ Stp B σ F0 t e H F' t2 e2 H' ∧ L2.Same F2 F' ∧ H' q = some (.met g b) ∧ F' q = none, rfl, rfl, ?_, by rw [rl.length]; exact hkl, ⟨F2, S3, T3, .refl _, upd_same, fq⟩, fun i x kk H' hx hk ⟨F', S', T', s', hq2, fq2⟩ => ⟨hq2, ?_⟩, fun H' p ⟨F', S', T', s', hq2, fq2⟩ hp hp2 => ?_⟩
      · rw [← hK]
        exact SqL.of (by rw [upd_ne hne]; exact hla)
      · obtain ⟨dd, ed, rd⟩ := rl.get' hx
        have rr : RepL B.K F' [.ins C' fs, dd] [.ref b, x] := .cons (rep_ins.mpr ⟨b, dx, gs, rfl, s' _ _ hb', rf.mono s'⟩) (.cons (rd.mono s') .nil)
        have hcc := hc i dd kk ed hk
        have := S'.call (W := NX) (Ed := noX) (c := liftC c) (Qd := fun r e3 t3 => r = .sh (.int kk) ∧ t3 = t2 ∧ e3 = e2) (Q := fun v H2 => v = .int kk ∧ ∃ F', SR B F' t2 e2 σ H2 ∧ Stp B σ F0 t e H F' t2 e2 H2 ∧ L2.Same F2 F' ∧ H2 q = some (.met g b) ∧ F' q = none)
          eok_no rr ?_ fun v H4 F4 t4 r S4 L4 r4 n4 q4 => ?_
        · exact spP_of this
        · have mono : ∀ (ds : List D) (Q Q' : R → Prop), (∀ r, Q r → Q' r) → c ds Q (fun _ => False) → c ds Q' (fun _ => False) → True := fun _ _ _ _ _ _ => trivial
          show c [.ins C' fs, dd] (fun r => r = .sh (.int kk) ∧ t2 = t2 ∧ e2 = e2) fun _ => False
          have e0 : (fun r : R => r = .sh (.int kk) ∧ t2 = t2 ∧ e2 = e2) = fun r => r = .sh (.int kk) := by
            funext r
            simp
          rw [e0]
          exact hcc
        · obtain ⟨rfl, rfl, _⟩ := q4
          obtain ⟨k1, k2, _⟩ := L4.keep q _ hq2 (fun _ z => by cases z) fq2 (S2.nfp hq') sq
          exact ⟨(rep_int (K := B.K) (F := F4)).mp r4, F4, S4, T'.trans L4, s'.trans L4.le, k1, k2⟩
      · obtain ⟨F5, S5, T5, r5, n5⟩ := Mk.go S' (Mk.lst hp (repL_srtK (ks := ks) (rl.mono s')))
        exact hq _ _ F5 t2 e2 _ S5 (T'.trans T5) r5 (n5.from T') q3
    | _ => exact q2.elim
  | _ => exact q2.elim
end
end VL

set_option Elab.async false
set_option linter.all false
set_option maxRecDepth 100000
set_option maxHeartbeats 1000000
namespace VL
open PySem PySem.Spec PyProof.Rows L2

/-! slices -/
def cutD (l : List D) (lo hi : Option Int) : List D := (l.drop (HT.sIx l.length 0 lo)).take (HT.sIx l.length l.length hi - HT.sIx l.length 0 lo)
theorem rep_cut {K : PySem.W.Frag} {F : Hp} {l : List D} {vs : List V} (r : RepL K F l vs) (lo hi : Option Int) : RepL K F (cutD l lo hi) (cutV vs lo hi) := by
  unfold cutD cutV
  rw [r.length]
  exact (r.drop _).take _
theorem rep_pick {K : PySem.W.Frag} {F : Hp} {l : List D} {vs : List V} (r : RepL K F l vs) (lo hi st : Option Int) : RepL K F (pkV l lo hi st) (pkV vs lo hi st) := by
  unfold pkV
  rw [r.length]
  generalize sliceRange (sliceBounds lo hi st l.length).1 (sliceBounds lo hi st l.length).2.1 (sliceBounds lo hi st l.length).2.2 = is
  induction is with
  | nil => exact .nil
  | cons i is ih =>
    by_cases h : i < l.length
    · obtain ⟨u, eu, ru⟩ := r.get (List.getElem?_eq_getElem h)
      rw [List.filterMap_cons, List.filterMap_cons, List.getElem?_eq_getElem h, eu]
      exact .cons ru ih
    · have hl := r.length
      rw [List.filterMap_cons, List.filterMap_cons, List.getElem?_eq_none (by omega), List.getElem?_eq_none (by omega)]
      exact ih
abbrev WP (Th : Type) := Ev → Th → (Option Int → Ev → Th → Prop) → KX Th → Prop
def liftP {Th : Type} (B : Bs Th) (W : WX) (w : WP Th) : TO := fun σ H Q => ∃ (F : Hp) (t : Th) (e : Ev) (Qd : Option Int → Ev → Th → Prop) (Ed : KX Th), SR B F t e σ H ∧ EOK B W σ Ed ∧ w e t Qd Ed ∧
  ∀ o H' F' t' e', SR B F' t' e' σ H' → Stp B σ F t e H F' t' e' H' → Qd o e' t' → Q o H'
def gSl (d : D) (lo hi : Option Int) (k : R → Prop) : Prop := match d with
  | .lst l => k (.ow (.lst (cutD l lo hi)))
  | .tup l => k (.sh (.tup (cutD l lo hi)))
  | .str z => z.length ≤ sizeLine ∧ k (.sh (.str (cutS z lo hi)))
  | _ => False
def gSl3 (d : D) (lo hi st : Option Int) (k : R → Prop) : Prop := match d with
  | .lst l => st ≠ some 0 ∧ (pkV l lo hi st).length ≤ sizeLine ∧ k (.ow (.lst (pkV l lo hi st)))
  | _ => False
section
variable {Th : Type} {B : Bs Th} {W : WX} {X : Cx} {pos p2 : Pos} {a b : Expr} {es : List Expr} {we : WE Th} {wa wb wc : WO Th} {wl wh ws : WP Th} {lo hi : Option Expr} {se : Expr}
def wPnone : WP Th := fun e t Q _ => Q none e t
def wPsome (we : WE Th) : WP Th := fun e t Q E => we e t (fun d e1 t1 => match d with | .int i => Q (some i) e1 t1 | _ => False) E
theorem dp_none : PO X none (liftP B W (wPnone (Th := Th))) := by
  refine ⟨fun pins s σ H Q I h => po_none.run pins s σ H Q I ?_⟩
  obtain ⟨F, t, e, Qd, Ed, S, eo, hw, hq⟩ := h
  exact hq none H F t e S .refl hw
theorem dp_some (h : PE X a (liftE B W we)) : PO X (some a) (liftP B W (wPsome we)) := by
  refine ⟨fun pins s σ H Q I hh => (po_some h).run pins s σ H Q I ?_⟩
  obtain ⟨F, t, e, Qd, Ed, S, eo, hw, hq⟩ := hh
  refine ⟨F, t, e, _, Ed, S, eo, hw, fun v H1 F1 t1 e1 d S1 L1 r1 q1 => ?_⟩
  cases d with
  | int i => exact ⟨i, (rep_int (K := B.K) (F := F1)).mp r1, hq _ H1 F1 t1 e1 S1 L1 q1⟩
  | _ => exact q1.elim
def wSl (wa : WO Th) (wl wh : WP Th) : WR Th := fun e t Q E => wa e t (fun oa e1 t1 => wl e1 t1 (fun l e2 t2 => wh e2 t2 (fun h e3 t3 => ob (rs e3 oa) fun d => gSl d l h fun r => Q r e3 t3) E) E) E
def wSl3 (wa : WO Th) (wl wh ws : WP Th) : WR Th := fun e t Q E => wa e t (fun oa e1 t1 => wl e1 t1 (fun l e2 t2 => wh e2 t2 (fun h e3 t3 => ws e3 t3 (fun s e4 t4 => ob (rs e4 oa) fun d => gSl3 d l h s fun r => Q r e4 t4) E) E) E) E
def rSlAll (K : PySem.W.Frag) : V → Option Int → Option Int → Hp → VK → Prop := fun x lo hi H Q => (rSlL K x lo hi H Q ∨ rSlA K x lo hi H Q) ∨ rSlS x lo hi H Q
theorem whole_cut {l : List D} {lo hi : Option Int} (h : HT.sIx l.length 0 lo = 0 ∧ HT.sIx l.length l.length hi = l.length) : cutD l lo hi = l := by
  unfold cutD
  rw [h.1, h.2]
  simp
theorem dr_sl (hK : B.K = X.K) (ha : PE X a (liftO B W wa)) (hl : PO X lo (liftP B W wl)) (hh : PO X hi (liftP B W wh)) : PE X (.Subscript a (.Slice lo hi none p2) pos) (liftR B W (wSl wa wl wh)) :=
  weakE (pe_slice ((sl_list.or sl_tupA).or sl_str) ha hl hh) (by
  rintro σ H Q ⟨F, t, e, Qd, Ed, S, eo, hw, hq⟩
  refine ⟨F, t, e, _, Ed, S, eo, hw, fun x H1 F1 t1 e1 oa S1 L1 r1 q1 => ?_⟩
  refine ⟨F1, t1, e1, _, Ed, S1, eo, q1, fun l H2 F2 t2 e2 S2 L2 q2 => ?_⟩
  refine ⟨F2, t2, e2, _, Ed, S2, eo, q2, fun h H3 F3 t3 e3 S3 L3 q3 => ?_⟩
  obtain ⟨d, ed, q3⟩ := ob_some q3
  have rd := ((r1.mono L2.le).mono L3.le).red S3 ed
  have fin : ∀ {r : R} {v : V} {H' : Hp}, Mk B.K F3 H3 r v H' → Qd r e3 t3 → Q v H' := fun {r v H'} m q => by
    obtain ⟨F4, S4, L4, r4, n4⟩ := m.go S3
    exact hq v H' F4 t3 e3 r S4 (((L1.trans L2).trans L3).trans L4) r4 (n4.from ((L1.trans L2).trans L3)) q
  cases d with
  | lst m =>
    obtain ⟨p, vs, rfl, hp, r⟩ := red_lst rd
    exact .inl (.inl ⟨p, vs, rfl, by rw [← hK]; exact SqL.of hp, fun q hq' => fin (.lst hq' (rep_cut r l h)) q3⟩)
  | tup m =>
    obtain ⟨p, vs, rfl, hp, r⟩ := red_tup rd
    refine .inl (.inr ⟨p, vs, rfl, by rw [← hK]; exact SqT.of (S3.sub _ _ hp), fun hw => ?_, fun _ q hq' => fin (.tup hq' (rep_cut r l h)) q3⟩)
    rw [r.length] at hw
    have e0 := whole_cut hw
    refine fin (r := .sh (.tup (cutD m l h))) (.sh (rep_tup.mpr ⟨p, vs, rfl, hp, ?_⟩)) q3
    rw [e0]
    exact r
  | str z => exact .inr ⟨z, red_str rd, q3.1, fin (mk_str _) q3.2⟩
  | _ => exact q3.elim)
theorem dr_sl3 (hK : B.K = X.K) (ha : PE X a (liftO B W wa)) (hl : PO X lo (liftP B W wl)) (hh : PO X hi (liftP B W wh)) (hs : PO X (some se) (liftP B W ws)) : PE X (.Subscript a (.Slice lo hi (some se) p2) pos) (liftR B W (wSl3 wa wl wh ws)) :=
  weakE (pe_slice3 ha hl hh hs) (by
  rintro σ H Q ⟨F, t, e, Qd, Ed, S, eo, hw, hq⟩
  refine ⟨F, t, e, _, Ed, S, eo, hw, fun x H1 F1 t1 e1 oa S1 L1 r1 q1 => ?_⟩
  refine ⟨F1, t1, e1, _, Ed, S1, eo, q1, fun l H2 F2 t2 e2 S2 L2 q2 => ?_⟩
  refine ⟨F2, t2, e2, _, Ed, S2, eo, q2, fun h H3 F3 t3 e3 S3 L3 q3 => ?_⟩
  refine ⟨F3, t3, e3, _, Ed, S3, eo, q3, fun st H4 F4 t4 e4 S4 L4 q4 => ?_⟩
  obtain ⟨d, ed, q4⟩ := ob_some q4
  have rd := (((r1.mono L2.le).mono L3.le).mono L4.le).red S4 ed
  cases d with
  | lst m =>
    obtain ⟨p, vs, rfl, hp, r⟩ := red_lst rd
    obtain ⟨z0, z1, q5⟩ := q4
    have hr := rep_pick r l h st
    refine ⟨p, vs, rfl, by rw [← hK]; exact SqL.of hp, z0, by rw [hr.length]; exact z1, fun q hq' => ?_⟩
    obtain ⟨F5, S5, L5, r5, n5⟩ := (Mk.lst hq' hr).go S4
    exact hq _ _ F5 t4 e4 _ S5 ((((L1.trans L2).trans L3).trans L4).trans L5) r5 (n5.from (((L1.trans L2).trans L3).trans L4)) q5
  | _ => exact q4.elim)

/-! d.get(k), d.get(k, x) -/
def isDict : D → Bool
  | .dk _ => true
  | .dt _ => true
  | _ => false
theorem isDict_red {K : PySem.W.Frag} {F H : Hp} {d : D} {v : V} (h : isDict d = true) (r : Red K F H d v) : ∃ a, v = .ref a ∧ IsD H a := by
  cases d <;> cases h
  · obtain ⟨a, vs, rfl, h1, _⟩ := red_dk r; exact ⟨a, rfl, .inl ⟨vs, h1⟩⟩
  · obtain ⟨a, vs, rfl, h1, _⟩ := red_dt r; exact ⟨a, rfl, .inr ⟨vs, h1⟩⟩
def wGet1 (wo wk : WO Th) : WE Th := fun e t Q E => wo e t (fun o e1 t1 => ob (rs e1 o) fun d0 => isDict d0 = true ∧ wk e1 t1 (fun k e2 t2 => ob (rs e2 o) fun d => ob (rs e2 k) fun kd => getDk d kd fun x => Q (x.getD .non) e2 t2) E) E
def wGet2 (wo wk : WO Th) (wx : WE Th) : WE Th := fun e t Q E => wo e t (fun o e1 t1 => ob (rs e1 o) fun d0 => isDict d0 = true ∧ wk e1 t1 (fun k e2 t2 => wx e2 t2 (fun y e3 t3 => ob (rs e3 o) fun d => ob (rs e3 k) fun kd => getDk d kd fun x => Q (x.getD y) e3 t3) E) E) E
theorem de_get1 (hu : X.A.units + 1 < cLine) {apos cpos : Pos} (ho : PE X a (liftO B W wa)) (hk : PE X b (liftO B W wb)) (m : M1 X a "get" apos b cpos := by exact ⟨rfl, rfl, rfl, rfl⟩) : PE X (.Call (.Attribute a "get" apos) [b] [] cpos) (liftE B W (wGet1 wa wb)) :=
  weakE (pe_dget1 hu ho hk m) (by
  rintro σ H Q ⟨F, t, e, Qd, Ed, S, eo, hw, hq⟩
  refine ⟨F, t, e, _, Ed, S, eo, hw, fun x H1 F1 t1 e1 oa S1 L1 r1 q1 => ?_⟩
  obtain ⟨d0, ed0, hd0, q1⟩ := ob_some q1
  obtain ⟨p, rfl, hp⟩ := isDict_red hd0 (r1.red S1 ed0)
  refine ⟨p, rfl, hp, F1, t1, e1, _, Ed, S1, eo, q1, fun y H2 F2 t2 e2 ok S2 L2 r2 q2 => ?_⟩
  obtain ⟨d, ed, q2⟩ := ob_some q2
  obtain ⟨kd, ek, q2⟩ := ob_some q2
  obtain ⟨p', od, o, e0, q3, g, _, g1, g2⟩ := getDk_some S2.sub q2 ((r1.mono L2.le).red S2 ed) (r2.red S2 ek)
  cases e0
  refine ⟨o, g, ?_⟩
  cases od with
  | none =>
    rw [g2 rfl]
    exact hq _ H2 F2 t2 e2 .non S2 (L1.trans L2) (rep_non.mpr rfl) q3
  | some d' =>
    obtain ⟨v, rfl, rv⟩ := g1 d' rfl
    exact hq _ H2 F2 t2 e2 d' S2 (L1.trans L2) rv q3)
theorem de_get2 (hu : X.A.units + 1 < cLine) {c : Expr} {apos cpos : Pos} (ho : PE X a (liftO B W wa)) (hk : PE X b (liftO B W wb)) (hx : PE X c (liftE B W we)) (m : M2 X a "get" apos b c cpos := by exact ⟨rfl, rfl, rfl, rfl⟩) : PE X (.Call (.Attribute a "get" apos) [b, c] [] cpos) (liftE B W (wGet2 wa wb we)) :=
  weakE (pe_dget2 hu ho hk hx m) (by
  rintro σ H Q ⟨F, t, e, Qd, Ed, S, eo, hw, hq⟩
  refine ⟨F, t, e, _, Ed, S, eo, hw, fun x H1 F1 t1 e1 oa S1 L1 r1 q1 => ?_⟩
  obtain ⟨d0, ed0, hd0, q1⟩ := ob_some q1
  obtain ⟨p, rfl, hp⟩ := isDict_red hd0 (r1.red S1 ed0)
  refine ⟨p, rfl, hp, F1, t1, e1, _, Ed, S1, eo, q1, fun y H2 F2 t2 e2 ok S2 L2 r2 q2 => ?_⟩
  refine ⟨F2, t2, e2, _, Ed, S2, eo, q2, fun z H3 F3 t3 e3 dz S3 L3 r3 q3 => ?_⟩
  obtain ⟨d, ed, q3⟩ := ob_some q3
  obtain ⟨kd, ek, q3⟩ := ob_some q3
  obtain ⟨p', od, o, e0, q4, g, _, g1, g2⟩ := getDk_some S3.sub q3 (((r1.mono L2.le).mono L3.le).red S3 ed) ((r2.mono L3.le).red S3 ek)
  cases e0
  refine ⟨o, g, ?_⟩
  have L13 := (L1.trans L2).trans L3
  cases od with
  | none =>
    rw [g2 rfl]
    exact hq _ H3 F3 t3 e3 dz S3 L13 r3 q4
  | some d' =>
    obtain ⟨v, rfl, rv⟩ := g1 d' rfl
    exact hq _ H3 F3 t3 e3 d' S3 L13 rv q4)

/-! items of a dict of either kind; list(d.values()) -/
def itemsA (d : D) (k : List D → Prop) : Prop := match d with
  | .dk l => k (l.map fun p => .tup [keyD p.1, p.2])
  | .dt l => k (l.map fun p => .tup [.tup (p.1.map keyD), p.2])
  | _ => False
theorem di_itemsA {elts : List Expr} {kk : Nat} {tpos : Pos} (he : PE X a (liftE B W we)) {apos cpos : Pos} (hbase : attributeBase a "items" X.env (eval a X.env) = eval a X.env := by rfl) (hline : (apos.endLine == cpos.line) = true := by rfl) :
    PI X (.Tuple elts kk tpos) (.Call (.Attribute a "items" apos) [] [] cpos) (liftI B W (wItK itemsA we)) := weakI (pi_itemsA he hbase hline) (by
  rintro σ H Q ⟨F, t, e, Qd, Ed, S, eo, hw, hq⟩
  refine ⟨F, t, e, _, Ed, S, eo, hw, fun v H1 F1 t1 e1 d S1 L1 r1 q1 => ?_⟩
  cases d with
  | dk l =>
    obtain ⟨c, od, vs, rfl, h1, r⟩ := rep_dk.mp r1
    refine ⟨c, od, rfl, .inl ⟨vs, S1.sub _ _ h1, hq _ H1 F1 t1 e1 _ S1 L1 ?_ q1⟩⟩
    intro F' t' e' σ' H' i S' L'
    have h2 := S'.sub _ _ (L' _ _ h1)
    rw [List.length_map, ← repK_len r]
    refine ⟨fun hi => ⟨h2, hi⟩, fun hi => ⟨h2, hi⟩, fun d x H2 hd hy => ?_⟩
    obtain ⟨T, k, v, hk, rfl, hT, rfl⟩ := hy
    obtain ⟨d', e', r'⟩ := repK_get r hk
    rw [List.getElem?_map, e'] at hd
    cases hd
    obtain ⟨S2, L2', r2⟩ := S'.newTup (l := [keyD k, d']) hT (.cons (rep_key k) (.cons (r'.mono L') .nil))
    exact ⟨_, S2, L2', r2⟩
  | dt l =>
    obtain ⟨c, od, vs, rfl, h1, r⟩ := rep_dt.mp r1
    refine ⟨c, od, rfl, .inr ⟨vs, S1.sub _ _ h1, hq _ H1 F1 t1 e1 _ S1 L1 ?_ q1⟩⟩
    intro F' t' e' σ' H' i S' L'
    have h2 := S'.sub _ _ (L' _ _ h1)
    rw [List.length_map, ← repT_len r]
    refine ⟨fun hi => ⟨h2, hi⟩, fun hi => ⟨h2, hi⟩, fun d x H2 hd hy => ?_⟩
    obtain ⟨T, k, v, q, hk, rfl, hT, hq', rfl⟩ := hy
    obtain ⟨d', e', r'⟩ := repT_get r hk
    rw [List.getElem?_map, e'] at hd
    cases hd
    obtain ⟨F3, S3, L3, h3⟩ := S'.seeTup hq'
    have rk : Rep B.K F3 (.tup (k.map keyD)) (.ref q) := rep_tup.mpr ⟨q, _, rfl, h3, rep_keys k⟩
    obtain ⟨S2, L2', r2⟩ := S3.newTup (l := [.tup (k.map keyD), d']) hT (.cons rk (.cons ((r'.mono L').mono L3.le) .nil))
    exact ⟨_, S2, L3.trans L2', r2⟩
  | _ => exact q1.elim)
def gVals (d : D) (k : R → Prop) : Prop := match d with
  | .dk l => k (.ow (.lst (l.map (·.2))))
  | _ => False
def wVals (wa : WO Th) : WR Th := fun e t Q E => wa e t (fun oa e1 t1 => ob (rs e1 oa) fun d => gVals d fun r => Q r e1 t1) E
theorem repK_snd {K : PySem.W.Frag} {F : Hp} : ∀ {l : List (Key × D)} {vs : List (Key × V)}, RepK K F l vs → RepL K F (l.map (·.2)) (vs.map (·.2))
  | [], vs, h => by unfold RepK at h; subst h; exact .nil
  | (k, d) :: l, vs, h => by
    unfold RepK at h
    obtain ⟨x, r, rfl, h1, h2⟩ := h
    exact .cons h1 (repK_snd h2)
theorem dr_vals {p apos cpos : Pos} (hm : X.mg "list" = none) (he : PE X a (liftO B W wa)) (hc : X.calm = true := by rfl) (hg : Gl X "list" := by rfl) (hbase : attributeBase a "values" X.env (eval a X.env) = eval a X.env := by rfl) (hline : (apos.endLine == cpos.line) = true := by rfl)
    (hs : starEach [.Call (.Attribute a "values" apos) [] [] cpos] X.env = (false, eval (.Call (.Attribute a "values" apos) [] [] cpos) X.env) :: starEach [] X.env := by rfl) :
    PE X (.Call (.Name "list" p) [.Call (.Attribute a "values" apos) [] [] cpos] [] pos) (liftR B W (wVals wa)) := weakE (pe_listVals hc he hg hm (by decide +kernel) hbase hline hs) (by
  rintro σ H Q ⟨F, t, e, Qd, Ed, S, eo, hw, hq⟩
  refine ⟨F, t, e, _, Ed, S, eo, hw, fun v H1 F1 t1 e1 oa S1 L1 r1 q1 => ?_⟩
  obtain ⟨d, ed, q1⟩ := ob_some q1
  have rd := r1.red S1 ed
  cases d with
  | dk l =>
    obtain ⟨q, vs, rfl, h1, r⟩ := red_dk rd
    refine ⟨q, vs, rfl, h1, fun p hp => ?_⟩
    obtain ⟨F5, S5, L5, r5, n5⟩ := (Mk.lst hp (repK_snd r)).go S1
    exact hq _ _ F5 t1 e1 _ S5 (L1.trans L5) r5 (n5.from L1) q1
  | _ => exact q1.elim)
end
end VL

set_option Elab.async false
set_option linter.all false
set_option maxRecDepth 100000
set_option maxHeartbeats 1000000
namespace VL
open PySem PySem.Spec PyProof.Rows L2

/-! what an owner does to its thing -/
def Cn (K : PySem.W.Frag) (F : Hp) : HO → D → Prop
  | .lst vs, .lst l => RepL K F l vs
  | .dK vs, .dk l => RepK K F l vs
  | .dT vs, .dt l => RepT K F l vs
  | .ins C _ gs, .ins C' fs => C = C' ∧ RepF K F fs gs
  | _, _ => False
theorem Own.cn {K : PySem.W.Frag} {F H : Hp} {a : Addr} {d : D} (h : Own K F H a d) : ∃ o, H a = some o ∧ Cn K F o d := by
  obtain ⟨_, h⟩ := h
  cases d <;> first | exact h.elim | (obtain ⟨vs, e, r⟩ := h; exact ⟨_, e, r⟩) | (obtain ⟨vs, e, r⟩ := h; exact ⟨_, e, rfl, r⟩)
theorem Cn.own {K : PySem.W.Frag} {F H : Hp} {a : Addr} {o : HO} {d : D} (h : Cn K F o d) (n : F a = none) : Own K F (upd H a o) a d := by
  refine ⟨n, ?_⟩
  cases o <;> cases d <;> first | exact h.elim | exact ⟨_, upd_same, h⟩ | (obtain ⟨rfl, h⟩ := h; exact ⟨(_, _), upd_same, h⟩)
section
variable {Th : Type} {B : Bs Th} {W : WX} {X : Cx} {pos : Pos} {F H : Hp} {t : Th} {e : Ev} {σ : L2.St}
theorem SR.upd (S : SR B F t e σ H) {i : Nat} {d d' : D} {a : Addr} {o : HO} (h : e[i]? = some (.ow d)) (ha : σ[i]? = some (some (.ref a))) (hn : F a = none) (cn : Cn B.K F o d') :
    SR B F t (e.set i (.ow d')) σ (L2.upd H a o) ∧ Stp B σ F t e H F t (e.set i (.ow d')) (L2.upd H a o) := by
  obtain ⟨a', ea, S1, r1, m1⟩ := S.owned h
  rw [ha] at ea
  cases ea
  obtain ⟨a2, ea2, o1, h0, hf, hs⟩ := r1
  cases ea2
  have S2 : SR B F t (e.set i .un) σ (L2.upd H a o) := S1.write h0 hf hn (fun b hb => upd_ne hb) (fun _ _ => rfl) (fun u z => by rw [hn] at z; cases z) ⟨_, upd_same⟩ hs
  have S3 := S2.setOw (d := d') (a := a) ⟨a, rfl, cn.own hn, h0, hf, hs⟩ i
  rw [List.set_set, set_same ha] at S3
  refine ⟨S3, ?_⟩
  refine Stp.at_ .refl (.inr m1) (fun b hb => upd_ne hb) (fun _ _ => rfl) hn ⟨_, upd_same⟩ fun c hc => ?_
  obtain ⟨j, dd, h1, h2⟩ := hc
  rw [List.getElem?_set] at h1
  by_cases hij : i = j
  · subst hij
    rw [ha] at h2
    cases h2
    exact m1
  · rw [if_neg hij] at h1
    exact ⟨j, dd, h1, h2⟩

/-! methods of an owned list -/
abbrev GM := D → List D → (D → D → Prop) → Prop
def OkM (K : PySem.W.Frag) (r : V → List V → Hp → VK → Prop) (g : GM) : Prop := ∀ (F H : Hp) (a : Addr) (o : HO) (vs : List V) (d : D) (ds : List D) (k : D → D → Prop) (Q : VK), L2.Same F H → F a = none → H a = some o → Cn K F o d → RepL K F ds vs → g d ds k →
  (∀ x v o' d', Rep K F x v → Cn K F o' d' → k x d' → Q v (L2.upd H a o')) → r (.ref a) vs H Q
def OkMO (K : PySem.W.Frag) (r : V → List V → Hp → VK → Prop) (g : GM) : Prop := ∀ (F H : Hp) (a : Addr) (o : HO) (vs : List V) (d : D) (ds : List D) (k : D → D → Prop) (Q : VK), L2.Same F H → F a = none → H a = some o → Cn K F o d → RedL K F H ds vs → g d ds k →
  (∀ x v o' d', Rep K F x v → Cn K F o' d' → k x d' → Q v (L2.upd H a o')) → r (.ref a) vs H Q
def isLO : Option Sl → Bool
  | some (.ow (.lst _)) => true
  | _ => false
def owD (s : Option Sl) (k : D → Prop) : Prop := match s with
  | some (.ow d) => k d
  | _ => False
theorem owD_some {s : Option Sl} {k : D → Prop} (h : owD s k) : ∃ d, s = some (.ow d) ∧ k d := by
  unfold owD at h
  split at h
  · exact ⟨_, rfl, h⟩
  · exact h.elim
theorem isLO_at (S : SR B F t e σ H) {i : Nat} (h : isLO e[i]? = true) (hK : B.K = X.K) : ∃ a, σ[i]? = some (some (.ref a)) ∧ tyV X.K "list" (.ref a) H := by
  unfold isLO at h
  split at h
  · rename_i l q
    obtain ⟨a, e1, o, _⟩ := S.ow i _ q
    obtain ⟨_, vs, hv, _⟩ := o
    exact ⟨a, e1, .inl ⟨rfl, vs, SqL.of hv⟩⟩
  · cases h
def wM (i : Nat) (g : GM) (ws : WA Th) : WE Th := fun e t Q E => isLO e[i]? = true ∧ ws e t (fun ds e1 t1 => owD e1[i]? fun d => g d ds fun x d' => Q x (e1.set i (.ow d')) t1) E
def wMO (i : Nat) (g : GM) (ws : WOs Th) : WE Th := fun e t Q E => isLO e[i]? = true ∧ ws e t (fun os e1 t1 => owD e1[i]? fun d => oL (rss e1 os) fun ds => g d ds fun x d' => Q x (e1.set i (.ow d')) t1) E
theorem SR.meth {r : V → List V → Hp → VK → Prop} {g : GM} (hg : OkM B.K r g) (S : SR B F t e σ H) {i : Nat} {a : Addr} {ds : List D} {vs : List V} {Q : VK} {Qd : D → Ev → Th → Prop} (ha : σ[i]? = some (some (.ref a))) (rl : RepL B.K F ds vs) (h : owD e[i]? fun d => g d ds fun x d' => Qd x (e.set i (.ow d')) t)
    (hq : ∀ v H' e' x, SR B F t e' σ H' → Stp B σ F t e H F t e' H' → Rep B.K F x v → Qd x e' t → Q v H') : r (.ref a) vs H Q := by
  obtain ⟨d, ed, h⟩ := owD_some h
  obtain ⟨a', e1, o, _⟩ := S.ow i d ed
  rw [ha] at e1
  cases e1
  obtain ⟨ob, eo, cn⟩ := o.cn
  refine hg F H a ob vs d ds _ Q S.sub o.1 eo cn rl h fun x v o' d' rx cn' q => ?_
  obtain ⟨S2, L2'⟩ := S.upd ed ha o.1 cn'
  exact hq v _ _ x S2 L2' rx q
theorem SR.methO {r : V → List V → Hp → VK → Prop} {g : GM} (hg : OkMO B.K r g) (S : SR B F t e σ H) {i : Nat} {a : Addr} {ds : List D} {vs : List V} {Q : VK} {Qd : D → Ev → Th → Prop} (ha : σ[i]? = some (some (.ref a))) (rl : RedL B.K F H ds vs) (h : owD e[i]? fun d => g d ds fun x d' => Qd x (e.set i (.ow d')) t)
    (hq : ∀ v H' e' x, SR B F t e' σ H' → Stp B σ F t e H F t e' H' → Rep B.K F x v → Qd x e' t → Q v H') : r (.ref a) vs H Q := by
  obtain ⟨d, ed, h⟩ := owD_some h
  obtain ⟨a', e1, o, _⟩ := S.ow i d ed
  rw [ha] at e1
  cases e1
  obtain ⟨ob, eo, cn⟩ := o.cn
  refine hg F H a ob vs d ds _ Q S.sub o.1 eo cn rl h fun x v o' d' rx cn' q => ?_
  obtain ⟨S2, L2'⟩ := S.upd ed ha o.1 cn'
  exact hq v _ _ x S2 L2' rx q
variable {x m : Str} {pv apos cpos : Pos} {a : Expr} {es : List Expr} {id : String} {ws : WA Th} {wos : WOs Th}
theorem de_m0 (i : Nat) {r : V → List V → Hp → VK → Prop} {g : GM} (hK : B.K = X.K) (slot : Slot "list" m id) (hty : typeOf (.builtin id) = pure (.type "method_descriptor")) (hm : MtR X id r) (hg : OkM B.K r g)
    (hN : X.N[i]? = some x := by rfl) (hv : Vis X.env.scope x := by first | exact Or.inl rfl | exact Or.inr (Or.inl rfl) | exact Or.inr (Or.inr rfl)) (hd : (x == ("__debug__" : Str)) = false := by decide) (hcd : (x == ("__classdict__" : Str)) = false := by decide)
    (hbase : attributeBase (.Name x pv) m X.env (eval (.Name x pv) X.env) = eval (.Name x pv) X.env := by rfl) (hline : (apos.endLine == cpos.line) = true := by rfl) :
    PE X (.Call (.Attribute (.Name x pv) m apos) [] [] cpos) (liftE B W (wM i g wNil)) := weakE (pe_bm0 PySem.F.plainAttrs_list slot hty hm (pe_var hN hv hd hcd) hbase hline) (by
  rintro σ H Q ⟨F, t, e, Qd, Ed, S, eo, ⟨hl, hw⟩, hq⟩
  obtain ⟨a, ha, ty⟩ := isLO_at S hl hK
  exact ⟨.ref a, ha, ty, S.meth hg ha .nil hw fun v H' e' x S' L' rx q => hq v H' F t e' x S' L' rx q⟩)
theorem de_m (i : Nat) {r : V → List V → Hp → VK → Prop} {g : GM} (hK : B.K = X.K) (slot : Slot "list" m id) (hty : typeOf (.builtin id) = pure (.type "method_descriptor")) (hm : MtR X id r) (hg : OkM B.K r g) (ha : PA X (a :: es) (liftA B W ws))
    (hN : X.N[i]? = some x := by rfl) (hv : Vis X.env.scope x := by first | exact Or.inl rfl | exact Or.inr (Or.inl rfl) | exact Or.inr (Or.inr rfl)) (hd : (x == ("__debug__" : Str)) = false := by decide) (hcd : (x == ("__classdict__" : Str)) = false := by decide)
    (hbase : attributeBase (.Name x pv) m X.env (eval (.Name x pv) X.env) = eval (.Name x pv) X.env := by rfl)
    (hfew : ((backTo cpos (starEach (a :: es) X.env)).all (fun x => !x.1) && (backToKw cpos (keywordEach [] X.env)).all (fun x => x.1.isSome) && decide ((a :: es).length + ([] : List Keyword).length + (if ([] : List Keyword).isEmpty then 0 else 1) < 30)) = true := by rfl)
    (hline : (apos.endLine == cpos.line) = true := by rfl) (hs : starEach (a :: es) X.env = (false, eval a X.env) :: starEach es X.env := by rfl) (hplain : (backTo cpos (starEach es X.env)).any (·.1) = false := by rfl) :
    PE X (.Call (.Attribute (.Name x pv) m apos) (a :: es) [] cpos) (liftE B W (wM i g ws)) := weakE (pe_bm PySem.F.plainAttrs_list slot hty hm (pe_var hN hv hd hcd) ha hbase hfew hline hs hplain) (by
  rintro σ H Q ⟨F, t, e, Qd, Ed, S, eo, ⟨hl, hw⟩, hq⟩
  obtain ⟨p, hp, ty⟩ := isLO_at S hl hK
  refine ⟨.ref p, hp, ty, F, t, e, _, Ed, S, eo, hw, fun vs H1 F1 t1 e1 ds S1 L1 r1 q1 => ?_⟩
  exact S1.meth hg hp r1 q1 fun v H' e' x S' L' rx q => hq v H' F1 t1 e' x S' (L1.trans L') rx q)
theorem de_mO (i : Nat) {r : V → List V → Hp → VK → Prop} {g : GM} (hK : B.K = X.K) (slot : Slot "list" m id) (hty : typeOf (.builtin id) = pure (.type "method_descriptor")) (hm : MtR X id r) (hg : OkMO B.K r g) (ha : PA X (a :: es) (liftOs B W wos))
    (hN : X.N[i]? = some x := by rfl) (hv : Vis X.env.scope x := by first | exact Or.inl rfl | exact Or.inr (Or.inl rfl) | exact Or.inr (Or.inr rfl)) (hd : (x == ("__debug__" : Str)) = false := by decide) (hcd : (x == ("__classdict__" : Str)) = false := by decide)
    (hbase : attributeBase (.Name x pv) m X.env (eval (.Name x pv) X.env) = eval (.Name x pv) X.env := by rfl)
    (hfew : ((backTo cpos (starEach (a :: es) X.env)).all (fun x => !x.1) && (backToKw cpos (keywordEach [] X.env)).all (fun x => x.1.isSome) && decide ((a :: es).length + ([] : List Keyword).length + (if ([] : List Keyword).isEmpty then 0 else 1) < 30)) = true := by rfl)
    (hline : (apos.endLine == cpos.line) = true := by rfl) (hs : starEach (a :: es) X.env = (false, eval a X.env) :: starEach es X.env := by rfl) (hplain : (backTo cpos (starEach es X.env)).any (·.1) = false := by rfl) :
    PE X (.Call (.Attribute (.Name x pv) m apos) (a :: es) [] cpos) (liftE B W (wMO i g wos)) := weakE (pe_bm PySem.F.plainAttrs_list slot hty hm (pe_var hN hv hd hcd) ha hbase hfew hline hs hplain) (by
  rintro σ H Q ⟨F, t, e, Qd, Ed, S, eo, ⟨hl, hw⟩, hq⟩
  obtain ⟨p, hp, ty⟩ := isLO_at S hl hK
  refine ⟨.ref p, hp, ty, F, t, e, _, Ed, S, eo, hw, fun vs H1 F1 t1 e1 os S1 L1 r1 q1 => ?_⟩
  obtain ⟨d, ed, q1⟩ := owD_some q1
  obtain ⟨ds, es', q1⟩ := oL_some q1
  exact S1.methO (Qd := Qd) hg hp (r1.red S1 es') (by rw [ed]; exact q1) fun v H' e' x S' L' rx q => hq v H' F1 t1 e' x S' (L1.trans L') rx q)
end
def gAppend : GM := fun d ds k => match d, ds with
  | .lst l, [x] => l.length < sizeLine ∧ k .non (.lst (l ++ [x]))
  | _, _ => False
def gPop : GM := fun d ds k => match d, ds with
  | .lst l, [] => oD l.getLast? fun x => k x (.lst l.dropLast)
  | _, _ => False
def gPopAt : GM := fun d ds k => match d, ds with
  | .lst l, [.int i] => (-(2 ^ 63) ≤ i ∧ i < 2 ^ 63) ∧ ∃ j, seqIndex? i l.length = some j ∧ oD l[j]? fun x => k x (.lst (l.eraseIdx j))
  | _, _ => False
def gExtend : GM := fun d ds k => match d, ds with
  | .lst l, [.lst m] => l.length + m.length ≤ sizeLine ∧ k .non (.lst (l ++ m))
  | _, _ => False
theorem cn_lst {K : PySem.W.Frag} {F : Hp} {o : HO} {l : List D} (h : Cn K F o (.lst l)) : ∃ vs, o = .lst vs ∧ RepL K F l vs := by
  cases o <;> first | exact h.elim | exact ⟨_, rfl, h⟩
theorem ok_append {K : PySem.W.Frag} : OkM K rAppend gAppend := by
  intro F H a o vs d ds k Q s hn ho cn rl hg hk
  unfold gAppend at hg
  split at hg
  · obtain ⟨us, rfl, r⟩ := cn_lst cn
    obtain ⟨y, rfl, ry⟩ := repL1 rl
    exact ⟨a, us, y, rfl, rfl, ho, by rw [r.length]; exact hg.1, hk .non .non (.lst (us ++ [y])) (.lst (_)) (rep_non.mpr rfl) (r.append (.cons ry .nil)) hg.2⟩
  · exact hg.elim
theorem repL_last {K : PySem.W.Frag} {F : Hp} {l : List D} {vs : List V} {d : D} (r : RepL K F l vs) (h : l.getLast? = some d) : ∃ v, vs[vs.length - 1]? = some v ∧ Rep K F d v := by
  rw [r.length]
  refine r.get ?_
  rw [← h, List.getLast?_eq_getElem?]
theorem repL_dropLast {K : PySem.W.Frag} {F : Hp} {l : List D} {vs : List V} (r : RepL K F l vs) : RepL K F l.dropLast vs.dropLast := by
  rw [List.dropLast_eq_take, List.dropLast_eq_take, r.length]
  exact r.take _
theorem ok_pop {K : PySem.W.Frag} : OkM K rPop gPop := by
  intro F H a o vs d ds k Q s hn ho cn rl hg hk
  unfold gPop at hg
  split at hg
  · obtain ⟨us, rfl, r⟩ := cn_lst cn
    obtain ⟨x, ex, q⟩ := oD_some hg
    obtain ⟨y, ey, ry⟩ := repL_last r ex
    unfold RepL at rl
    exact ⟨a, us, y, rfl, rl, ho, ey, hk x y (.lst us.dropLast) (.lst (_)) ry (repL_dropLast r) q⟩
  · exact hg.elim
theorem ok_popAt {K : PySem.W.Frag} : OkM K rPopAt gPopAt := by
  intro F H a o vs d ds k Q s hn ho cn rl hg hk
  unfold gPopAt at hg
  split at hg
  · obtain ⟨us, rfl, r⟩ := cn_lst cn
    obtain ⟨⟨z1, z2⟩, j, ej, hg⟩ := hg
    obtain ⟨x, ex, q⟩ := oD_some hg
    obtain ⟨y, ey, ry⟩ := r.get ex
    obtain ⟨i', rfl, ri⟩ := repL1 rl
    exact ⟨a, us, _, j, y, rfl, by rw [(rep_int (K := K) (F := F)).mp ri], ho, z1, z2, by rw [r.length]; exact ej, ey, hk x y (.lst (us.eraseIdx j)) (.lst (_)) ry (r.eraseIdx j) q⟩
  · exact hg.elim
theorem ok_extend {K : PySem.W.Frag} : OkMO K rExtend gExtend := by
  intro F H a o vs d ds k Q s hn ho cn rl hg hk
  unfold gExtend at hg
  split at hg
  · obtain ⟨us, rfl, r⟩ := cn_lst cn
    obtain ⟨y, rfl, ry⟩ := redL1 rl
    obtain ⟨b, zs, rfl, hb, rz⟩ := red_lst ry
    exact ⟨a, b, us, zs, rfl, rfl, ho, hb, by rw [r.length, rz.length]; exact hg.1, hk .non .non (.lst (us ++ zs)) (.lst (_)) (rep_non.mpr rfl) (r.append rz) hg.2⟩
  · exact hg.elim

/-! x[i] = v, d[k] = v, x and d owned -/
def gPut (c k v : D) (kk : D → Prop) : Prop := match c with
  | .lst l => match k with
    | .int i => ∃ j, ixN l.length i = some j ∧ kk (.lst (l.set j v))
    | _ => False
  | .dk l => match toK k with
    | some key => l.length < sizeLine ∧ kk (.dk (putD l key v))
    | none => False
  | .dt l => match k with
    | .tup t => match toKs t with
      | some key => l.length < sizeLine ∧ kk (.dt (putD l key v))
      | none => False
    | _ => False
  | _ => False
def rSetA : TSet := fun o i v H Q => rSetL o i v H Q ∨ rSetD o i v H Q
theorem set_A {X : Cx} (hu : X.A.units + 1 < cLine) : PSet X rSetA := by
  intro pins s σ H o i v ov iv u Q I ro ri rv h
  rcases h with h | h
  · exact set_list pins s σ H o i v ov iv u Q I ro ri rv h
  · exact set_dict hu pins s σ H o i v ov iv u Q I ro ri rv h
section
variable {Th : Type} {B : Bs Th} {W : WX} {X : Cx} {pos pv : Pos} {x : Str} {b : Expr} {wb : WO Th}
def wSub (i : Nat) (wk : WO Th) : WG Th := fun d e t Q => (rs e (.v i)).isSome = true ∧ wk e t (fun k e1 t1 => owD e1[i]? fun c => ob (rs e1 k) fun kd => gPut c kd d fun c' => Q (e1.set i (.ow c')) t1) noX
theorem SR.put {F H : Hp} {t : Th} {e : Ev} {σ : L2.St} (S : SR B F t e σ H) {i : Nat} {a : Addr} {c k d : D} {y v : V} {Q : Hp → Prop} {kk : D → Prop} (ec : e[i]? = some (.ow c)) (ha : σ[i]? = some (some (.ref a))) (rk : Red B.K F H k y) (rv : Rep B.K F d v) (h : gPut c k d kk)
    (hq : ∀ c' H', SR B F t (e.set i (.ow c')) σ H' → Stp B σ F t e H F t (e.set i (.ow c')) H' → kk c' → Q H') : rSetA (.ref a) y v H Q := by
  obtain ⟨a', e1, o, _⟩ := S.ow i c ec
  rw [ha] at e1
  cases e1
  obtain ⟨ob, eo, cn⟩ := o.cn
  unfold gPut at h
  split at h
  · split at h
    · obtain ⟨j, ej, q⟩ := h
      obtain ⟨us, rfl, r⟩ := cn_lst cn
      obtain ⟨S2, L2'⟩ := S.upd (o := .lst (us.set j v)) (d' := .lst (_)) ec ha o.1 (r.set rv j)
      exact .inl ⟨a, us, _, j, rfl, red_int rk, eo, by rw [r.length]; exact ej, hq _ _ S2 L2' q⟩
    · exact h.elim
  · rename_i l
    split at h
    · rename_i key hk
      obtain ⟨hl, q⟩ := h
      have hy : y = kV key := by
        cases k <;> cases hk
        · exact red_int rk
        · exact red_str rk
      cases ob <;> first | exact cn.elim | skip
      rename_i vs
      have r : RepK B.K F l vs := cn
      obtain ⟨S2, L2'⟩ := S.upd (o := .dK (putK vs key v)) (d' := .dk (putD l key d)) ec ha o.1 (repK_put r rv)
      exact .inr ⟨a, _, rfl, .inl ⟨vs, key, eo, hy, by rw [repK_len r]; exact hl, rfl⟩, hq _ _ S2 L2' q⟩
    · exact h.elim
  · rename_i l
    split at h
    · rename_i t'
      split at h
      · rename_i key hk
        obtain ⟨hl, q⟩ := h
        obtain ⟨b, us, rfl, h2, r2⟩ := red_tup rk
        have e2 := toKs_rep hk r2
        subst e2
        cases ob <;> first | exact cn.elim | skip
        rename_i vs
        have r : RepT B.K F l vs := cn
        obtain ⟨S2, L2'⟩ := S.upd (o := .dT (putK vs key v)) (d' := .dt (putD l key d)) ec ha o.1 (repT_put r rv)
        exact .inr ⟨a, _, rfl, .inr ⟨vs, key, b, eo, rfl, S.sub _ _ h2, by rw [repT_len r]; exact hl, rfl⟩, hq _ _ S2 L2' q⟩
      · exact h.elim
    · exact h.elim
  · exact h.elim
theorem dg_sub (i : Nat) (hu : X.A.units + 1 < cLine) (hb : PE X b (liftO B NX wb))
    (hN : X.N[i]? = some x := by rfl) (hv : Vis X.env.scope x := by first | exact Or.inl rfl | exact Or.inr (Or.inl rfl) | exact Or.inr (Or.inr rfl)) (hd : (x == ("__debug__" : Str)) = false := by decide) (hcd : (x == ("__classdict__" : Str)) = false := by decide)
    (hasg : ∀ v, assign (.Subscript (.Name x pv) b pos) X.env v = (do
      let ov ← holding [v] (eval (.Name x pv) X.env)
      let iv ← holding [v, ov] (eval b X.env)
      standAt pos
      holding [v, ov, iv] (setItem ov iv v)
      release [v, ov, iv] []) := by intro _; rfl) : PG X (.Subscript (.Name x pv) b pos) (liftG B (wSub i wb)) := weakG (pg_sub (pe_var hN hv hd hcd) hb (set_A hu) hasg) (by
  rintro v σ H Q ⟨F, t, e, d, Qd, S, r, ⟨hs, hw⟩, hq⟩
  obtain ⟨d0, hd0⟩ := Option.isSome_iff_exists.mp hs
  obtain ⟨u, e1, _⟩ := S.read hd0
  refine ⟨u, e1, F, t, e, _, noX, S, eok_no, hw, fun y H1 F1 t1 e2 ok S1 L1 r1 q1 => ?_⟩
  obtain ⟨c, ec, q1⟩ := owD_some q1
  obtain ⟨kd, ek, q1⟩ := ob_some q1
  obtain ⟨a, ha, _⟩ := S1.ow i c ec
  rw [e1] at ha
  cases ha
  exact S1.put ec e1 (r1.red S1 ek) (r.mono L1.le) q1 fun c' H' S' L' q => hq σ H' F1 t1 _ S' L1.le q)

/-! {} -/
def wDnK : WR Th := fun e t Q _ => Q (.ow (.dk [])) e t
def wDnT : WR Th := fun e t Q _ => Q (.ow (.dt [])) e t
theorem dr_dnK : PE X (.Dict [] [] pos) (liftR B W (wDnK (Th := Th))) := weakE pe_dnewK (by
  rintro σ H Q ⟨F, t, e, Qd, Ed, S, eo, hw, hq⟩ p hp
  exact hq _ _ F t e _ (S.loose hp) (.loose hp) (S.newDk hp (by unfold RepK; rfl)) (newR_none hp) hw)
theorem dr_dnT : PE X (.Dict [] [] pos) (liftR B W (wDnT (Th := Th))) := weakE pe_dnewT (by
  rintro σ H Q ⟨F, t, e, Qd, Ed, S, eo, hw, hq⟩ p hp
  exact hq _ _ F t e _ (S.loose hp) (.loose hp) (S.newDt hp (by unfold RepT; rfl)) (newR_none hp) hw)

/-! (*xs, y) -/
def seqD (d : D) (k : List D → Prop) : Prop := match d with
  | .lst l => k l
  | .tup l => k l
  | _ => False
def wStar (wo : WO Th) (ws : WA Th) : WA Th := fun e t Q E => wo e t (fun o e1 t1 => ob (rs e1 o) fun d => seqD d fun l => ws e1 t1 (fun m e2 t2 => Q (l ++ m) e2 t2) E) E
theorem da_star {es : List Expr} {ws : WA Th} {p : Pos} (hK : B.K = X.K) (ho : PE X b (liftO B W wb)) (hr : PA X es (liftA B W ws)) (hs : starEach (.Starred b p :: es) X.env = (true, eval b X.env) :: starEach es X.env := by rfl) : PA X (.Starred b p :: es) (liftA B W (wStar wb ws)) :=
  weakA (StX.pa_star ho hr hs) (by
  rintro σ H Q ⟨F, t, e, Qd, Ed, S, eo, hw, hq⟩
  refine ⟨F, t, e, _, Ed, S, eo, hw, fun x H1 F1 t1 e1 oa S1 L1 r1 q1 => ?_⟩
  obtain ⟨d, ed, q1⟩ := ob_some q1
  have rd := r1.red S1 ed
  have fin : ∀ (l : List D) (xs : List V), RepL B.K F1 l xs → ws e1 t1 (fun m e2 t2 => Qd (l ++ m) e2 t2) Ed → liftA B W ws σ H1 fun ys H2 => Q (xs ++ ys) H2 := fun l xs rl q =>
    ⟨F1, t1, e1, _, Ed, S1, eo, q, fun ys H2 F2 t2 e2 m S2 L2' r2 q2 => hq _ H2 F2 t2 e2 _ S2 (L1.trans L2') ((rl.mono L2'.le).append r2) q2⟩
  cases d with
  | lst l =>
    obtain ⟨q, xs, rfl, hx, rl⟩ := red_lst rd
    exact ⟨q, xs, rfl, .inr (by rw [← hK]; exact SqL.of hx), fin l xs rl q1⟩
  | tup l =>
    obtain ⟨q, xs, rfl, hx, rl⟩ := red_tup rd
    exact ⟨q, xs, rfl, .inl (by rw [← hK]; exact SqT.of (S1.sub _ _ hx)), fin l xs rl q1⟩
  | _ => exact q1.elim)
end
end VL

set_option Elab.async false
set_option linter.all false
set_option maxRecDepth 100000
set_option maxHeartbeats 1000000
namespace VL
open PySem PySem.Spec PyProof.Rows L2

/-! fields -/
def putFd (f : Str) (d : D) : List (Str × D) → List (Str × D)
  | [] => [(f, d)]
  | (g, x) :: r => if g = f then (g, d) :: r else (g, x) :: putFd f d r
theorem putF_def (f : Str) (y : V) : ∀ fs : List (Str × V), putF f y fs = match fs with | [] => [(f, y)] | (g, x) :: r => if g = f then (g, y) :: r else (g, x) :: putF f y r
  | [] => by first | rfl | simp [putF]
  | (g, x) :: r => by first | rfl | simp [putF]
theorem repF_put {K : PySem.W.Frag} {F : Hp} {f : Str} {d : D} {y : V} (h : Rep K F d y) : ∀ {fs : List (Str × D)} {gs : List (Str × V)}, RepF K F fs gs → RepF K F (putFd f d fs) (putF f y gs)
  | [], gs, r => by
    unfold RepF at r
    subst r
    rw [putF_def]
    unfold putFd RepF RepF
    exact ⟨y, [], rfl, h, rfl⟩
  | (g, x) :: fs, gs, r => by
    unfold RepF at r
    obtain ⟨v, rr, rfl, h1, h2⟩ := r
    rw [putF_def]
    unfold putFd
    by_cases e : g = f
    · simp only [e, if_true]
      unfold RepF
      exact ⟨y, rr, rfl, h, h2⟩
    · simp only [e, if_false]
      unfold RepF
      exact ⟨v, _, rfl, h1, repF_put h h2⟩
theorem repF_len {K : PySem.W.Frag} {F : Hp} : ∀ {fs : List (Str × D)} {gs : List (Str × V)}, RepF K F fs gs → gs.length = fs.length
  | [], gs, r => by unfold RepF at r; subst r; rfl
  | (g, x) :: fs, gs, r => by
    unfold RepF at r
    obtain ⟨v, rr, rfl, h1, h2⟩ := r
    simp [repF_len h2]
section
variable {Th : Type} {B : Bs Th} {W : WX} {X : Cx} {pos pv pf : Pos} {a o : Expr} {wo : WO Th} {we : WE Th} {f x : Str}
/-- o.f -/
def wFldO (C : Addr) (f : Str) (wo : WO Th) : WE Th := fun e t Q E => wo e t (fun oo e1 t1 => ob (rs e1 oo) fun d => match d with | .ins C' fs => C' = C ∧ ob (fs.lookup f) fun d' => Q d' e1 t1 | _ => False) E
theorem de_fldO {C : Addr} (hc : Cls X.K C) (hn : NoAttr X.K C f) (he : PE X o (liftO B W wo)) (hb : attributeBase o f X.env (eval o X.env) = eval o X.env := by rfl) : PE X (.Attribute o f pos) (liftE B W (wFldO C f wo)) := weakE (pe_fld he hb) (by
  rintro σ H Q ⟨F, t, e, Qd, Ed, S, eo, hw, hq⟩
  refine ⟨F, t, e, _, Ed, S, eo, hw, fun x H1 F1 t1 e1 oo S1 L1 r1 q1 => ?_⟩
  obtain ⟨d, ed, q1⟩ := ob_some q1
  have rd := r1.red S1 ed
  cases d with
  | ins C' fs =>
    obtain ⟨rfl, q5⟩ := q1
    obtain ⟨d', e', q'⟩ := ob_some q5
    obtain ⟨b, dx, gs, rfl, hb, rf⟩ := rd
    obtain ⟨v, ev, rv⟩ := (repF_lookup rf).2 d' e'
    exact ⟨b, C', dx, gs, v, rfl, hb, hc, hn, ev, hq v H1 F1 t1 e1 d' S1 L1 rv q'⟩
  | _ => exact q1.elim)
end

/-! making an instance -/
/-- what an __init__ promises: the fields behind it -/
abbrev CtI (Th : Type) := List D → Th → (D → Th → Prop) → (Xn → Th → Prop) → Prop
abbrev CpI := List D → (D → Prop) → (Xn → Prop) → Prop
def spI {Th : Type} (K : PySem.W.Frag) (M : Wd Th) (C : Addr) (c : CtI Th) : Sp := fun ws H Q E => ∃ (F : Hp) (t : Th) (ds : List D) (vs : List V) (x dx : Addr) (H1 : Hp) (Qc : D → Th → Prop) (Ec : Xn → Th → Prop), ws = .ref x :: vs ∧ H1 x = none ∧ H1 dx = none ∧ dx ≠ x ∧ H = upd (upd H1 dx (.own x)) x (.ins C dx []) ∧
  L2.Same F H1 ∧ M.J t F H1 ∧ (∀ a ∈ M.fp t, F a = none ∧ ∃ o, H1 a = some o ∧ NT o) ∧ RepL K F ds vs ∧ c ds t Qc Ec ∧
  (∀ H' F' t' d, After M F t H1 F' t' H' → RetA K M F' t' H1 H' (.ow d) (.ref x) → Qc d t' → Q .non H') ∧
  (∀ cls d H' F' t' y, After M F t H1 F' t' H' → RepX K F' y cls d → Ec y t' → E cls d H')
def liftCI {Th : Type} (c : CpI) : CtI Th := fun ds t Q E => c ds (fun d => Q d t) fun x => E x t
def spPI (K : PySem.W.Frag) (C : Addr) (c : CpI) : Sp := spI K M0 C (liftCI c)
theorem spPI_of {Th : Type} {K : PySem.W.Frag} {M : Wd Th} {C : Addr} {c : CpI} {vs : List V} {H : Hp} {Q : VK} {E : XK} (h : spI K M C (liftCI c) vs H Q E) : spPI K C c vs H Q E := by
  obtain ⟨F, t, ds, us, x, dx, H1, Qc, Ec, e1, e2, e3, e4, e5, s, j, hf, r, hc, hq, he⟩ := h
  refine ⟨F, (), ds, us, x, dx, H1, fun d _ => Qc d t, fun y _ => Ec y t, e1, e2, e3, e4, e5, s, trivial, fun a ha => absurd ha (by simp [M0]), r, hc, fun H' F' _ d a ra q => ?_, fun cls d H' F' _ y a ra q => ?_⟩
  · refine hq H' F' t d (a.pure j hf) ?_ q
    obtain ⟨b, e1, o, h0, _⟩ := ra
    refine ⟨b, e1, o, h0, fun hm => ?_⟩
    obtain ⟨_, ob, eb, _⟩ := hf b hm
    rw [h0] at eb; cases eb
  · exact he cls d H' F' t y (a.pure j hf) ra q
section
variable {Th : Type} {B : Bs Th} {W : WX} {X : Cx} {k : Nat} {f C : Addr} {fd : FuncData} {ps : List Str} {c : CtI Th} {c0 : CpI} {x : Str} {p pos : Pos} {a : Expr} {es : List Expr} {ws : WA Th}
theorem run_makeSD {pins : List (Addr × Obj)} {σ : L2.St} {H : Hp} {s : Shared} {Q : VK} {us : List Value} {vs : List V} {sp : Sp} {E : L2.St → XK} (M : L2.Mk X.K C f) (G : FnOk X.prog X.w X.K X.mg X.base (L2.CX X.prog X.w) k f fd ps sp) (hr : Room (k + 1) X.A) (hb : Binds X.K fd ps []) (hx : PassesAt (L2.CX X.prog X.w) X σ (E σ)) (I : Inv X pins σ H s) (r : Vals vs us)
    (h : ∀ x dx, H x = none → H dx = none → dx ≠ x → sp (.ref x :: vs) (upd (upd H dx (.own x)) x (.ins C dx [])) (fun v H2 => v = .non ∧ Q (.ref x) H2) (E σ)) : wpAny (model X.prog X.w) X.A (call (.ref C) us) (EP X pins σ Q) X.xe s := by
  have hq := h (s.heap.objs.size + 1) s.heap.objs.size (I.hok.fresh (Nat.le_succ _)) (I.hok.fresh (Nat.le_refl _)) (Nat.ne_of_lt (Nat.lt_succ_self _))
  have I2 := Inv.made (C := C) I
  have r2 : Vals (V.ref (s.heap.objs.size + 1) :: vs) (Value.ref (s.heap.objs.size + 1) :: us) := .cons rfl r
  have hl : (Value.ref (s.heap.objs.size + 1) :: us).length = ps.length := by
    rw [← G.len _ _ _ _ hq]
    exact r2.length.symm
  have bt := hb _ (Value.ref (s.heap.objs.size + 1) :: us) I2.kIn (by rw [List.append_nil]; exact hl)
  rw [List.append_nil] at bt
  refine wpAny_call (make_map (f := f) I.kIn M.makes M.init (beq_iff_eq.mp M.fn) (codeAny_mono (G.run _ X.stack _ _ ⟨Value.ref (s.heap.objs.size + 1) :: us, []⟩ _ _ _ (E σ) (hr.make C us []) (I2.env0.make C us []) bt r2 hq) fun r s' hq' => ?_))
  cases r with
  | error e => exact hx pins _ _ e s' I2 hq'
  | ok fl =>
    cases fl with
    | ret u =>
      obtain ⟨v, H', I3, rv, ev, q3⟩ := I2.after hq'
      subst ev
      exact ⟨rv, ⟨V.ref (s.heap.objs.size + 1), H', I3, rfl, q3⟩⟩
    | next => exact False.elim hq'
    | brk => exact False.elim hq'
    | cont => exact False.elim hq'
def tMakeS (C : Addr) (sp : Sp) (E : L2.St → XK) (t : TA) : TE := fun σ H Q => t σ H fun vs H1 => ∀ x dx, H1 x = none → H1 dx = none → dx ≠ x → sp (.ref x :: vs) (upd (upd H1 dx (.own x)) x (.ins C dx [])) (fun v H2 => v = .non ∧ Q (.ref x) H2) (E σ)
theorem pe_makeSD {sp : Sp} {E : L2.St → XK} {t : TA} (M : L2.Mk X.K C f) (G : FnOk X.prog X.w X.K X.mg X.base (L2.CX X.prog X.w) k f fd ps sp) (hr : Room (k + 1) X.A) (hm : X.mg x = some (.ref C)) (hb : Binds X.K fd ps []) (hx : ∀ σ, PassesAt (L2.CX X.prog X.w) X σ (E σ)) (ha : PA X (a :: es) t) (hg : Gl X x) (hdb : (x == ("__debug__" : Str)) = false)
    (he : starEach (a :: es) X.env = (false, eval a X.env) :: starEach es X.env) (hpl : (backTo pos (starEach es X.env)).any (·.1) = false) : PE X (.Call (.Name x p) (a :: es) [] pos) (tMakeS C sp E t) := by
  refine ⟨fun pins s σ H Q I h => ?_⟩
  refine wpAny_Call_Name_kw (ld_glob I hg hm ?_ hdb)
  exact PySem.W.callWith_K (h₀ := X.base) I.ok.mod.kin M.kp (thn (ha.run pos pins s σ H _ I h) fun us s1 ⟨vs, H1, I1, r, q⟩ => ⟨I1.kIn, run_makeSD M G hr hb (hx σ) I1 r q⟩) he hpl
def wMake (c : CtI Th) (ws : WA Th) : WR Th := fun e t Q E => ws e t (fun ds e1 t1 => c ds t1 (fun d t2 => Q (.ow d) e1 t2) fun x t2 => E x e1 t2) E
theorem dr_make (M : L2.Mk X.K C f) (G : FnOk X.prog X.w X.K X.mg X.base (L2.CX X.prog X.w) k f fd ps (spI B.K B.M C c)) (hr : Room (k + 1) X.A) (hm : X.mg x = some (.ref C)) (hb : Binds X.K fd ps []) (tk : Takes X W) (ha : PA X (a :: es) (liftA B W ws))
    (hg : Gl X x := by rfl) (hdb : (x == ("__debug__" : Str)) = false := by decide) (he : starEach (a :: es) X.env = (false, eval a X.env) :: starEach es X.env := by rfl) (hpl : (backTo pos (starEach es X.env)).any (·.1) = false := by rfl) :
    PE X (.Call (.Name x p) (a :: es) [] pos) (liftR B W (wMake c ws)) := weakE (pe_makeSD (E := L2.WE W) M G hr hm hb (fun σ => passAt tk σ) ha hg hdb he hpl) (by
  rintro σ H Q ⟨F, t, e, Qd, Ed, S, eo, hw, hq⟩
  refine ⟨F, t, e, _, Ed, S, eo, hw, fun vs H1 F1 t1 e1 ds S1 L1 r1 q1 => ?_⟩
  intro x dx hx hdx hne
  refine ⟨F1, t1, ds, vs, x, dx, H1, _, _, rfl, hx, hdx, hne, rfl, S1.sub, S1.af.j, S1.fps, r1, q1, fun H' F' t' d af ra q => ⟨rfl, ?_⟩, fun cls d H' F' t' y af ra q => eo y F' t' e1 H' cls d (S1.after af) ra q⟩
  obtain ⟨rr, nr⟩ := ra.rep S1 af
  exact hq _ H' F' t' e1 _ (S1.after af) (L1.trans (.after af)) rr (nr.from L1) q)
theorem dr_makeP (M : L2.Mk X.K C f) (G : FnOk X.prog X.w X.K X.mg X.base (L2.CX X.prog X.w) k f fd ps (spPI B.K C c0)) (hr : Room (k + 1) X.A) (hm : X.mg x = some (.ref C)) (hb : Binds X.K fd ps []) (tk : Takes X W) (ha : PA X (a :: es) (liftA B W ws))
    (hg : Gl X x := by rfl) (hdb : (x == ("__debug__" : Str)) = false := by decide) (he : starEach (a :: es) X.env = (false, eval a X.env) :: starEach es X.env := by rfl) (hpl : (backTo pos (starEach es X.env)).any (·.1) = false := by rfl) :
    PE X (.Call (.Name x p) (a :: es) [] pos) (liftR B W (wMake (liftCI c0) ws)) := dr_make M (G.imp fun _ _ _ _ h => spPI_of h) hr hm hb tk ha hg hdb he hpl
end

/-! the world changes at one of its objects -/
section
variable {Th : Type} {B : Bs Th} {F H : Hp} {t t' : Th} {e : Ev} {σ : L2.St} {x : Addr} {o : HO}
theorem SR.wrld (S : SR B F t e σ H) (hx : x ∈ B.M.fp t) (ho : NT o) (hf : ∀ a ∈ B.M.fp t', a ∈ B.M.fp t) (j : B.M.J t' F (L2.upd H x o)) : SR B F t' e σ (L2.upd H x o) := by
  obtain ⟨fx, ⟨o0, ho0, nt0⟩, ox⟩ := S.af.fpn x hx
  refine ⟨⟨S.af.le, fun b u q => ?_, S.af.new, fun a u ha q => ?_, fun a u q => ?_, fun a ha => ?_, j⟩, S.len, S.sh, fun i d h => ?_, S.sep⟩
  · rw [upd_ne fun z : b = x => by rw [z, fx] at q; cases q]
    exact S.sub b u q
  · have hax : a ≠ x := fun z => by
      subst z
      rcases ox with z | z
      · exact ha z
      · rw [z] at q; cases q
    rw [upd_ne hax]
    exact S.af.same a u ha q
  · by_cases hax : a = x
    · subst hax
      exact ⟨o, upd_same, fun _ => ho⟩
    · rw [upd_ne hax]
      exact S.af.there a u q
  · obtain ⟨z1, ⟨u, z2, z3⟩, z4⟩ := S.af.fpn a (hf a ha)
    refine ⟨z1, ?_, z4⟩
    by_cases hax : a = x
    · subst hax
      exact ⟨o, upd_same, ho⟩
    · exact ⟨u, by rw [upd_ne hax]; exact z2, z3⟩
  · obtain ⟨a, e1, ow, n, hb⟩ := S.ow i d h
    have hax : a ≠ x := fun z => hb (z ▸ hx)
    exact ⟨a, e1, ow.mono (.refl F) (upd_ne hax) ow.1, n, fun z => hb (hf a z)⟩
theorem Stp.wrld (hx : x ∈ B.M.fp t) (hf : ∀ a ∈ B.M.fp t', a ∈ B.M.fp t) : Stp B σ F t e H F t' e (upd H x o) :=
  ⟨.refl F, fun a u h => by
    by_cases hax : a = x
    · subst hax; exact ⟨o, upd_same⟩
    · exact ⟨u, by rw [upd_ne hax]; exact h⟩, fun _ h => h, fun a u h1 _ h2 h3 _ => ⟨by rw [upd_ne fun z : a = x => h3 (by rw [z]; exact hx)]; exact h1, h2, fun z => h3 (hf a z)⟩⟩
end

/-! a world with one more object, an instance that is being made -/
abbrev Fs := List (Str × D)
def MS {Th : Type} (K : PySem.W.Frag) (M : Wd Th) (C x : Addr) : Wd (Th × Fs) where
  fp p := x :: M.fp p.1
  J p F H := M.J p.1 F H ∧ (∃ dx gs, H x = some (.ins C dx gs) ∧ RepF K F p.2 gs) ∧ x ∉ M.fp p.1
  stab {p F F' H H'} h s q := by
    obtain ⟨j, ⟨dx, gs, e, r⟩, n⟩ := h
    exact ⟨M.stab j s fun z hz => q z (List.mem_cons_of_mem _ hz), ⟨dx, gs, by rw [q x List.mem_cons_self]; exact e, r.mono s⟩, n⟩
section
variable {Th : Type} {K : PySem.W.Frag} {M : Wd Th} {H0 F0 : Hp} {t0 : Th × Fs} {W : WX} {X : Cx} {pos pv pf : Pos} {a : Expr} {we : WE (Th × Fs)} {f x : Str} {C p : Addr}
/-- self.f = e -/
def wSetS (i : Nat) (p : Addr) (f : Str) (we : WE (Th × Fs)) : WS (Th × Fs) := fun n e t => we e t (fun d e1 t1 => (e1[i]? = some (.sh (.han p)) ∧ t1.2.length < 1000) ∧ n.nx e1 (t1.1, putFd f d t1.2)) n.ex
theorem ds_setS (i : Nat) (hc : Cls X.K C) (hn : NoAttr X.K C f) (he : PE X a (liftE ⟨K, MS K M C p, H0, F0, t0⟩ W we)) (hs : swapsWith a (some (.Attribute (.Name x pv) f pf)) pos.line X.env = pure false := by rfl)
    (hN : X.N[i]? = some x := by rfl) (hv : Vis X.env.scope x := by first | exact Or.inl rfl | exact Or.inr (Or.inl rfl) | exact Or.inr (Or.inr rfl)) (hd : (x == ("__debug__" : Str)) = false := by decide) (hcd : (x == ("__classdict__" : Str)) = false := by decide) :
    PS X (.Assign [.Attribute (.Name x pv) f pf] a pos) (liftS ⟨K, MS K M C p, H0, F0, t0⟩ W (wSetS i p f we)) := weakS (ps_fld (pe_var hN hv hd hcd) he hs) (by
  rintro n σ H ⟨F, t, e, m, S, eo, hw, h1, h2, h3, h4⟩
  refine ⟨F, t, e, _, m.ex, S, eo σ, hw, fun v H1 F1 t1 e1 d S1 L1 r1 q1 => ?_⟩
  obtain ⟨⟨ei, hl⟩, q2⟩ := q1
  obtain ⟨u, eu, ru⟩ := S1.sh i _ ei
  unfold Rep at ru
  subst ru
  obtain ⟨j, ⟨dx, gs, hp, rf⟩, np⟩ := S1.af.j
  have hm : p ∈ (MS K M C p).fp t1 := List.mem_cons_self
  have nt : NT (.ins C dx (putF f v gs)) := fun _ z => by cases z
  have j2 : (MS K M C p).J (t1.1, putFd f d t1.2) F1 (upd H1 p (.ins C dx (putF f v gs))) := ⟨M.stab j (.refl F1) fun z hz => upd_ne fun q => np (q ▸ hz), ⟨dx, _, upd_same, repF_put r1 rf⟩, np⟩
  exact ⟨.ref p, eu, p, C, dx, gs, rfl, hp, hc, hn, by rw [repF_len rf]; exact hl, h1 σ _ F1 _ e1 (S1.wrld (t' := (t1.1, putFd f d t1.2)) hm nt (fun _ z => z) j2) L1.le q2⟩)
/-- self.f -/
def wFldS (i : Nat) (p : Addr) (f : Str) : WE (Th × Fs) := fun e t Q _ => e[i]? = some (.sh (.han p)) ∧ ob (t.2.lookup f) fun d => Q d e t
theorem de_fldS (i : Nat) (hc : Cls X.K C) (hn : NoAttr X.K C f) (hb : attributeBase (.Name x pv) f X.env (eval (.Name x pv) X.env) = eval (.Name x pv) X.env := by rfl)
    (hN : X.N[i]? = some x := by rfl) (hv : Vis X.env.scope x := by first | exact Or.inl rfl | exact Or.inr (Or.inl rfl) | exact Or.inr (Or.inr rfl)) (hd : (x == ("__debug__" : Str)) = false := by decide) (hcd : (x == ("__classdict__" : Str)) = false := by decide) :
    PE X (.Attribute (.Name x pv) f pos) (liftE ⟨K, MS K M C p, H0, F0, t0⟩ W (wFldS i p f)) := weakE (pe_fld (pe_var hN hv hd hcd) hb) (by
  rintro σ H Q ⟨F, t, e, Qd, Ed, S, eo, ⟨ei, hw⟩, hq⟩
  obtain ⟨d, ed, q⟩ := ob_some hw
  obtain ⟨u, eu, ru⟩ := S.sh i _ ei
  unfold Rep at ru
  subst ru
  obtain ⟨j, ⟨dx, gs, hp, rf⟩, np⟩ := S.af.j
  obtain ⟨v, ev, rv⟩ := (repF_lookup rf).2 d ed
  exact ⟨.ref p, eu, p, C, dx, gs, v, rfl, hp, hc, hn, ev, hq v H F t e d S .refl rv q⟩)
end

/-! an __init__ by its body -/
def bodyI {Th : Type} (C : Addr) (N : List Str) (n : Nat) (w : Addr → WS (Th × Fs)) : CtI Th := fun ds t Q E => ds.length + 1 = n ∧ ∀ p, w p { nx := fun _ t' => Q (.ins C t'.2) t'.1, rt := fun _ _ => False, bk := fun _ _ => False, ct := fun _ _ => False, ex := fun x _ t' => E x t'.1 } (startE N (.han p :: ds)) (t, [])
section
variable {P : Program} {w : World} {K : PySem.W.Frag} {mg : Str → Option Value} {base : Heap}
theorem After.out {Th : Type} {M : Wd Th} {C x dx : Addr} {F H1 F' H' : Hp} {t : Th} {p : Th × Fs} (hx : H1 x = none) (hdx : H1 dx = none) (hne : dx ≠ x) (j : M.J t F H1) (hf : ∀ a ∈ M.fp t, F a = none ∧ ∃ o, H1 a = some o ∧ NT o)
    (a : After (MS K M C x) F (t, []) (upd (upd H1 dx (.own x)) x (.ins C dx [])) F' p H') : After M F t H1 F' p.1 H' ∧ RetA K M F' p.1 H1 H' (.ow (.ins C p.2)) (.ref x) := by
  have up : ∀ {b : Addr} {o : HO}, H1 b = some o → (upd (upd H1 dx (.own x)) x (.ins C dx [])) b = some o := fun {b o} q => by
    rw [upd_ne (ne_of_none q hx), upd_ne (ne_of_none q hdx)]; exact q
  obtain ⟨j', ⟨dx', gs, hp, rf⟩, np⟩ := a.j
  obtain ⟨fx, _, _⟩ := a.fpn x List.mem_cons_self
  refine ⟨⟨a.le, a.sub, fun b o q nt n => a.new b o (up q) nt n, fun b o hb q => a.same b o (fun hm => ?_) (up q), fun b o q => a.there b o (up q), fun b hb => ?_, j'⟩, x, rfl, ⟨fx, (dx', gs), hp, rf⟩, hx, np⟩
  · rcases List.mem_cons.mp hm with z | z
    · subst z; rw [hx] at q; cases q
    · exact hb z
  · obtain ⟨z1, z2, z3⟩ := a.fpn b (List.mem_cons_of_mem _ hb)
    refine ⟨z1, z2, ?_⟩
    rcases z3 with z | z
    · rcases List.mem_cons.mp z with y | y
      · subst y; exact absurd hb np
      · exact .inl y
    · right
      cases q : H1 b with
      | none => rfl
      | some o => rw [up q] at z; cases z
theorem okIn {Th : Type} {M : Wd Th} {C : Addr} {x qual : Str} {st : Stmt} {f : Addr} {fd : FuncData} {N ps : List Str} {k : Nat} {wb : Addr → WS (Th × Fs)} (G : Fun K x qual st f fd) (S : FnScope N ps (defScope st))
    (hbody : ∀ (p : Addr) (cdv : Value) (A : Around) (outer : List Env) (s : Shared) (H F : Hp) (t : Th × Fs) (E : XK), Room k (A.deeper (envOfC qual (defScope st) s.heap.objs.size f cdv)) →
      PSs (cxOf (L2.CX P w) P w K mg base N qual (defScope st) f cdv A outer s H E) (defBody st) (liftS ⟨K, MS K M C p, H, F, t⟩ (fun cls d _ H' => E cls d H') (wb p))) :
    FnOk P w K mg base (L2.CX P w) (k + 1) f fd ps (spI K M C (bodyI C N ps.length wb)) := by
  refine G.okX S (fun vs H Q E h => ?_) fun cdv A outer s H vs Q E hr h => ?_
  · obtain ⟨F, t, ds, us, x, dx, H1, Qc, Ec, rfl, _, _, _, _, _, _, _, r, hc, _⟩ := h
    rw [List.length_cons, r.length]
    exact hc.1
  · obtain ⟨F, t, ds, us, x, dx, H1, Qc, Ec, rfl, hx, hdx, hne, rfl, ss, j, hf, r, hc, hq, he⟩ := h
    have fx : F x = none := ss.free hx
    have nf : x ∉ M.fp t := fun hm => by
      obtain ⟨_, o, eo, _⟩ := hf x hm
      rw [hx] at eo; cases eo
    have up : ∀ {b : Addr} {o : HO}, H1 b = some o → (upd (upd H1 dx (.own x)) x (.ins C dx [])) b = some o := fun {b o} q => by
      rw [upd_ne (ne_of_none q hx), upd_ne (ne_of_none q hdx)]; exact q
    have ss2 : L2.Same F (upd (upd H1 dx (.own x)) x (.ins C dx [])) := fun b o q => up (ss b o q)
    have j2 : (MS K M C x).J (t, []) F (upd (upd H1 dx (.own x)) x (.ins C dx [])) := ⟨M.stab j (.refl F) fun z hz => by
      obtain ⟨_, o, eo, _⟩ := hf z hz
      rw [up eo, eo], ⟨dx, [], upd_same, by unfold RepF; rfl⟩, nf⟩
    have hf2 : ∀ a ∈ (MS K M C x).fp (t, []), F a = none ∧ ∃ o, (upd (upd H1 dx (.own x)) x (.ins C dx [])) a = some o ∧ NT o := fun a ha => by
      rcases List.mem_cons.mp ha with z | z
      · subst z; exact ⟨fx, _, upd_same, fun _ z => by cases z⟩
      · obtain ⟨z1, o, eo, nt⟩ := hf a z
        exact ⟨z1, o, up eo, nt⟩
    have rr : RepL K F (.han x :: ds) (.ref x :: us) := .cons (by unfold Rep; rfl) r
    refine ⟨_, hbody x cdv A outer s _ F (t, []) E hr, F, (t, []), _, _, start_sr ss2 j2 hf2 rr, fun σ' y F' t' e' H' cls d S' rx q => ?_, hc.2 x, fun σ' H' F' t' e' S' L' q => ?_, fun v H' F' t' r A L' ra q => q.elim, fun _ _ _ _ _ _ _ q => q.elim, fun _ _ _ _ _ _ _ q => q.elim⟩
    · obtain ⟨A1, _⟩ := After.out (K := K) hx hdx hne j hf S'.af
      exact he cls d H' F' t'.1 y A1 rx q
    · obtain ⟨A1, R1⟩ := After.out (K := K) hx hdx hne j hf S'.af
      exact hq H' F' t'.1 _ A1 R1 q
theorem imI {Th : Type} {M : Wd Th} {C : Addr} {c c' : CtI Th} (h : ∀ ds t Q E, c' ds t Q E → c ds t Q E) {vs : List V} {H : Hp} {Q : VK} {E : XK} (q : spI K M C c' vs H Q E) : spI K M C c vs H Q E := by
  obtain ⟨F, t, ds, us, x, dx, H1, Qc, Ec, a1, a2, a3, a4, a5, s, j, hf, r, hc, z⟩ := q
  exact ⟨F, t, ds, us, x, dx, H1, Qc, Ec, a1, a2, a3, a4, a5, s, j, hf, r, h _ _ _ _ hc, z⟩
/-- for an __init__ of a pure class -/
theorem okPI {C : Addr} {x qual : Str} {st : Stmt} {f : Addr} {fd : FuncData} {N ps : List Str} {k : Nat} {wb : Addr → WS (Unit × Fs)} {c : CpI} (G : Fun K x qual st f fd) (S : FnScope N ps (defScope st))
    (hbody : ∀ (p : Addr) (cdv : Value) (A : Around) (outer : List Env) (s : Shared) (H F : Hp) (t : Unit × Fs) (E : XK), Room k (A.deeper (envOfC qual (defScope st) s.heap.objs.size f cdv)) →
      PSs (cxOf (L2.CX P w) P w K mg base N qual (defScope st) f cdv A outer s H E) (defBody st) (liftS ⟨K, MS K M0 C p, H, F, t⟩ (fun cls d _ H' => E cls d H') (wb p)))
    (hc : ∀ ds (Q : D → Prop) (E : Xn → Prop), c ds Q E → bodyI C N ps.length wb ds () (fun d _ => Q d) fun x _ => E x) : FnOk P w K mg base (L2.CX P w) (k + 1) f fd ps (spPI K C c) :=
  (okIn (M := M0) G S hbody).imp fun vs H Q E h => imI (c' := liftCI c) (fun ds t Q E h => hc ds (fun d => Q d ()) (fun x => E x ()) h) h
end
end VL

set_option Elab.async false
set_option linter.all false
set_option maxRecDepth 100000
set_option maxHeartbeats 1000000
namespace VL
open PySem PySem.Spec PyProof.Rows L2

/-! a dict with tuple keys, displayed -/
def mergeT (kvs more : List (List Key × V)) : List (List Key × V) := more.foldl (fun acc kv => putK acc kv.1 kv.2) kvs
def mergeD {κ : Type} [DecidableEq κ] (more : List (κ × D)) : List (κ × D) := more.foldl (fun acc kv => putD acc kv.1 kv.2) []
/-- the pairs are tuples of keys and values -/
def TPs (H : Hp) : List (V × V) → List (List Key × V) → Prop := Paired fun p q => ∃ b, p.1 = .ref b ∧ H b = some (.tup (q.1.map kV)) ∧ p.2 = q.2
def tDispT (trs : List (TE × TE)) : TE := fun σ H Q => ∀ p, H p = none → tPairs trs σ (upd H p (.dT [])) fun ps H2 => H2 p = some (.dT []) ∧ ∃ kvs : List (List Key × V), TPs H2 ps kvs ∧ kvs.length ≤ 15 ∧ Q (.ref p) (upd H2 p (.dT (mergeT [] kvs)))
section
variable {X : Cx} {pins : List (Addr × Obj)} {σ : L2.St} {H : Hp} {s : Shared} {a b : Addr} {A : Around} {E : Value → Shared → Prop}
theorem d_setT {kvs : List (List Key × V)} {k : List Key} {v : V} {r : Value} {Q : Unit → Shared → Prop} (hu : A.units < cLine) (I : Inv X pins σ H s) (e : H a = some (.dT kvs)) (eb : H b = some (.tup (k.map kV))) (l : kvs.length < sizeLine) (rv : RelV v r) (h : ∀ s', Inv X pins σ (upd H a (.dT (putK kvs k v))) s' → Q () s') :
    wpAny (model X.prog X.w) A (dictSet a (.ref b) r) Q E s := by
  obtain ⟨z, hd, xs, rel, dd⟩ := dt_of I.hok e
  have hz : xs.length ≤ sizeLine := by rw [← Paired.length rel]; exact z
  have hl : (putK kvs k v).length ≤ sizeLine := by
    have := length_putK kvs k v
    omega
  refine wpAny_dictSet_heap (hsz := hz) (knd := tupleKind (mixKind X.prog X.w)) (show (tupleKind (mixKind X.prog X.w)).room A from hu) (key_of I.hok eb) dd fun h' dd' hs => h _ ?_
  obtain ⟨q, es, ep, hq, h2, h3, h4, _, h5⟩ := dd'
  refine d_write I (by rw [e]; exact True.intro) hs ⟨q, hq⟩ ⟨hl, hd, _, (rel.put k eb rv).keeps fun c ys ec => ?_, q, es, ep, hq, h2, h3, h4, h5⟩
  rw [upd_ne (ne_of ec e fun z => nomatch z)]
  exact ec
theorem storeT : ∀ (vs : List (Value × Value)) (ps : List (V × V)) (kvs acc : List (List Key × V)) (H : Hp) (s : Shared) (Q : PUnit → Shared → Prop), A.units < cLine → Inv X pins σ H s → H a = some (.dT acc) → VV ps vs → TPs H ps kvs → acc.length + kvs.length ≤ sizeLine →
    (∀ s', Inv X pins σ (upd H a (.dT (mergeT acc kvs))) s' → Q PUnit.unit s') → wpAny (model X.prog X.w) A (forIn vs PUnit.unit fun (x : Value × Value) (_ : PUnit) => (do dictSet a x.1 x.2; pure (ForInStep.yield PUnit.unit) : Sem (ForInStep PUnit))) Q E s
  | [], ps, kvs, acc, H, s, Q, _, I, e, rv, rp, _, hQ => by
    cases rv
    cases rp
    rw [List.forIn_nil]
    refine wpAny_pure (hQ s ?_)
    have : upd H a (.dT (mergeT acc [])) = H := by
      funext c
      by_cases hc : c = a
      · subst hc; rw [upd_same, e]; rfl
      · rw [upd_ne hc]
    rw [this]
    exact I
  | _ :: _, [], _, _, _, _, _, _, _, _, rv, _, _, _ => nomatch rv
  | _ :: _, _ :: _, [], _, _, _, _, _, _, _, _, rp, _, _ => nomatch rp
  | (u1, u2) :: vs, (p11, p12) :: ps', q :: kvs', acc, H, s, Q, hu, I, e, rv, rp, hz, hQ => by
    cases rv with
    | cons r1 r2 =>
      cases rp with
      | cons p1 p2 =>
        obtain ⟨b, eb, hb, ev⟩ := p1
        simp only at eb ev r1
        subst eb ev
        obtain ⟨ra, rb⟩ := r1
        obtain rfl : u1 = Value.ref b := ra
        rw [List.length_cons] at hz
        rw [List.forIn_cons]
        refine wpAny_bind (wpAny_bind (d_setT hu I e hb (by omega) rb fun s' I' => wpAny_pure ?_))
        have hl := length_putK acc q.1 q.2
        refine storeT vs ps' kvs' (putK acc q.1 q.2) (upd H a (.dT (putK acc q.1 q.2))) s' Q hu I' upd_same r2 ?_ (by omega) fun s2 I2 => hQ s2 ?_
        · clear hQ I' r2 hz hl
          unfold TPs
          induction p2 with
          | nil => exact .nil
          | cons h t ih =>
            obtain ⟨c, e1, e2, e3⟩ := h
            exact .cons ⟨c, e1, by rw [upd_ne (ne_of e2 e fun z => nomatch z)]; exact e2, e3⟩ ih
        · have : upd (upd H a (.dT (putK acc q.1 q.2))) a (.dT (mergeT (putK acc q.1 q.2) kvs')) = upd H a (.dT (mergeT acc (q :: kvs'))) := by
            funext c
            by_cases hc : c = a
            · subst hc; rw [upd_same, upd_same]; rfl
            · rw [upd_ne hc, upd_ne hc, upd_ne hc]
          rw [this] at I2
          exact I2
theorem pe_dispT {pos : Pos} {keys : List (Option Expr)} {values : List Expr} {trs : List (TE × TE)} (hu : X.A.units < cLine) (h : PPs X pos keys values trs) (hall : keys.all (·.isSome) = true) (hl : keys.length = values.length) (h0 : keys ≠ []) (h15 : keys.length ≤ 15) : PE X (.Dict keys values pos) (tDispT trs) := by
  refine ⟨fun pins s σ H Q I q => ?_⟩
  have hn := I.hok.fresh (Nat.le_refl s.heap.objs.size)
  have I1 := I.laid (a := s.heap.objs.size) (o := .dT []) (h' := s.heap.push { cls := .type "dict", data := .dict #[] }) (t' := s.toks) (fun _ _ q => Heap.get?_push_of_some _ q) (Nat.le_refl _) (dt_empty s.heap I.big)
  have hlen := pairTrees_length keys values X.env pos hall hl
  have hne : pairTrees keys values X.env pos ≠ [] := fun z => by
    rw [z] at hlen
    exact h0 (List.length_eq_zero_iff.mp hlen.symm)
  rw [arm_eval_Dict, zip_pairTrees keys values X.env pos hall hl, dictDisplay_pairs _ hne (by omega)]
  refine wpAny_bind (wpAny_standAt (wpAny_bind ?_))
  unfold subDict
  refine wpAny_bind (wpAny_alloc ?_)
  refine wpAny_bind (wpAny_holding ?_)
  rw [if_pos (by omega)]
  refine wpAny_bind (thn (h.run pins _ σ _ _ I1 (q _ hn)) fun vs s2 hh => ?_)
  obtain ⟨ps, H2, I2, rel, e, kvs, tp, lk, q2⟩ := hh
  refine wpAny_holding ?_
  refine wpAny_bind (storeT vs ps kvs [] H2 s2 _ hu I2 e rel tp (by rw [sizeLine_eq, List.length_nil]; omega) fun s3 I3 => ?_)
  exact wpAny_pure (wpAny_pure (wpAny_pure ⟨.ref s.heap.objs.size, _, I3, rfl, q2⟩))
end

/-! displays on data -/
def wPs {Th : Type} : List (WE Th × WE Th) → Ev → Th → (List (D × D) → Ev → Th → Prop) → KX Th → Prop
  | [], e, t, Q, _ => Q [] e t
  | (wk, wv) :: r, e, t, Q, E => wk e t (fun k e1 t1 => wv e1 t1 (fun v e2 t2 => wPs r e2 t2 (fun ps e3 t3 => Q ((k, v) :: ps) e3 t3) E) E) E
def prsOf {Th : Type} (B : Bs Th) (W : WX) (prs : List (WE Th × WE Th)) : List (TE × TE) := prs.map fun p => (liftE B W p.1, liftE B W p.2)
inductive RepP (K : PySem.W.Frag) (F : Hp) : List (D × D) → List (V × V) → Prop
  | nil : RepP K F [] []
  | cons {k v : D} {x y : V} {ps : List (D × D)} {qs : List (V × V)} : Rep K F k x → Rep K F v y → RepP K F ps qs → RepP K F ((k, v) :: ps) ((x, y) :: qs)
def pairsK : List (D × D) → Option (List (Key × D))
  | [] => some []
  | (k, v) :: r => match toK k with
    | some key => match pairsK r with
      | some l => some ((key, v) :: l)
      | none => none
    | none => none
def pairsT : List (D × D) → Option (List (List Key × D))
  | [] => some []
  | (k, v) :: r => match k with
    | .tup t => match toKs t with
      | some key => match pairsT r with
        | some l => some ((key, v) :: l)
        | none => none
      | none => none
    | _ => none
section
variable {K : PySem.W.Frag} {F H : Hp}
theorem repP_K : ∀ {ps : List (D × D)} {qs : List (V × V)} {l : List (Key × D)}, RepP K F ps qs → pairsK ps = some l → ∃ vs, qs = vs.map (fun kv => (kV kv.1, kv.2)) ∧ RepK K F l vs
  | _, _, l, .nil, h => by cases h; exact ⟨[], rfl, by unfold RepK; rfl⟩
  | _, _, l, .cons (k := k) (v := v) (ps := ps) r1 r2 r3, h => by
    unfold pairsK at h
    cases e1 : toK k with
    | none => rw [e1] at h; cases h
    | some key =>
      cases e2 : pairsK ps with
      | none => rw [e1, e2] at h; cases h
      | some m =>
        rw [e1, e2] at h
        cases h
        obtain ⟨vs, rfl, rv⟩ := repP_K r3 e2
        rw [toK_rep e1 r1]
        exact ⟨(key, _) :: vs, rfl, by unfold RepK; exact ⟨_, vs, rfl, r2, rv⟩⟩
theorem repP_T (s : L2.Same F H) : ∀ {ps : List (D × D)} {qs : List (V × V)} {l : List (List Key × D)}, RepP K F ps qs → pairsT ps = some l → ∃ vs, TPs H qs vs ∧ RepT K F l vs
  | _, _, l, .nil, h => by cases h; exact ⟨[], .nil, by unfold RepT; rfl⟩
  | _, _, l, .cons (k := k) (v := v) (ps := ps) r1 r2 r3, h => by
    unfold pairsT at h
    split at h
    · rename_i t
      split at h
      · rename_i key e1
        split at h
        · rename_i m e2
          cases h
          obtain ⟨vs, tp, rv⟩ := repP_T s r3 e2
          obtain ⟨b, us, rfl, hb, ru⟩ := rep_tup.mp r1
          have e3 := toKs_rep e1 ru
          subst e3
          exact ⟨(key, _) :: vs, .cons ⟨b, rfl, s _ _ hb, rfl⟩ tp, by unfold RepT; exact ⟨_, vs, rfl, r2, rv⟩⟩
        · cases h
      · cases h
    · cases h
theorem repK_merge : ∀ {m : List (Key × D)} {ms : List (Key × V)} {l : List (Key × D)} {vs : List (Key × V)}, RepK K F m ms → RepK K F l vs → RepK K F (m.foldl (fun acc kv => putD acc kv.1 kv.2) l) (mergeK vs ms)
  | [], ms, l, vs, h, r => by unfold RepK at h; subst h; exact r
  | (k, d) :: m, ms, l, vs, h, r => by
    unfold RepK at h
    obtain ⟨x, rr, rfl, h1, h2⟩ := h
    exact repK_merge (m := m) (ms := rr) h2 (repK_put r h1)
theorem repT_merge : ∀ {m : List (List Key × D)} {ms : List (List Key × V)} {l : List (List Key × D)} {vs : List (List Key × V)}, RepT K F m ms → RepT K F l vs → RepT K F (m.foldl (fun acc kv => putD acc kv.1 kv.2) l) (mergeT vs ms)
  | [], ms, l, vs, h, r => by unfold RepT at h; subst h; exact r
  | (k, d) :: m, ms, l, vs, h, r => by
    unfold RepT at h
    obtain ⟨x, rr, rfl, h1, h2⟩ := h
    exact repT_merge (m := m) (ms := rr) h2 (repT_put r h1)
theorem RepP.mono {F' : Hp} (s : L2.Same F F') : ∀ {ps : List (D × D)} {qs : List (V × V)}, RepP K F ps qs → RepP K F' ps qs
  | _, _, .nil => .nil
  | _, _, .cons a b c => .cons (a.mono s) (b.mono s) (c.mono s)
end
section
variable {Th : Type} {B : Bs Th} {W : WX} {X : Cx} {pos : Pos} {a b : Expr} {ks : List (Option Expr)} {es : List Expr} {wk wv : WE Th} {prs : List (WE Th × WE Th)}
theorem dps_nil : PPs X pos [] [] (prsOf (Th := Th) B W []) := pps_nil
theorem dps_cons (hk : PE X a (liftE B W wk)) (hv : PE X b (liftE B W wv)) (hr : PPs X pos ks es (prsOf B W prs)) : PPs X pos (some a :: ks) (b :: es) (prsOf B W ((wk, wv) :: prs)) := pps_cons hk hv hr
theorem prs_run {σ : L2.St} {Ed : KX Th} (eo : EOK B W σ Ed) : ∀ {prs : List (WE Th × WE Th)} {F H : Hp} {t : Th} {e : Ev} {Qd : List (D × D) → Ev → Th → Prop} {Q : List (V × V) → Hp → Prop}, SR B F t e σ H → wPs prs e t Qd Ed →
    (∀ qs H' F' t' e' ps, SR B F' t' e' σ H' → Stp B σ F t e H F' t' e' H' → RepP B.K F' ps qs → Qd ps e' t' → Q qs H') → tPairs (prsOf B W prs) σ H Q
  | [], F, H, t, e, Qd, Q, S, hw, hq => hq [] H F t e [] S .refl .nil hw
  | (wk, wv) :: r, F, H, t, e, Qd, Q, S, hw, hq => by
    refine ⟨F, t, e, _, Ed, S, eo, hw, fun x H1 F1 t1 e1 d S1 L1 r1 q1 => ?_⟩
    refine ⟨F1, t1, e1, _, Ed, S1, eo, q1, fun y H2 F2 t2 e2 d2 S2 L2 r2 q2 => ?_⟩
    exact prs_run eo S2 q2 fun qs H' F' t' e' ps S' L' rp q => hq _ H' F' t' e' _ S' ((L1.trans L2).trans L') (.cons ((r1.mono L2.le).mono L'.le) (r2.mono L'.le) rp) q
def wDspK (prs : List (WE Th × WE Th)) : WR Th := fun e t Q E => wPs prs e t (fun ps e1 t1 => ∃ kvs, pairsK ps = some kvs ∧ kvs.length ≤ 15 ∧ Q (.ow (.dk (mergeD kvs))) e1 t1) E
def wDspT (prs : List (WE Th × WE Th)) : WR Th := fun e t Q E => wPs prs e t (fun ps e1 t1 => ∃ kvs, pairsT ps = some kvs ∧ kvs.length ≤ 15 ∧ Q (.ow (.dt (mergeD kvs))) e1 t1) E
theorem SR.keepNew {F H F1 H1 : Hp} {t t1 : Th} {e e1 : Ev} {σ : L2.St} {p : Addr} {o o' : HO} (S : SR B F t e σ H) (hp : H p = none) (ho : NT o) (S1 : SR B F1 t1 e1 σ H1) (x : Stp B σ F t e (L2.upd H p o) F1 t1 e1 H1) (hn : F1 p = none → True) :
    H1 p = some o ∧ F1 p = none ∧ SR B F1 t1 e1 σ (L2.upd H1 p o') ∧ Stp B σ F t e H F1 t1 e1 (L2.upd H1 p o') ∧ B.H0 p = none ∧ p ∉ B.M.fp t1 ∧ ¬ InSl e1 σ p := by
  have np : ¬ InSl e σ p := fun ⟨i, d, h1, h2⟩ => S.nslot hp i d h1 h2
  obtain ⟨k1, k2, k3⟩ := x.keep p o upd_same ho (S.sub.free hp) (S.nfp hp) np
  have ns : ¬ InSl e1 σ p := fun z => np (x.own p z)
  have x0 : Stp B σ F t e H F1 t1 e1 H1 := (Stp.loose hp).trans x
  refine ⟨k1, k2, S1.write (S.out hp) k3 k2 (fun b hb => upd_ne hb) (fun _ _ => rfl) (fun u z => by rw [k2] at z; cases z) ⟨_, upd_same⟩ fun i d h1 h2 => ns ⟨i, d, h1, h2⟩, ?_, S.out hp, k3, ns⟩
  exact x0.at_ (.inl hp) (fun b hb => upd_ne hb) (fun _ _ => rfl) k2 ⟨_, upd_same⟩ fun _ z => z
theorem dr_dspK {keys : List (Option Expr)} {vals : List Expr} (h : PPs X pos keys vals (prsOf B W prs)) (hall : keys.all (·.isSome) = true := by rfl) (hl : keys.length = vals.length := by rfl) (h0 : keys ≠ [] := by exact fun z => by cases z) (h15 : keys.length ≤ 15 := by decide) :
    PE X (.Dict keys vals pos) (liftR B W (wDspK prs)) := weakE (pe_disp h hall hl h0 h15) (by
  rintro σ H Q ⟨F, t, e, Qd, Ed, S, eo, hw, hq⟩ p hp
  refine prs_run eo (S.loose hp) hw fun qs H1 F1 t1 e1 ps S1 L1 rp q1 => ?_
  obtain ⟨kvs, ek, hz, q⟩ := q1
  obtain ⟨vs, rfl, rv⟩ := repP_K rp ek
  obtain ⟨k1, k2, S2, L2', h0', k3, ns⟩ := S.keepNew (o' := .dK (mergeK [] vs)) hp (fun _ z => by cases z) S1 L1 fun _ => trivial
  refine ⟨k1, vs, rfl, by rw [repK_len rv]; exact hz, hq _ _ F1 t1 e1 (.ow (.dk (mergeD kvs))) S2 L2' ⟨p, rfl, ⟨k2, _, upd_same, repK_merge rv (by unfold RepK; rfl)⟩, h0', k3, fun i d h1 h2 => ns ⟨i, d, h1, h2⟩⟩ (newR_none hp) q⟩)
theorem dr_dspT {keys : List (Option Expr)} {vals : List Expr} (hu : X.A.units < cLine) (h : PPs X pos keys vals (prsOf B W prs)) (hall : keys.all (·.isSome) = true := by rfl) (hl : keys.length = vals.length := by rfl) (h0 : keys ≠ [] := by exact fun z => by cases z) (h15 : keys.length ≤ 15 := by decide) :
    PE X (.Dict keys vals pos) (liftR B W (wDspT prs)) := weakE (pe_dispT hu h hall hl h0 h15) (by
  rintro σ H Q ⟨F, t, e, Qd, Ed, S, eo, hw, hq⟩ p hp
  refine prs_run eo (S.loose hp) hw fun qs H1 F1 t1 e1 ps S1 L1 rp q1 => ?_
  obtain ⟨kvs, ek, hz, q⟩ := q1
  obtain ⟨vs, tp, rv⟩ := repP_T S1.sub rp ek
  obtain ⟨k1, k2, S2, L2', h0', k3, ns⟩ := S.keepNew (o' := .dT (mergeT [] vs)) hp (fun _ z => by cases z) S1 L1 fun _ => trivial
  refine ⟨k1, vs, tp, by rw [repT_len rv]; exact hz, hq _ _ F1 t1 e1 (.ow (.dt (mergeD kvs))) S2 L2' ⟨p, rfl, ⟨k2, _, upd_same, repT_merge rv (by unfold RepT; rfl)⟩, h0', k3, fun i d h1 h2 => ns ⟨i, d, h1, h2⟩⟩ (newR_none hp) q⟩)

/-! a, b, c = x, y, z -/
theorem Apart.get : ∀ {rs : List R} {vs : List V}, Apart rs vs → ∀ {i j : Nat} {d d' : D} {a : Addr}, i < j → rs[i]? = some (.ow d) → vs[i]? = some (.ref a) → rs[j]? = some (.ow d') → vs[j]? ≠ some (.ref a)
  | [], _, _, i, j, _, _, _, _, h, _, _ => by simp at h
  | _ :: _, [], _, i, j, _, _, _, _, _, h, _ => by simp at h
  | r :: rs, v :: vs, ap, i, j, d, d', a, hij, h1, h2, h3 => by
    cases j with
    | zero => omega
    | succ j =>
      rw [List.getElem?_cons_succ] at h3 ⊢
      cases i with
      | zero =>
        simp at h1 h2
        subst h1 h2
        exact ap.1 j d' h3
      | succ i =>
        rw [List.getElem?_cons_succ] at h1 h2
        have ap2 : Apart rs vs := by
          cases r with
          | sh _ => cases v <;> exact ap
          | ow _ => cases v <;> first | exact ap.2 | exact ap
        exact ap2.get (by omega) h1 h2 h3
theorem Apart.two {r q : R} {v u : V} (h : ∀ d d' a, r = .ow d → v = .ref a → q = .ow d' → u ≠ .ref a) : Apart [r, q] [v, u] := by
  have one : ∀ (q : R) (u : V), Apart [q] [u] := fun q u => by
    cases q <;> cases u <;> first | trivial | exact ⟨fun j d e => by simp at e, trivial⟩
  cases r with
  | sh _ => cases v <;> exact one q u
  | ow d =>
    cases v with
    | ref a =>
      refine ⟨fun j d' e1 e2 => ?_, one q u⟩
      cases j with
      | zero =>
        simp at e1 e2
        exact h d d' a rfl rfl e1 e2
      | succ j => simp at e1
    | _ => exact one q u
def wPar3 (i j l : Nat) (ws : WB Th) : WS Th := fun n e t => ws e t (fun rs e1 t1 => match rs with
  | [r, q, p] => n.nx (((e1.set i r.sl).set j q.sl).set l p.sl) t1
  | _ => False) n.ex
theorem ds_par3 {i j l : Nat} {x y z : Str} {a b c : Expr} {ws : WB Th} {px py pz pt : Pos} {kt k2 : Nat} {pt2 : Pos} (hN : X.N.Nodup) (ha : PA X [a, b, c] (liftB B W ws)) (hc : X.calm = true := by rfl)
    (hi : X.N[i]? = some x := by rfl) (hj : X.N[j]? = some y := by rfl) (hl : X.N[l]? = some z := by rfl) (hij : i ≠ j := by decide) (hil : i ≠ l := by decide) (hjl : j ≠ l := by decide) (hx : X.env.scope.names.lookup x = some .local := by rfl) (hy : X.env.scope.names.lookup y = some .local := by rfl) (hz : X.env.scope.names.lookup z = some .local := by rfl)
    (hw : swappedStores [.Tuple [.Name x px, .Name y py, .Name z pz] kt pt] (.Tuple [a, b, c] k2 pt2) X.env = pure (some [x, y, z]) := by rfl) (hs : swapsWithSole [.Tuple [.Name x px, .Name y py, .Name z pz] kt pt] (.Tuple [a, b, c] k2 pt2) pos.line X.env = pure false := by rfl) :
    PS X (.Assign [.Tuple [.Name x px, .Name y py, .Name z pz] kt pt] (.Tuple [a, b, c] k2 pt2) pos) (liftS B W (wPar3 i j l ws)) := weakS (ps_par3 hc hN hi hj hl hij hil hjl hx hy hz ha hw hs) (by
  rintro n σ H ⟨F, t, e, m, S, eo, hw, h1, h2, h3, h4⟩
  refine ⟨F, t, e, _, m.ex, S, eo σ, hw, fun vs H1 F1 t1 e1 rs S1 L1 r1 a1 n1 q1 => ?_⟩
  match rs, vs, r1, a1, q1 with
  | [r, q, p], _, .cons (v := v) hr (.cons (v := u) hq (.cons (v := u') hp .nil)), a1, q1 =>
    have a2 : Apart [r, q] [v, u] := .two fun d d' a e1 e2 e3 e4 => a1.get (i := 0) (j := 1) (by decide) (by rw [e1]; rfl) (by rw [e2]; rfl) (by rw [e3]; rfl) (by rw [e4]; rfl)
    have a3 : Apart [r, p] [v, u'] := .two fun d d' a e1 e2 e3 e4 => a1.get (i := 0) (j := 2) (by decide) (by rw [e1]; rfl) (by rw [e2]; rfl) (by rw [e3]; rfl) (by rw [e4]; rfl)
    have a4 : Apart [q, p] [u, u'] := .two fun d d' a e1 e2 e3 e4 => a1.get (i := 1) (j := 2) (by decide) (by rw [e1]; rfl) (by rw [e2]; rfl) (by rw [e3]; rfl) (by rw [e4]; rfl)
    obtain ⟨S2, hq2⟩ := S1.store2 hr hq a2 i
    obtain ⟨_, hp2⟩ := S1.store2 hr hp a3 i
    obtain ⟨S3, hp3⟩ := S2.store2 hq2 hp2 a4 j
    exact ⟨v, u, u', rfl, h1 _ H1 F1 t1 _ (S3.store hp3 l) L1.le q1⟩)
end
end VL

set_option Elab.async false
set_option linter.all false
set_option maxRecDepth 100000
set_option maxHeartbeats 1000000
namespace VL
open PySem PySem.Spec PyProof.Rows L2

/-! {k: v for x in ..}, keys ints and texts -/
section
variable {Th : Type} {B : Bs Th} {W : WX} {X : Cx} {pos : Pos}
def wDcL (g : WG Th) (tt : WT Th) (wk wv : WE Th) (vs : List Nat) : List D → List (Key × D) → Ev → Th → (List (Key × D) → Ev → Th → Prop) → Prop
  | [], acc, e, t, Q => Q acc e t
  | d :: l, acc, e, t, Q => g d (wipeE e vs) t fun e1 t1 => tt e1 t1 (fun b e2 t2 => if b = true then wk e2 t2 (fun kd e3 t3 => wv e3 t3 (fun y e4 t4 => ∃ key, toK kd = some key ∧ acc.length < sizeLine ∧ wDcL g tt wk wv vs l (putD acc key y) (wipeE e4 vs) t4 Q) noX) noX
    else wDcL g tt wk wv vs l acc (wipeE e2 vs) t2 Q) noX
def wDc (wi : WA Th) (g : WG Th) (tt : WT Th) (wk wv : WE Th) (vs : List Nat) : WR Th := fun e t Q E => wi e t (fun items e1 t1 => wDcL g tt wk wv vs items [] e1 t1 fun l e2 t2 => Q (.ow (.dk l)) e2 t2) E
theorem wipe_wipe (σ : L2.St) (vs : List Nat) : L2.wipe (L2.wipe σ vs) vs = L2.wipe σ vs := by
  have key : ∀ ws : List Nat, (∀ v ∈ ws, v ∈ vs) → L2.wipe (L2.wipe σ vs) ws = L2.wipe σ vs := by
    intro ws
    induction ws with
    | nil => intro _; rfl
    | cons v ws ih =>
      intro h
      show (L2.wipe (L2.wipe σ vs) ws).set v none = _
      rw [ih fun u hu => h u (List.mem_cons_of_mem _ hu)]
      have hv := h v List.mem_cons_self
      have key2 : ∀ zs : List Nat, v ∈ zs → (L2.wipe σ zs).set v none = L2.wipe σ zs := by
        intro zs
        induction zs with
        | nil => intro h; simp at h
        | cons z zs ih2 =>
          intro h
          unfold L2.wipe
          by_cases hz : z = v
          · subst hz; rw [List.set_set]
          · have := (List.mem_cons.mp h).resolve_left fun e => hz e.symm
            rw [List.set_comm _ _ hz, ih2 this]
      exact key2 vs hv
  exact key vs fun _ h => h
theorem liftDc {wi : WA Th} {g : WG Th} {tt : WT Th} {wk wv : WE Th} {vs : List Nat} : ∀ σ H Q, liftR B W (wDc wi g tt wk wv vs) σ H Q → tDc (liftI B W wi) (liftN B vs g) (liftT B NX tt) (liftE B NX wk) (liftE B NX wv) vs σ H Q := by
  rintro σ H Q ⟨F, t, e, Qd, Ed, S, eo, hw, hq⟩
  refine ⟨F, t, e, _, Ed, S, eo, hw, fun J H1 F1 t1 e1 items S1 L1 ok q1 D hD => ?_⟩
  have D1 : Priv B F1 t1 e1 σ D := ⟨S1.sub.free hD, S1.out hD, S1.nfp hD, fun ⟨i, d, h1, h2⟩ => S1.nslot hD i d h1 h2⟩
  refine ⟨fun i k Hx => k = items.length - i ∧ i ≤ items.length ∧ ∃ Fx tx ex acc us, SR B Fx tx ex σ Hx ∧ L2.Same F1 Fx ∧ Stp B σ F t e H Fx tx ex Hx ∧ Hx D = some (.dK us) ∧ RepK B.K Fx acc us ∧ Priv B Fx tx ex σ D ∧
    wDcL g tt wk wv vs (items.drop i) acc ex tx (fun l e2 t2 => Qd (.ow (.dk l)) e2 t2), ⟨_, rfl, Nat.zero_le _, F1, t1, e1, [], [], S1.loose hD, .refl F1, L1.trans (.loose hD), upd_same, by unfold RepK; rfl, D1, by simpa using q1⟩, ?_⟩
  rintro i k Hx ⟨rfl, hi, Fx, tx, ex, acc, us, Sx, Lx, Tx, hDx, rx, Px, qx⟩
  obtain ⟨ok1, ok2, ok3⟩ := ok Fx tx ex σ Hx i Sx Lx
  have nD : H D = none := L1.old hD
  by_cases hlt : i < items.length
  · refine .inr ⟨ok1 hlt, fun Hy => ∃ Fx tx ex acc us, SR B Fx tx ex σ Hy ∧ L2.Same F1 Fx ∧ Stp B σ F t e H Fx tx ex Hy ∧ Hy D = some (.dK us) ∧ RepK B.K Fx acc us ∧ Priv B Fx tx ex σ D ∧
      wDcL g tt wk wv vs (items.drop (i + 1)) acc ex tx (fun l e2 t2 => Qd (.ow (.dk l)) e2 t2), fun Hy h => ⟨items.length - (i + 1), by omega, rfl, hlt, h⟩, fun x H3 hy => ?_⟩
    obtain ⟨F3, S3, T3, r3⟩ := ok3 _ x H3 (List.getElem?_eq_getElem hlt) hy
    rw [List.drop_eq_getElem_cons hlt] at qx
    have h3D := T3.keep D _ hDx (fun _ z => by cases z) Px.f Px.p Px.s
    refine ⟨F3, tx, wipeE ex vs, _, _, S3.wipe vs, r3, qx, fun σ4 e4 S4 w4 i4 q4 => ?_⟩
    have w4' : L2.wipe σ4 vs = L2.wipe σ vs := w4.trans (wipe_wipe σ vs)
    have i4' : ∀ c, InSl e4 σ4 c → InSl ex σ c := fun c h => inSl_wipe (i4 c h)
    have P4 : Priv B F3 tx e4 σ4 D := ⟨h3D.2.1, Px.z, Px.p, fun z => Px.s (i4' D z)⟩
    refine ⟨w4', F3, tx, e4, _, noX, S4, eok_no, q4, fun b H5 F5 t5 e5 S5 T5 q5 => ?_⟩
    have h5D := T5.keep D _ h3D.1 (fun _ z => by cases z) P4.f P4.p P4.s
    cases b with
    | true =>
      dsimp only at q5 ⊢
      rw [if_pos rfl] at q5 ⊢
      refine ⟨F5, t5, e5, _, noX, S5, eok_no, q5, fun y H6 F6 t6 e6 d6 S6 T6 r6 q6 => ?_⟩
      refine ⟨F6, t6, e6, _, noX, S6, eok_no, q6, fun z H7 F7 t7 e7 d7 S7 T7 r7 q7 => ?_⟩
      obtain ⟨key, hkey, hlen, q7⟩ := q7
      have s5 : ¬ InSl e5 σ4 D := fun z => P4.s (T5.own D z)
      have T57 := T6.trans T7
      have h7D := T57.keep D _ h5D.1 (fun _ z => by cases z) h5D.2.1 h5D.2.2 s5
      have s7 : ¬ InSl (wipeE e7 vs) σ D := fun z => s5 (T57.own D (inSl_unwipe w4' z))
      have T47 : Stp B σ Fx tx ex Hx F7 t7 (wipeE e7 vs) H7 := T3.trans ((T5.trans T57).turn w4' i4')
      have le7 : L2.Same Fx F7 := T47.le
      have S7' := S7.unwipe w4'
      refine ⟨us, key, toK_rep hkey (r6.mono T7.le), h7D.1, by rw [repK_len rx]; exact hlen, F7, t7, wipeE e7 vs, putD acc key d7, putK us key z, ?_, Lx.trans le7, ?_, upd_same, repK_put (rx.mono le7) r7, ⟨h7D.2.1, Px.z, h7D.2.2, s7⟩, q7⟩
      · exact S7'.write Px.z h7D.2.2 h7D.2.1 (fun b hb => upd_ne hb) (fun _ _ => rfl) (fun o z => by rw [h7D.2.1] at z; cases z) ⟨_, upd_same⟩ fun j d' h1 h2 => s7 ⟨j, d', h1, h2⟩
      · exact (Tx.trans T47).at_ (.inl nD) (fun b hb => upd_ne hb) (fun _ _ => rfl) h7D.2.1 ⟨_, upd_same⟩ fun _ z => z
    | false =>
      dsimp only at q5 ⊢
      rw [if_neg Bool.false_ne_true] at q5 ⊢
      have s5 : ¬ InSl (wipeE e5 vs) σ D := fun z => P4.s (T5.own D (inSl_unwipe w4' z))
      have T45 : Stp B σ Fx tx ex Hx F5 t5 (wipeE e5 vs) H5 := T3.trans (T5.turn w4' i4')
      exact ⟨F5, t5, wipeE e5 vs, acc, us, S5.unwipe w4', Lx.trans T45.le, Tx.trans T45, h5D.1, rx.mono T45.le, ⟨h5D.2.1, Px.z, h5D.2.2, s5⟩, q5⟩
  · have ei : i = items.length := by omega
    subst ei
    rw [List.drop_length] at qx
    refine .inl ⟨ok2 (Nat.le_refl _), hq _ Hx Fx tx ex (.ow (.dk acc)) Sx Tx ?_ ?_ qx⟩
    · exact ⟨D, rfl, ⟨Px.f, us, hDx, rx⟩, Px.z, Px.p, fun j d' h1 h2 => Px.s ⟨j, d', h1, h2⟩⟩
    · exact newR_none nD
theorem dr_dc {kx vx tg iter : Expr} {ifs : List Expr} {scope : Scope} {own : List (Str × Nat)} {wi : WA Th} {g : WG Th} {tt : WT Th} {wk wv : WE Th} (hN : X.N.Nodup) (hi : PI X tg iter (liftI B W wi)) (ok : BlkOk X.N X.env.scope scope own)
    (hg : ∀ (s : Shared) (H : Hp) (C : Addr) (cl : List (Str × Addr)) (fp : List Addr), PG (X.blk s H scope (compEnvC scope cl C X.env) fp) tg (liftN B (own.map (·.2)) g))
    (ht : ∀ (s : Shared) (H : Hp) (C : Addr) (cl : List (Str × Addr)) (fp : List Addr), PTs (X.blk s H scope (compEnvC scope cl C X.env) fp) ifs (liftT B NX tt))
    (hk : ∀ (s : Shared) (H : Hp) (C : Addr) (cl : List (Str × Addr)) (fp : List Addr), PE (X.blk s H scope (compEnvC scope cl C X.env) fp) kx (liftE B NX wk))
    (he : ∀ (s : Shared) (H : Hp) (C : Addr) (cl : List (Str × Addr)) (fp : List Addr), PE (X.blk s H scope (compEnvC scope cl C X.env) fp) vx (liftE B NX wv)) (hc : X.calm = true := by rfl) (hs : ∀ x, foldedSetIterable iter X.env x = pure x := by intro _; rfl) :
    PE X (.DictComp kx vx [⟨tg, iter, ifs, 0⟩] scope pos) (liftR B W (wDc wi g tt wk wv (own.map (·.2)))) := weakE (pe_dc hc hN hi ok hg ht hk he hs) liftDc
end
end VL

set_option Elab.async false
set_option linter.all false
set_option maxRecDepth 100000
set_option maxHeartbeats 1000000
namespace VL
open PySem PySem.Spec PyProof.Rows L2

/-! for x in a list, a tuple, a text, a dict -/
def iAny (K : PySem.W.Frag) (te : TE) : TI := fun σ H R => te σ H fun x H1 => (∃ a, x = .ref a ∧ (∃ xs, SqL K H1 a xs) ∧ R (Itl K a) H1) ∨ (∃ a, x = .ref a ∧ (∃ xs, SqT K H1 a xs) ∧ R (Itt K a) H1) ∨ (∃ z, x = .str z ∧ R (Its z) H1) ∨
  ∃ d o, x = .ref d ∧ ((∃ kvs, H1 d = some (.frz o (.dK kvs)) ∧ R (Itk d o kvs) H1) ∨ ∃ kvs, H1 d = some (.frz o (.dT kvs)) ∧ R (Itkt d o kvs) H1)
theorem pi_any {X : Cx} {tg l : Expr} {te : TE} (he : PE X l te) : PI X tg l (iAny X.K te) := by
  refine ⟨fun pins s σ H R I h => thn (he.run pins s σ H _ I h) fun v s1 hv => ?_⟩
  obtain ⟨x, H1, I1, rx, q⟩ := hv
  have fresh : ∀ b, b ∈ [s1.heap.objs.size] → FpOk X pins H1 b := fun b hb => by
    have e : b = s1.heap.objs.size := by simpa using hb
    subst e
    exact I1.fpOk (Nat.le_refl _) (I1.hok.fresh (Nat.le_refl _))
  rcases q with ⟨a, rfl, ⟨xs, hq⟩, q⟩ | ⟨a, rfl, ⟨xs, hq⟩, q⟩ | ⟨z, rfl, q⟩ | ⟨d, o, rfl, q⟩
  · cases rx
    obtain ⟨its, rv, pl, _⟩ := I1.list hq
    exact wpAny_pyIter_list pl.isList ⟨_, [s1.heap.objs.size], _, _, H1, rfl, I1.kept (t' := s1.toks) fun b o e => Heap.get?_push_of_some _ e, turn_list a _, ⟨_, Heap.get?_push_size _ rfl, rfl, rfl⟩, fresh, q⟩
  · cases rx
    obtain ⟨its, rv, pl, _⟩ := I1.tuple hq
    exact wpAny_pyIter_tuple (show s1.heap.IsTuple a its.toArray from pl) ⟨_, [s1.heap.objs.size], _, _, H1, rfl, I1.kept (t' := s1.toks) fun b o e => Heap.get?_push_of_some _ e, turn_tuple a _, ⟨_, Heap.get?_push_size _ rfl, rfl, rfl⟩, fresh, q⟩
  · obtain ⟨t, rfl⟩ := rx
    cases ha : z.cps.all (· < 128)
    · exact wpAny_pyIter_wide ha (pi_one (tk := s1.toks) I1 _ (turn_str _ z t "str_iterator" (.inr rfl)) ⟨_, Heap.get?_push_size _ rfl, rfl, rfl⟩ q)
    · exact wpAny_pyIter_ascii ha (pi_one (tk := s1.toks) I1 _ (turn_str _ z t "str_ascii_iterator" (.inl rfl)) ⟨_, Heap.get?_push_size _ rfl, rfl, rfl⟩ q)
  · obtain rfl : v = Value.ref d := rx
    rcases q with ⟨kvs, hd, q⟩ | ⟨kvs, hd, q⟩
    · obtain ⟨hs, hgd, hx, es, ep, vs, hdt, hsz, kv, hm⟩ := I1.frzK hd
      refine iter_keys hs hgd hx hdt (pi_one (tk := s1.toks) I1 _ (turn_keys _ hdt) ⟨_, Heap.get?_push_size _ rfl, rfl, ?_⟩ q)
      rw [hsz] <;> rfl
    · obtain ⟨hs, hgd, hx, es, ep, hdt, hsz, ent⟩ := I1.frzT hd
      refine iter_keys hs hgd hx hdt (pi_one (tk := s1.toks) I1 _ (turn_keysT _ hdt) ⟨_, Heap.get?_push_size _ rfl, rfl, ?_⟩ q)
      rw [hsz] <;> rfl
def anyD (d : D) (k : List D → Prop) : Prop := match d with
  | .lst l => k l
  | .kt l => k l
  | .pt l => k l
  | .tup l => k l
  | .str z => k (signs z)
  | .dk l => k (l.map fun p => keyD p.1)
  | .dt l => k (l.map fun p => .tup (p.1.map keyD))
  | _ => False
section
variable {Th : Type} {B : Bs Th} {W : WX} {X : Cx} {pos p : Pos} {tg a b : Expr} {es : List Expr} {we : WE Th} {ta tb : WT Th}
theorem di_any (hK : B.K = X.K) (he : PE X a (liftE B W we)) : PI X tg a (liftI B W (wItK anyD we)) := weakI (pi_any he) (by
  rintro σ H Q ⟨F, t, e, Qd, Ed, S, eo, hw, hq⟩
  refine ⟨F, t, e, _, Ed, S, eo, hw, fun v H1 F1 t1 e1 d S1 L1 r1 q1 => ?_⟩
  cases d with
  | lst l =>
    obtain ⟨q, vs, rfl, h1, r⟩ := rep_lst.mp r1
    refine .inl ⟨q, rfl, ⟨vs, by rw [← hK]; exact SqL.of (S1.sub _ _ h1)⟩, ?_⟩
    rw [← hK]
    exact hq _ H1 F1 t1 e1 l S1 L1 (iok_list (SqL.of h1) r fun _ _ _ _ _ _ _ => trivial) q1
  | tup l =>
    obtain ⟨q, vs, rfl, h1, r⟩ := rep_tup.mp r1
    refine .inr (.inl ⟨q, rfl, ⟨vs, by rw [← hK]; exact SqT.of (S1.sub _ _ h1)⟩, ?_⟩)
    rw [← hK]
    exact hq _ H1 F1 t1 e1 l S1 L1 (iok_tup (SqT.of h1) r) q1
  | pt l =>
    unfold Rep at r1
    obtain ⟨q, o, vs, rfl, h1, _, r⟩ := r1
    have hq' : SqT B.K F1 q vs := .inl (.inr ⟨o, h1⟩)
    refine .inr (.inl ⟨q, rfl, ⟨vs, by rw [← hK]; exact .inl (.inr ⟨o, S1.sub _ _ h1⟩)⟩, ?_⟩)
    rw [← hK]
    exact hq _ H1 F1 t1 e1 l S1 L1 (iok_tup hq' r) q1
  | kt l =>
    unfold Rep at r1
    obtain ⟨q, vs, rfl, h1, r⟩ := r1
    refine .inl ⟨q, rfl, ⟨vs, by rw [← hK]; exact Same.seq S1.sub h1⟩, ?_⟩
    rw [← hK]
    exact hq _ H1 F1 t1 e1 l S1 L1 (iok_list h1 r fun _ _ _ _ _ _ _ => trivial) q1
  | str x =>
    exact .inr (.inr (.inl ⟨x, (rep_str (K := B.K) (F := F1)).mp r1, hq _ H1 F1 t1 e1 _ S1 L1 (iok_str x) q1⟩))
  | dk l =>
    obtain ⟨c, od, vs, rfl, h1, r⟩ := rep_dk.mp r1
    refine .inr (.inr (.inr ⟨c, od, rfl, .inl ⟨vs, S1.sub _ _ h1, hq _ H1 F1 t1 e1 _ S1 L1 ?_ q1⟩⟩))
    intro F' t' e' σ' H' i S' L'
    have h2 := S'.sub _ _ (L' _ _ h1)
    rw [List.length_map, ← repK_len r]
    refine ⟨fun hi => ⟨h2, hi⟩, fun hi => ⟨h2, hi⟩, fun d x H2 hd hy => ?_⟩
    obtain ⟨rfl, k, v, hk, rfl⟩ := hy
    obtain ⟨d', e', r'⟩ := repK_get r hk
    rw [List.getElem?_map, e'] at hd
    cases hd
    exact ⟨F', S', .refl, rep_key k⟩
  | dt l =>
    obtain ⟨c, od, vs, rfl, h1, r⟩ := rep_dt.mp r1
    refine .inr (.inr (.inr ⟨c, od, rfl, .inr ⟨vs, S1.sub _ _ h1, hq _ H1 F1 t1 e1 _ S1 L1 ?_ q1⟩⟩))
    intro F' t' e' σ' H' i S' L'
    have h2 := S'.sub _ _ (L' _ _ h1)
    rw [List.length_map, ← repT_len r]
    refine ⟨fun hi => ⟨h2, hi⟩, fun hi => ⟨h2, hi⟩, fun d x H2 hd hy => ?_⟩
    obtain ⟨rfl, k, v, q, hk, rfl, hq'⟩ := hy
    obtain ⟨d', e', r'⟩ := repT_get r hk
    rw [List.getElem?_map, e'] at hd
    cases hd
    obtain ⟨F2, S2, L2', h3⟩ := S'.seeTup hq'
    exact ⟨F2, S2, L2', rep_tup.mpr ⟨q, _, rfl, h3, rep_keys k⟩⟩
  | _ => exact q1.elim)
/-- a built-in type's name -/
theorem de_ty {x : Str} (n : String) (hm : X.mg x = none) (hv : bootBuiltins x = some (.type n) := by decide +kernel) (hg : Gl X x := by rfl) (hn : x ≠ "__name__" := by decide) (hd : (x == ("__debug__" : Str)) = false := by decide) : PE X (.Name x pos) (liftE B W (wC (.ty n))) :=
  weakE (pe_bltn (v := .ty n) hg hm hv (by rfl) hn hd) (by
  rintro σ H Q ⟨F, t, e, Qd, Ed, S, eo, hw, hq⟩
  exact hq _ H F t e _ S .refl (by unfold Rep; rfl) hw)
/-- a constant text of the module -/
theorem de_gstr {x : Str} {z : Str} (hm : ∃ t, X.mg x = some (.str z t)) (hg : Gl X x := by rfl) (hd : (x == ("__debug__" : Str)) = false := by decide) : PE X (.Name x pos) (liftE B W (wC (.str z))) := by
  obtain ⟨t, hm⟩ := hm
  exact de_glob (v := .str z) hg hm ⟨t, rfl⟩ (fun F => rep_str.mpr rfl) hd
theorem dw_and1 (ha : PT X a (liftT B W ta)) : PW X (.BoolOp .And [a] pos) (liftT B W ta) := pw_and1 ha
theorem dw_or1 (ha : PT X a (liftT B W ta)) : PW X (.BoolOp .Or [a] pos) (liftT B W ta) := pw_or1 ha
theorem de_one {op : BoolOp} {wa : WE Th} (ha : PE X a (liftE B W wa)) : PE X (.BoolOp op [a] pos) (liftE B W wa) := pe_one ha
end

/-! ways through a loop, on data -/
section
variable {Th : Type}
/-- each item in turn, by an invariant on what is left -/
theorem forL_ind {g : WG Th} {b : WS Th} {n : En Th} (I : List D → Ev → Th → Prop) (step : ∀ d rest (K : Ev → Th → Prop) e t, (∀ e t, I rest e t → K e t) → I (d :: rest) e t → g d e t fun e1 t1 => b { n with nx := K, ct := K, bk := n.nx } e1 t1) (fin : ∀ e t, I [] e t → n.nx e t) :
    ∀ rest e t, I rest e t → wForL g b n rest e t
  | [], e, t, h => fin e t h
  | d :: rest, e, t, h => step d rest _ e t (fun e t q => forL_ind I step fin rest e t q) h
theorem lcL_ind {g : WG Th} {tt : WT Th} {we : WE Th} {vs : List Nat} {Q : List D → Ev → Th → Prop} (I : List D → List D → Ev → Th → Prop)
    (step : ∀ d rest acc (K : List D → Ev → Th → Prop) e t, (∀ acc e t, I rest acc e t → K acc e t) → I (d :: rest) acc e t → g d (wipeE e vs) t fun e1 t1 => tt e1 t1 (fun b e2 t2 => if b = true then we e2 t2 (fun y e3 t3 => acc.length < sizeLine ∧ K (acc ++ [y]) (wipeE e3 vs) t3) noX else K acc (wipeE e2 vs) t2) noX)
    (fin : ∀ acc e t, I [] acc e t → Q acc e t) : ∀ rest acc e t, I rest acc e t → wLcL g tt we vs rest acc e t Q
  | [], acc, e, t, h => fin acc e t h
  | d :: rest, acc, e, t, h => step d rest acc (fun acc e t => wLcL g tt we vs rest acc e t Q) e t (fun acc e t q => lcL_ind I step fin rest acc e t q) h
/-- [f x for x in items if p x] -/
theorem lc_fm {g : WG Th} {tt : WT Th} {we : WE Th} {vs : List Nat} {Q : List D → Ev → Th → Prop} {items : List D} {e0 : Ev} {t0 : Th} (p : D → Bool) (f : D → D) (hz : items.length ≤ sizeLine)
    (step : ∀ d, d ∈ items → ∀ (acc : List D) (K : List D → Ev → Th → Prop), acc.length < sizeLine → K (if p d = true then acc ++ [f d] else acc) e0 t0 → g d (wipeE e0 vs) t0 fun e1 t1 => tt e1 t1 (fun b e2 t2 => if b = true then we e2 t2 (fun y e3 t3 => acc.length < sizeLine ∧ K (acc ++ [y]) (wipeE e3 vs) t3) noX else K acc (wipeE e2 vs) t2) noX)
    (fin : Q ((items.filter p).map f) e0 t0) : wLcL g tt we vs items [] e0 t0 Q := by
  refine lcL_ind (fun rest acc e t => e = e0 ∧ t = t0 ∧ ∃ done, items = done ++ rest ∧ acc = (done.filter p).map f) (fun d rest acc K e t hK h => ?_) (fun acc e t h => ?_) items [] e0 t0 ⟨rfl, rfl, [], rfl, rfl⟩
  · obtain ⟨rfl, rfl, done, hd, rfl⟩ := h
    have hl : ((done.filter p).map f).length ≤ done.length := by rw [List.length_map]; exact List.length_filter_le _ _
    have hlen : items.length = done.length + (rest.length + 1) := by rw [hd]; simp
    refine step d (by rw [hd]; simp) _ K (by omega) (hK _ _ _ ⟨rfl, rfl, done ++ [d], by rw [hd]; simp, ?_⟩)
    rw [List.filter_append, List.map_append]
    by_cases hp : p d = true
    · rw [if_pos hp, List.filter_cons_of_pos hp]; rfl
    · rw [if_neg hp, List.filter_cons_of_neg hp]; simp
  · obtain ⟨rfl, rfl, done, hd, rfl⟩ := h
    rw [List.append_nil] at hd
    subst hd
    exact fin
/-- [f x for x in items] -/
theorem lc_map {g : WG Th} {tt : WT Th} {we : WE Th} {vs : List Nat} {Q : List D → Ev → Th → Prop} {items : List D} {e0 : Ev} {t0 : Th} (f : D → D) (hz : items.length ≤ sizeLine)
    (step : ∀ d, d ∈ items → ∀ (acc : List D) (K : List D → Ev → Th → Prop), acc.length < sizeLine → K (acc ++ [f d]) e0 t0 → g d (wipeE e0 vs) t0 fun e1 t1 => tt e1 t1 (fun b e2 t2 => if b = true then we e2 t2 (fun y e3 t3 => acc.length < sizeLine ∧ K (acc ++ [y]) (wipeE e3 vs) t3) noX else K acc (wipeE e2 vs) t2) noX)
    (fin : Q (items.map f) e0 t0) : wLcL g tt we vs items [] e0 t0 Q := by
  refine lc_fm (fun _ => true) f hz (fun d hd acc K ha hk => step d hd acc K ha (by simpa using hk)) ?_
  rw [List.filter_eq_self.mpr fun _ _ => rfl]
  exact fin
theorem dcL_ind {g : WG Th} {tt : WT Th} {wk wv : WE Th} {vs : List Nat} {Q : List (Key × D) → Ev → Th → Prop} (I : List D → List (Key × D) → Ev → Th → Prop)
    (step : ∀ d rest acc (K : List (Key × D) → Ev → Th → Prop) e t, (∀ acc e t, I rest acc e t → K acc e t) → I (d :: rest) acc e t → g d (wipeE e vs) t fun e1 t1 => tt e1 t1 (fun b e2 t2 => if b = true then wk e2 t2 (fun kd e3 t3 => wv e3 t3 (fun y e4 t4 => ∃ key, toK kd = some key ∧ acc.length < sizeLine ∧ K (putD acc key y) (wipeE e4 vs) t4) noX) noX else K acc (wipeE e2 vs) t2) noX)
    (fin : ∀ acc e t, I [] acc e t → Q acc e t) : ∀ rest acc e t, I rest acc e t → wDcL g tt wk wv vs rest acc e t Q
  | [], acc, e, t, h => fin acc e t h
  | d :: rest, acc, e, t, h => step d rest acc (fun acc e t => wDcL g tt wk wv vs rest acc e t Q) e t (fun acc e t q => dcL_ind I step fin rest acc e t q) h
end
end VL

set_option Elab.async false
set_option linter.all false
set_option maxRecDepth 100000
set_option maxHeartbeats 1000000
namespace VL
open PySem PySem.Spec PyProof.Rows L2

/-! a law's source of numbers: a dict and its list, as a world -/
structure Src where
  a : Addr
  b : Addr
  cells : List Int
  left : Int
  mixed : Int
  turn : Int
abbrev Th1 := Option Src
def srcK (s : Src) : List (Key × V) := [(.inr "cells", .ref s.b), (.inr "left", .int s.left), (.inr "mixed", .int s.mixed), (.inr "turn", .int s.turn)]
def srcJ : Th1 → Hp → Prop
  | none, _ => True
  | some s, H => s.a ≠ s.b ∧ H s.a = some (.dK (srcK s)) ∧ H s.b = some (.lst (s.cells.map V.int))
def srcFp : Th1 → List Addr
  | none => []
  | some s => [s.a, s.b]
def srcW : Wd Th1 where
  fp := srcFp
  J t _ H := srcJ t H
  stab {t F F' H H'} h _ q := by
    cases t with
    | none => trivial
    | some s =>
      obtain ⟨h1, h2, h3⟩ := h
      exact ⟨h1, by rw [q s.a (by simp [srcFp])]; exact h2, by rw [q s.b (by simp [srcFp])]; exact h3⟩
def srcGet (s : Src) (k : Str) : Option Int := if k = "left" then some s.left else if k = "mixed" then some s.mixed else if k = "turn" then some s.turn else none
def srcPut (s : Src) (k : Str) (v : Int) : Option Src := if k = "left" then some { s with left := v } else if k = "mixed" then some { s with mixed := v } else if k = "turn" then some { s with turn := v } else none
theorem srcK_get {s : Src} {k : Str} {v : Int} (h : srcGet s k = some v) : valV (srcK s) (Sum.inr k) = some (.int v) := by
  unfold srcGet at h
  split at h
  · rename_i e; subst e; cases h; rfl
  · split at h
    · rename_i e; subst e; cases h; rfl
    · split at h
      · rename_i e; subst e; cases h; rfl
      · cases h
theorem srcK_put {s s' : Src} {k : Str} {v : Int} (h : srcPut s k v = some s') : putK (srcK s) (Sum.inr k) (.int v) = srcK s' ∧ s'.a = s.a ∧ s'.b = s.b ∧ s'.cells = s.cells := by
  unfold srcPut at h
  split at h
  · rename_i e; subst e; cases h; exact ⟨by rfl, rfl, rfl, rfl⟩
  · split at h
    · rename_i e; subst e; cases h; exact ⟨by rfl, rfl, rfl, rfl⟩
    · split at h
      · rename_i e; subst e; cases h; exact ⟨by rfl, rfl, rfl, rfl⟩
      · cases h
section
variable {K : PySem.W.Frag} {H0 F0 : Hp} {t0 : Th1} {W : WX} {X : Cx} {pos p pv apos cpos : Pos} {x k : Str} {j : Nat} {F H : Hp} {t : Th1} {e : Ev} {σ : L2.St}
theorem src_at {s : Src} (S : SR ⟨K, srcW, H0, F0, t0⟩ F (some s) e σ H) {i : Nat} (h : e[i]? = some (.sh (.han s.a))) : σ[i]? = some (some (.ref s.a)) ∧ s.a ≠ s.b ∧ H s.a = some (.dK (srcK s)) ∧ H s.b = some (.lst (s.cells.map V.int)) := by
  obtain ⟨v, ev, rv⟩ := S.sh i _ h
  unfold Rep at rv
  subst rv
  exact ⟨ev, S.af.j⟩
/-- source['left'], .. -/
def wSrc (i : Nat) (k : Str) : WE Th1 := fun e t Q _ => match t with
  | some s => e[i]? = some (.sh (.han s.a)) ∧ ∃ v, srcGet s k = some v ∧ Q (.int v) e t
  | none => False
theorem de_src (i : Nat) (hu : X.A.units + 1 < cLine) (hN : X.N[i]? = some x := by rfl) (hv : Vis X.env.scope x := by first | exact Or.inl rfl | exact Or.inr (Or.inl rfl) | exact Or.inr (Or.inr rfl)) (hd : (x == ("__debug__" : Str)) = false := by decide) (hcd : (x == ("__classdict__" : Str)) = false := by decide) (hs : PlainIx (.Constant (.str k) j p) := by intro _ _; rfl) :
    PE X (.Subscript (.Name x pv) (.Constant (.str k) j p) pos) (liftE ⟨K, srcW, H0, F0, t0⟩ W (wSrc i k)) := weakE (pe_ix (ix_dct hu) (pe_var hN hv hd hcd) pe_str hs) (by
  rintro σ H Q ⟨F, t, e, Qd, Ed, S, eo, hw, hq⟩
  cases t with
  | none => exact hw.elim
  | some s =>
    obtain ⟨h1, v, h2, q⟩ := hw
    obtain ⟨ev, _, ha, _⟩ := src_at S h1
    exact ⟨.ref s.a, ev, s.a, .int v, rfl, (by rw [← srcK_get h2]; exact DGet.k (k := Sum.inr k) ha), hq _ H F _ e (.int v) S .refl (rep_int.mpr rfl) q⟩)
/-- len(source['cells']) -/
def wSrcLen (i : Nat) : WE Th1 := fun e t Q _ => match t with
  | some s => e[i]? = some (.sh (.han s.a)) ∧ Q (.int s.cells.length) e t
  | none => False
theorem de_srcLen (i : Nat) {pl pn : Pos} (hu : X.A.units + 1 < cLine) (hm : X.mg "len" = none) (hN : X.N[i]? = some x := by rfl) (hv : Vis X.env.scope x := by first | exact Or.inl rfl | exact Or.inr (Or.inl rfl) | exact Or.inr (Or.inr rfl)) (hd : (x == ("__debug__" : Str)) = false := by decide) (hcd : (x == ("__classdict__" : Str)) = false := by decide) (hs : PlainIx (.Constant (.str "cells") j p) := by intro _ _; rfl)
    (hg : Gl X "len" := by rfl) (he : starEach [.Subscript (.Name x pv) (.Constant (.str "cells") j p) pos] X.env = (false, eval (.Subscript (.Name x pv) (.Constant (.str "cells") j p) pos) X.env) :: starEach [] X.env := by rfl) (hpl : (backTo pl (starEach [] X.env)).any (·.1) = false := by rfl) :
    PE X (.Call (.Name "len" pn) [.Subscript (.Name x pv) (.Constant (.str "cells") j p) pos] [] pl) (liftE ⟨K, srcW, H0, F0, t0⟩ W (wSrcLen i)) := weakE (pe_callB call_len_seq hg hm (by decide +kernel) (pa_cons (pe_ix (ix_dct hu) (pe_var hN hv hd hcd) pe_str hs) pa_nil he) (by decide) (by decide) he hpl) (by
  rintro σ H Q ⟨F, t, e, Qd, Ed, S, eo, hw, hq⟩
  cases t with
  | none => exact hw.elim
  | some s =>
    obtain ⟨h1, q⟩ := hw
    obtain ⟨ev, _, ha, hb⟩ := src_at S h1
    refine ⟨.ref s.a, ev, s.a, .ref s.b, rfl, DGet.k (k := Sum.inr "cells") ha, s.b, _, rfl, .inl (SqL.of hb), ?_⟩
    rw [List.length_map]
    exact hq _ H F _ e _ S .refl (rep_int.mpr rfl) q)
/-- source['cells'].pop() -/
def wSrcPop (i : Nat) : WE Th1 := fun e t Q _ => match t with
  | some s => e[i]? = some (.sh (.han s.a)) ∧ ∃ v, s.cells.getLast? = some v ∧ Q (.int v) e (some { s with cells := s.cells.dropLast })
  | none => False
theorem de_srcPop (i : Nat) (hK : K = X.K) (hu : X.A.units + 1 < cLine) (hN : X.N[i]? = some x := by rfl) (hv : Vis X.env.scope x := by first | exact Or.inl rfl | exact Or.inr (Or.inl rfl) | exact Or.inr (Or.inr rfl)) (hd : (x == ("__debug__" : Str)) = false := by decide) (hcd : (x == ("__classdict__" : Str)) = false := by decide) (hs : PlainIx (.Constant (.str "cells") j p) := by intro _ _; rfl)
    (hbase : attributeBase (.Subscript (.Name x pv) (.Constant (.str "cells") j p) pos) "pop" X.env (eval (.Subscript (.Name x pv) (.Constant (.str "cells") j p) pos) X.env) = eval (.Subscript (.Name x pv) (.Constant (.str "cells") j p) pos) X.env := by rfl) (hline : (apos.endLine == cpos.line) = true := by rfl) :
    PE X (.Call (.Attribute (.Subscript (.Name x pv) (.Constant (.str "cells") j p) pos) "pop" apos) [] [] cpos) (liftE ⟨K, srcW, H0, F0, t0⟩ W (wSrcPop i)) := weakE (pe_bm0 PySem.F.plainAttrs_list PySem.F.slot_list_pop PySem.F.type_list_pop mt_pop (pe_ix (ix_dct hu) (pe_var hN hv hd hcd) pe_str hs) hbase hline) (by
  rintro σ H Q ⟨F, t, e, Qd, Ed, S, eo, hw, hq⟩
  cases t with
  | none => exact hw.elim
  | some s =>
    obtain ⟨h1, v, h2, q⟩ := hw
    obtain ⟨ev, hne, ha, hb⟩ := src_at S h1
    refine ⟨.ref s.a, ev, s.a, .ref s.b, rfl, DGet.k (k := Sum.inr "cells") ha, .inl ⟨rfl, _, SqL.of hb⟩, s.b, _, .int v, rfl, rfl, hb, ?_, ?_⟩
    · rw [List.length_map, List.getElem?_map, ← List.getLast?_eq_getElem?, h2]; rfl
    · have hm : s.b ∈ srcW.fp (some s) := by simp [srcW, srcFp]
      have nt : NT (.lst (s.cells.map V.int).dropLast) := fun _ z => by cases z
      have hj : srcW.J (some { s with cells := s.cells.dropLast }) F (upd H s.b (.lst (s.cells.map V.int).dropLast)) := ⟨hne, by rw [upd_ne hne]; exact ha, by rw [upd_same, List.map_dropLast]⟩
      exact hq _ _ F _ e (.int v) (S.wrld (t' := some { s with cells := s.cells.dropLast }) hm nt (fun a ha => ha) hj) (Stp.wrld hm fun a ha => ha) (rep_int.mpr rfl) q)
/-- source['left'] = e -/
def wSrcSet (i : Nat) (k : Str) (we : WE Th1) : WS Th1 := fun n e t => we e t (fun d e1 t1 => match t1, d with
  | some s, .int v => e1[i]? = some (.sh (.han s.a)) ∧ ∃ s', srcPut s k v = some s' ∧ n.nx e1 (some s')
  | _, _ => False) n.ex
theorem ds_srcSet (i : Nat) {ex : Expr} {we : WE Th1} (hu : X.A.units + 1 < cLine) (he : PE X ex (liftE ⟨K, srcW, H0, F0, t0⟩ W we)) (hN : X.N[i]? = some x := by rfl) (hv : Vis X.env.scope x := by first | exact Or.inl rfl | exact Or.inr (Or.inl rfl) | exact Or.inr (Or.inr rfl)) (hd : (x == ("__debug__" : Str)) = false := by decide) (hcd : (x == ("__classdict__" : Str)) = false := by decide)
    (hs : swapsWith ex (some (.Subscript (.Name x pv) (.Constant (.str k) j p) cpos)) pos.line X.env = pure false := by rfl) : PS X (.Assign [.Subscript (.Name x pv) (.Constant (.str k) j p) cpos] ex pos) (liftS ⟨K, srcW, H0, F0, t0⟩ W (wSrcSet i k we)) := weakS (ps_dput hu (pe_var hN hv hd hcd) pe_str he hs) (by
  rintro n σ H ⟨F, t, e, m, S, eo, hw, h1, h2, h3, h4⟩
  refine ⟨F, t, e, _, m.ex, S, eo σ, hw, fun v H1 F1 t1 e1 d S1 L1 r1 q1 => ?_⟩
  cases t1 with
  | none => exact q1.elim
  | some s =>
    cases d with
    | int v' =>
      obtain ⟨ei, s', hp, q⟩ := q1
      obtain ⟨ev, hne, ha, hb⟩ := src_at S1 ei
      obtain ⟨z1, z2, z3, z4⟩ := srcK_put hp
      have hv1 : v = .int v' := (rep_int (K := K) (F := F1)).mp r1
      subst hv1
      refine ⟨.ref s.a, ev, s.a, _, rfl, DPut.k (k := Sum.inr k) ha (by show 4 < sizeLine; decide), ?_⟩
      have hm : s.a ∈ srcW.fp (some s) := by simp [srcW, srcFp]
      have nt : NT (.dK (putK (srcK s) (Sum.inr k) (.int v'))) := fun _ z => by cases z
      have hj : srcW.J (some s') F1 (upd H1 s.a (.dK (putK (srcK s) (Sum.inr k) (.int v')))) := ⟨by rw [z2, z3]; exact hne, by rw [z2, upd_same, z1], by rw [z3, z4, upd_ne hne.symm]; exact hb⟩
      exact h1 σ _ F1 _ e1 (S1.wrld (t' := some s') hm nt (fun a ha => by simpa [srcW, srcFp, z2, z3] using ha) hj) L1.le q
    | _ => exact q1.elim)
/-- the source is born: two objects of ours become the world -/
theorem SR.birth {s : Src} (S : SR ⟨K, srcW, H0, F0, t0⟩ F none e σ H) (ha : H0 s.a = none ∧ F s.a = none ∧ ¬ InSl e σ s.a) (hb : H0 s.b = none ∧ F s.b = none ∧ ¬ InSl e σ s.b) (j : srcJ (some s) H) : SR ⟨K, srcW, H0, F0, t0⟩ F (some s) e σ H := by
  have cs : ∀ c ∈ srcW.fp (some s), H0 c = none ∧ F c = none ∧ ¬ InSl e σ c := fun c hc => by
    have : c = s.a ∨ c = s.b := by simpa [srcW, srcFp] using hc
    rcases this with z | z
    · rw [z]; exact ha
    · rw [z]; exact hb
  refine ⟨⟨S.af.le, S.af.sub, S.af.new, S.af.same, S.af.there, fun c hc => ?_, j⟩, S.len, S.sh, fun i d h => ?_, S.sep⟩
  · obtain ⟨z1, z2, _⟩ := cs c hc
    refine ⟨z2, ?_, .inr z1⟩
    have : c = s.a ∨ c = s.b := by simpa [srcW, srcFp] using hc
    rcases this with z | z
    · rw [z]; exact ⟨_, j.2.1, fun _ z => by cases z⟩
    · rw [z]; exact ⟨_, j.2.2, fun _ z => by cases z⟩
  · obtain ⟨a, e1, ow, n, _⟩ := S.ow i d h
    exact ⟨a, e1, ow, n, fun hm => (cs a hm).2.2 ⟨i, d, h, e1⟩⟩
def wSrcNew (wc : WR Th1) (wl wm wt : WE Th1) : WR Th1 := fun e t Q E => wc e t (fun r e1 t1 => wl e1 t1 (fun d1 e2 t2 => wm e2 t2 (fun d2 e3 t3 => wt e3 t3 (fun d3 e4 t4 => match r, d1, d2, d3 with
  | .ow (.lst l), .int left, .int mixed, .int turn => t4 = none ∧ ∃ cells, l = intsD cells ∧ ∀ a b, Q (.sh (.han a)) e4 (some ⟨a, b, cells, left, mixed, turn⟩)
  | _, _, _, _ => False) E) E) E) E
theorem dr_srcNew {ec el em et : Expr} {j1 j2 j3 j4 : Nat} {p1 p2 p3 p4 : Pos} {wc : WR Th1} {wl wm wt : WE Th1} (hc : PE X ec (liftR ⟨K, srcW, H0, F0, t0⟩ W wc)) (hl : PE X el (liftE ⟨K, srcW, H0, F0, t0⟩ W wl)) (hm : PE X em (liftE ⟨K, srcW, H0, F0, t0⟩ W wm)) (ht : PE X et (liftE ⟨K, srcW, H0, F0, t0⟩ W wt)) :
    PE X (.Dict [some (.Constant (.str "cells") j1 p1), some (.Constant (.str "left") j2 p2), some (.Constant (.str "mixed") j3 p3), some (.Constant (.str "turn") j4 p4)] [ec, el, em, et] pos) (liftR ⟨K, srcW, H0, F0, t0⟩ W (wSrcNew wc wl wm wt)) :=
  weakE (pe_disp (pps_cons pe_str hc (pps_cons pe_str hl (pps_cons pe_str hm (pps_cons pe_str ht pps_nil)))) rfl rfl (fun z => by cases z) (Nat.le_of_ble_eq_true rfl)) (by
  rintro σ H Q ⟨F, t, e, Qd, Ed, S, eo, hw, hq⟩ p hp
  have S0 := S.loose (o := .dK []) hp
  refine ⟨F, t, e, _, Ed, S0, eo, hw, fun x H1 F1 t1 e1 r S1 L1 r1 n1 q1 => ?_⟩
  refine ⟨F1, t1, e1, _, Ed, S1, eo, q1, fun x2 H2 F2 t2 e2 d1 S2 L2' r2 q2 => ?_⟩
  refine ⟨F2, t2, e2, _, Ed, S2, eo, q2, fun x3 H3 F3 t3 e3 d2 S3 L3 r3 q3 => ?_⟩
  refine ⟨F3, t3, e3, _, Ed, S3, eo, q3, fun x4 H4 F4 t4 e4 d3 S4 L4 r4 q4 => ?_⟩
  have L14 := (L2'.trans L3).trans L4
  have L04 := L1.trans L14
  obtain ⟨k1, k2, _, _, h0p, k3, ns⟩ := S.keepNew (o' := .dK []) hp (fun _ z => by cases z) S4 L04 fun _ => trivial
  cases r with
  | sh d => exact q4.elim
  | ow d =>
    cases d with
    | lst l =>
      cases d1 with
      | int left =>
        cases d2 with
        | int mixed =>
          cases d3 with
          | int turn =>
            obtain ⟨et4, cells, el, q⟩ := q4
            subst et4 el
            obtain ⟨b, rfl, ob, h0b, hfb, hsb⟩ := (show RepR _ F4 none e4 σ H4 (.ow (.lst (intsD cells))) x from r1.step L14)
            obtain ⟨fb, vs, hb, rb⟩ := ob
            rw [repL_ints rb] at hb
            have v2 : x2 = .int left := (rep_int (K := K) (F := F2)).mp r2
            have v3 : x3 = .int mixed := (rep_int (K := K) (F := F3)).mp r3
            have v4 : x4 = .int turn := (rep_int (K := K) (F := F4)).mp r4
            subst v2 v3 v4
            have hpb : p ≠ b := fun z => by
              subst z
              rw [k1] at hb
              cases hb
            refine ⟨k1, srcK ⟨p, b, cells, left, mixed, turn⟩, rfl, by show 4 ≤ 15; decide, ?_⟩
            have em : mergeK [] (srcK ⟨p, b, cells, left, mixed, turn⟩) = srcK ⟨p, b, cells, left, mixed, turn⟩ := by rfl
            rw [em]
            have S5 : SR ⟨K, srcW, H0, F0, t0⟩ F4 none e4 σ (upd H4 p (.dK (srcK ⟨p, b, cells, left, mixed, turn⟩))) := S4.write h0p k3 k2 (fun c hc => upd_ne hc) (fun _ _ => rfl) (fun u z => by rw [k2] at z; cases z) ⟨_, upd_same⟩ fun i d h1 h2 => ns ⟨i, d, h1, h2⟩
            have hj : srcJ (some ⟨p, b, cells, left, mixed, turn⟩) (upd H4 p (.dK (srcK ⟨p, b, cells, left, mixed, turn⟩))) := ⟨hpb, upd_same, by rw [upd_ne (Ne.symm hpb)]; exact hb⟩
            have S6 := S5.birth (s := ⟨p, b, cells, left, mixed, turn⟩) ⟨h0p, k2, ns⟩ ⟨h0b, fb, fun ⟨i, d, h1, h2⟩ => hsb i d h1 h2⟩ hj
            have L0 : Stp ⟨K, srcW, H0, F0, t0⟩ σ F t e H F4 none e4 H4 := (Stp.loose hp).trans L04
            refine hq (.ref p) _ F4 _ e4 (.sh (.han p)) S6 ⟨L0.le, fun c o z => ?_, L0.own, fun c o z1 nt z2 z3 z4 => ?_⟩ (by unfold RepR Rep; rfl) trivial (q p b)
            · by_cases hc : c = p
              · subst hc; exact ⟨_, upd_same⟩
              · rw [upd_ne hc]; exact L0.there c o z
            · obtain ⟨w1, w2, w3⟩ := L0.keep c o z1 nt z2 z3 z4
              have hcp : c ≠ p := fun z => by subst z; rw [hp] at z1; cases z1
              have hcb : c ≠ b := fun z => by
                subst z
                rcases n1 c rfl with y | y
                · rw [upd_ne hcp, z1] at y; cases y
                · exact z4 y
              exact ⟨by rw [upd_ne hcp]; exact w1, w2, by simp [srcW, srcFp, hcp, hcb]⟩
          | _ => exact q4.elim
        | _ => exact q4.elim
      | _ => exact q4.elim
    | _ => exact q4.elim)
end
end VL

set_option Elab.async false
set_option linter.all false
set_option maxRecDepth 100000
set_option maxHeartbeats 1000000
namespace VL
open PySem PySem.Spec PyProof.Rows L2
section
variable {k : Nat} {A : Around}
theorem ru0 (hr : Room k A) : A.units < cLine := by have h := hr.un; omega
theorem ru1 (hr : Room k A) : A.units + 1 < cLine := by have h := hr.un; omega
theorem ru64 (hr : Room k A) : A.units + 64 < cLine := by have h := hr.un; omega
theorem ru65 (hr : Room k A) : A.units + 65 < cLine := by have h := hr.un; omega
end
/-- repr(..): of a number, of a text -/
def gRepr : GL := fun ds k => match ds with
  | [.int i] => i.natAbs.log2 < 1920 ∧ k (.sh (.str (toString i)))
  | [.str x] => (reprText x).length ≤ sizeLine ∧ k (.sh (.str (reprText x)))
  | _ => False
def rRepr : List V → Hp → VK → Prop := fun xs H Q => (∃ i, xs = [.int i] ∧ i.natAbs.log2 < 1920 ∧ Q (.str (toString i)) H) ∨ ∃ x, xs = [.str x] ∧ (reprText x).length ≤ sizeLine ∧ Q (.str (reprText x)) H
theorem call_repr_text {X : Cx} : CallR X (.builtin "repr") fun xs H Q => ∃ x, xs = [.str x] ∧ (reprText x).length ≤ sizeLine ∧ Q (.str (reprText x)) H := fun pins s σ H xs us Q I r h => by
  obtain ⟨x, ex, hz, q⟩ := h
  subst ex
  obtain ⟨u, eu, t, et⟩ := vals1 r
  subst eu
  subst et
  exact PySem.P.repr_of_str (hsz := hz) ⟨.str _, H, I.tok _, ⟨_, rfl⟩, q⟩
theorem call_reprA {X : Cx} : CallR X (.builtin "repr") rRepr := CallR.or SkE.call_repr_int call_repr_text
theorem ok_repr {K : PySem.W.Frag} : OkL K rRepr gRepr := by
  intro F H xs ds k Q s r hg hk
  unfold gRepr at hg
  split at hg
  · obtain ⟨x, rfl, h⟩ := redL1 r
    exact .inl ⟨_, by rw [red_int h], hg.1, hk _ _ _ (mk_str _) hg.2⟩
  · obtain ⟨x, rfl, h⟩ := redL1 r
    exact .inr ⟨_, by rw [red_str h], hg.1, hk _ _ _ (mk_str _) hg.2⟩
  · exact hg.elim
/-- repr of a list of numbers, where no repr is under way -/
def showI (ns : List Int) : Str := (PyData.list (ns.map .int)).shown
def gReprL : GL := fun ds k => match ds with
  | [.lst l] => ∃ ns, l = intsD ns ∧ (∀ n ∈ ns, n.natAbs.log2 < 1920) ∧ (showI ns).length ≤ sizeLine ∧ k (.sh (.str (showI ns)))
  | _ => False
def rReprL (K : PySem.W.Frag) : List V → Hp → VK → Prop := fun xs H Q => ∃ p ns, xs = [.ref p] ∧ SqL K H p (ns.map V.int) ∧ (∀ n ∈ ns, n.natAbs.log2 < 1920) ∧ (showI ns).length ≤ sizeLine ∧ Q (.str (showI ns)) H
theorem showableI : ∀ {ns : List Int}, (∀ n ∈ ns, n.natAbs.log2 < 1920) → PyData.showableAll (ns.map .int) = true
  | [], _ => rfl
  | n :: ns, h => by
    have h1 := h n (List.mem_cons_self ..)
    have h2 := showableI fun m hm => h m (List.mem_cons_of_mem _ hm)
    simp [PyData.showableAll, PyData.showable, h1, h2]
theorem nodictI : ∀ {ns : List Int}, PyData.hasDictAll (ns.map .int) = false
  | [] => rfl
  | n :: ns => by simp [PyData.hasDictAll, PyData.hasDict, nodictI (ns := ns)]
theorem depthI : ∀ {ns : List Int}, PyData.depthAll (ns.map .int) ≤ 1
  | [] => by simp [PyData.depthAll]
  | n :: ns => by
    have := depthI (ns := ns)
    simp only [List.map_cons, PyData.depthAll, PyData.depth]
    omega
theorem readsI {h : Heap} : ∀ {ns : List Int} {vs : List Value}, Vals (ns.map V.int) vs → ReadsAll h vs (ns.map .int) []
  | [], vs, r => by cases r; exact .nil
  | n :: ns, vs, r => by
    cases r with
    | cons r1 r2 =>
      obtain ⟨t, rfl⟩ := r1
      exact .cons (.int n t) (readsI r2)
theorem call_reprLA {X : Cx} (hg : X.A.guards = some []) (hu : X.A.units + 65 < cLine) : CallR X (.builtin "repr") (rReprL X.K) := fun pins s σ H xs us Q I r h => by
  obtain ⟨p, ns, ex, hs, hi, hz, q⟩ := h
  subst ex
  obtain ⟨u, eu, et⟩ := vals1 r
  subst eu
  cases et
  obtain ⟨its, rv, ⟨o, n, ho, hc, hd, hdat⟩, _⟩ := I.list hs
  refine repr_of_reads' (h₀ := s.heap) (d := .list (ns.map .int)) (as := [p]) (.list ho hc hdat (readsI rv)) ?_ (PyData.noDict_hsm ?_) hg ?_ (fun b o e => e) (fun h' u tk hk => ⟨.str _, H, I.kept hk, ⟨_, rfl⟩, q⟩) hz
  · simp only [PyData.showable]; exact showableI hi
  · simp only [PyData.hasDict]; exact nodictI
  · have := depthI (ns := ns)
    simp only [PyData.depth]
    omega
theorem ok_reprL {K : PySem.W.Frag} : OkL K (rReprL K) gReprL := by
  intro F H xs ds k Q s r hg hk
  unfold gReprL at hg
  split at hg
  · obtain ⟨x, rfl, h⟩ := redL1 r
    obtain ⟨p, vs, rfl, h1, r1⟩ := red_lst h
    obtain ⟨ns, rfl, hi, hz, q⟩ := hg
    rw [repL_ints r1] at h1
    exact ⟨p, ns, rfl, SqL.of h1, hi, hz, hk _ _ _ (mk_str _) q⟩
  · exact hg.elim
end VL

set_option Elab.async false
set_option linter.all false
set_option maxRecDepth 100000
set_option maxHeartbeats 1000000
namespace VL
open PySem PySem.Spec PyProof.Rows L2
/-! a def that is called where no repr is under way, and the law's call with this known -/
/-- the promise of a def at one place of a call -/
def RunAt (P : Program) (w : World) (K : PySem.W.Frag) (mg : Str → Option Value) (base : Heap) (A : Around) (f : Addr) (fd : FuncData) (ps : List Str) (sp : Sp) : Prop :=
  ∀ (outer : List Env) (s : Shared) (H : Hp) (args : Args) (us : List Value) (vs : List V) (Q : VK) (E : XK),
    Env0 P w K mg base A outer s H → BindsTo s fd args (ps.zip us) → Vals vs us → sp vs H Q E → codeAny (model P w) A (.call (.ref f) args) (CR (L2.CX P w) outer P w H s Q E) s
section
variable {P : Program} {w : World} {K : PySem.W.Frag} {mg : Str → Option Value} {base : Heap}
theorem run_at {x qual : Str} {st : Stmt} {f : Addr} {fd : FuncData} {N ps : List Str} {k : Nat} {sp : Sp} {A : Around} (Fn : Fun K x qual st f fd) (S : FnScope N ps (defScope st)) (room : Room (k + 1) A) (len : ∀ vs H Q E, sp vs H Q E → vs.length = ps.length)
    (body : ∀ (cdv : Value) (outer : List Env) (s : Shared) (H : Hp) (vs : List V) (Q : VK) (E : XK), sp vs H Q E →
      ∃ t, PSs (cxOf (L2.CX P w) P w K mg base N qual (defScope st) f cdv A outer s H E) (defBody st) t ∧ t { nx := fun _ H' => Q .non H', rt := Q } (L2.start N vs) H) : RunAt P w K mg base A f fd ps sp := by
  obtain ⟨oc, od, kV, doc, pm, an, cdv, ct, osl, efd, look, code⟩ := Fn.ex
  subst efd
  intro outer s H args us vs Q E env bind rel hq
  have many := len vs H Q E hq
  have inK : K.In s.heap := env.mod.kin.keeps fun b o e => (env.bs b o e).1
  have free : s.heap.NoLimit := env.mod.nolimit.keeps fun b o e => (env.bs b o e).1
  have kinds : ∀ z ∈ ps.zip us, (defScope st).names.lookup z.1 = some .local ∨ ((defScope st).names.lookup z.1 = some .cell ∧ ((cellsFrom (s.heap.objs.size + 1) (defScope st).names []).lookup z.1).isSome = true) := by
    rintro ⟨n, v⟩ hz
    cases S.par n (List.of_mem_zip hz).1 with
    | inl loc => exact .inl loc
    | inr cel => exact .inr ⟨cel, PySem.W.cellsFrom_some _ _ _ (.inl cel)⟩
  refine codeAny_call_function room.depth (inK _ _ look) rfl S.co S.gen rfl (PySem.W.codeRec_of inK code) (bind _ _ _ _ (wpAny_newFunctionEnv_cells S.kind kinds ?_))
  intro env1 e1 s1 x
  subst e1
  refine ⟨free.keeps x.toInCall.keep, codeAny_func ?_⟩
  obtain ⟨t, run, ht⟩ := body cdv outer s H vs Q E hq
  have J0 : Inv (cxOf (L2.CX P w) P w K mg base N qual (defScope st) f cdv A outer s H E) [] (L2.start N vs) H s1 := inv_start S room.hd env many rel x
  refine wpAny_mono (run.run [] s1 (L2.start N vs) H _ J0 ht) (fun fl s' done => ?_) fun e s' h => h
  cases fl with
  | next =>
    obtain ⟨σ', H', J, q⟩ := done
    exact ⟨.non, H', J.os, J.bare, J.base, J.hok, rfl, q⟩
  | ret u =>
    obtain ⟨v, σ', H', J, rv, q⟩ := done
    exact ⟨v, H', J.os, J.bare, J.base, J.hok, rv, q⟩
  | brk => exact done.elim fun _ h => h.elim fun _ h => h.2.elim
  | cont => exact done.elim fun _ h => h.elim fun _ h => h.2.elim
/-- a def by its body, at a place of which something is known -/
theorem okAt {Th : Type} {M : Wd Th} {x qual : Str} {st : Stmt} {f : Addr} {fd : FuncData} {N ps : List Str} {k : Nat} {wb : WS Th} {c : Ct Th} {A : Around} (G : Fun K x qual st f fd) (S : FnScope N ps (defScope st)) (room : Room (k + 1) A)
    (hbody : ∀ (cdv : Value) (outer : List Env) (s : Shared) (H F : Hp) (t : Th) (E : XK), Room k (A.deeper (envOfC qual (defScope st) s.heap.objs.size f cdv)) →
      PSs (cxOf (L2.CX P w) P w K mg base N qual (defScope st) f cdv A outer s H E) (defBody st) (liftS ⟨K, M, H, F, t⟩ (fun cls d _ H' => E cls d H') wb))
    (hc : ∀ ds t Q E, c ds t Q E → bodyC N ps.length wb ds t Q E) : RunAt P w K mg base A f fd ps (spD K M c) := by
  refine run_at G S room (fun vs H Q E h => ?_) fun cdv outer s H vs Q E h => ?_
  · obtain ⟨F, t, ds, Qc, Ec, ss, j, hf, r, q, _⟩ := imD hc h
    rw [r.length]
    exact q.1
  · obtain ⟨F, t, ds, Qc, Ec, ss, j, hf, r, q, hq, he⟩ := h
    exact ⟨_, hbody cdv outer s H F t E (room.deeper _), body_reads ss j hf r (hc _ _ _ _ q) hq he⟩
end
end VL

set_option Elab.async false
set_option linter.all false
set_option maxRecDepth 100000
set_option maxHeartbeats 1000000
namespace VL
open PySem PySem.Spec PyProof.Rows L2
/-- the heap in which the script alone may be tracked -/
def OneH (a : Addr) (o : Obj) (l : List V) : Hp := fun b => if b = a then some (.frz o (.lst l)) else none
theorem oneH_at {a : Addr} {o : Obj} {l : List V} : OneH a o l a = some (.frz o (.lst l)) := if_pos rfl
theorem oneH_other {a b : Addr} {o : Obj} {l : List V} (h : b ≠ a) : OneH a o l b = none := if_neg h
/-- the law's call at its only place, from an abstract heap -/
theorem law_run {P : Program} {w : World} {K : PySem.W.Frag} {mg mb : Str → Option Value} {fa a : Addr} {fd : FuncData} {x : Str} {sp : Sp} {s₁ : Shared} {o : Obj} {H : Hp} {vs : List Value}
    (inK : K.In s₁.heap) (nsG : s₁.heap.Ns mainGlobals mg) (nsB : s₁.heap.Ns builtinsNs mb) (boot : ∀ y : Str, y ≠ "__name__" → mb y = bootBuiltins y) (free : s₁.heap.NoLimit) (nogen : s₁.gens = #[])
    (obj : s₁.heap.get? a = some o) (seq : o.data = .seq vs.toArray 0) (all : ∀ base : Heap, K.In base → base.Ns mainGlobals mg → RunAt P w K mg base callerA fa fd [x] sp) (bind : ∀ (s : Shared) (u : Value), BindsTo s fd ⟨[u], []⟩ [(x, u)])
    (only : Only H) (track : ∀ b, H b ≠ none → b = a) (own : H a ≠ none → K.lookup a = none) (hok : HOk P w H s₁.heap) (hq : sp [.ref a] H (fun v _ => v = .bl true) fun _ _ _ => False)
    (nox : ∀ H e s', L2.CX P w [] H s₁ (fun _ _ _ => False) e s' → False) :
    codeAny (model P w) callerA (.call (.ref fa) ⟨[.ref a], []⟩) (fun r s' => r = .ok (.ret (.bool true)) ∧ OldK s₁.heap s'.heap ∧ s'.os = s₁.os ∧ AllBare s'.gens) s₁ := by
  have see : ∀ {b : Addr} {u : Obj}, s₁.heap.get? b = some u → H b = none → (hidT s₁.heap H).get? b = some u := fun h n => hidT_get h n
  have dicts : ∀ {b : Addr} {u : Obj} {es : Array DictEntry} {ep : Nat}, s₁.heap.get? b = some u → u.data = .dict es ep → H b = none := by
    intro b u es ep hu hd
    refine Classical.byContradiction fun hne => ?_
    cases track b hne
    rw [obj] at hu
    cases hu
    rw [seq] at hd
    cases hd
  have spaces : ∀ {b : Addr} {m : Str → Option Value}, s₁.heap.Ns b m → (hidT s₁.heap H).Ns b m := by
    rintro b m ⟨u, es, ep, h, d, rest⟩
    exact ⟨u, es, ep, see h (dicts h d), d, rest⟩
  have inB : K.In (hidT s₁.heap H) := by
    intro b u h
    refine see (inK b u h) (Classical.byContradiction fun hne => ?_)
    cases track b hne
    rw [own hne] at h
    cases h
  obtain ⟨mc, lim1, lim2⟩ := free
  have env : Env0 P w K mg (hidT s₁.heap H) callerA [] s₁ H := ⟨rfl, ⟨inB, spaces nsG, ⟨mb, spaces nsB, boot⟩, ⟨mc, spaces lim1, lim2⟩⟩, fun b u h => of_hidT h, Nat.le_of_eq (hidT_size _ _), trivial, fun b h => (nomatch h), hok, .of_eq nogen⟩
  refine codeAny_mono (all _ inB (spaces nsG) [] s₁ H ⟨[.ref a], []⟩ [.ref a] [.ref a] _ _ env (bind s₁ (.ref a)) (.cons rfl .nil) hq) fun r s' res => ?_
  match r, res with
  | .error e, res => exact (nox H e s' res).elim
  | .ok (.ret u), ⟨v, H', os, bare, un, hok', rel, hv⟩ =>
    have hv' : v = .bl true := hv
    subst hv'
    cases (show u = Value.bool true from rel)
    refine ⟨rfl, .of_keep fun b z hz => ?_, os, bare⟩
    by_cases hn : H b = none
    · exact un.keep b z hz hn (fun h => nomatch h) (fun h => nomatch h)
    · cases only b with
      | inl n => exact absurd n hn
      | inr fr =>
        obtain ⟨z1, xs, hz1⟩ := fr
        have at0 := (hok b _ hz1).1
        have at1 := (hok' b _ (un.frzs b z1 _ hz1)).1
        rw [hz] at at0
        cases at0
        exact at1
  | .ok .next, res => exact False.elim res
  | .ok .brk, res => exact False.elim res
  | .ok .cont, res => exact False.elim res
/-- the goal case hc, where no repr is under way at the law's call -/
theorem walk_at {l : PySem.W.OpenLaw} {n k : Nat} {q : Program} {loose : List Str} {XP : (Str → Option Value) → Heap → Prop} {YP : World → Heap → Prop} {d : DefRec} {K : Params → PySem.W.Frag} {sp : World → Sp} {x : Str}
    (most : l.most = some n) (fits : n ≤ sizeLine) (nodef : d.params.defaults = []) (inY : ∀ (w : World) (h : Heap), YP w h → (K w.params).In h)
    (run : ∀ (w : World) (mg : Str → Option Value) (fa : Addr) (h : Heap), (K w.params).In h → h.Ns mainGlobals mg → mg d.name = some (.ref fa) →
      ∃ fd : FuncData, (∀ (s : Shared) (u : Value), BindsTo s fd ⟨[u], []⟩ [(x, u)]) ∧ ∀ base : Heap, (K w.params).In base → base.Ns mainGlobals mg → RunAt l.prog w (K w.params) mg base callerA fa fd [x] (sp w))
    (meets : ∀ (w : World) (H : Hp) (a : Addr) (ns : List Int), ns.length ≤ n → (∀ z ∈ ns, Builtin.Int.intBits z ≤ 1048576) → Only H → SqL (K w.params) H a (ns.map V.int) → sp w [.ref a] H (fun v _ => v = .bl true) fun _ _ _ => False)
    (nox : ∀ (w : World) (H : Hp) (s : Shared) (e : Value) (s' : Shared), L2.CX l.prog w [] H s (fun _ _ _ => False) e s' → False) :
    PySem.W.WalkO q loose XP YP l.row.toRowW d [] (fun f vs => PySem.call f vs) := by
  refine Att.attach_callB most nodef ?_
  intro w s₀ s₁ mg mb fa o pm cd doc a vs ns G Y _ _ _ named obj numb many small nogen
  obtain ⟨fd, bind, all⟩ := run w mg fa _ (inY w _ Y) G.T.g named
  have rel := vals_ints numb
  have len : ns.length = vs.length := by have h := rel.length; rwa [List.length_map] at h
  cases hk : (K w.params).lookup a with
  | some o' =>
    have same := inY w _ Y a o' hk
    rw [obj] at same
    cases same
    refine law_run (H := fun _ => none) (inY w _ Y) G.T.g G.T.b G.T.builtins G.T.nolimit nogen obj rfl all bind (fun _ => .inl rfl) (fun b h => absurd rfl h) (fun h => absurd rfl h) (fun b u h => nomatch h) ?_ fun H e s' => nox w H s₁ e s'
    refine meets w _ a ns many small (fun _ => .inl rfl) (.inr ⟨_, vs.toArray, _, hk, rfl, rfl, rfl, ?_, by simpa using rel⟩)
    rw [List.size_toArray, ← len]
    exact Nat.le_trans many fits
  | none =>
    refine law_run (H := OneH a { cls := .type "list", data := .seq vs.toArray } (ns.map V.int)) (inY w _ Y) G.T.g G.T.b G.T.builtins G.T.nolimit nogen obj rfl all bind (fun b => ?_) (fun b h => ?_) (fun _ => hk) (fun b u h => ?_) (meets w _ a ns many small (fun b => ?_) (.inl (.inr ⟨{ cls := .type "list", data := .seq vs.toArray }, oneH_at⟩))) fun H e s' => nox w H s₁ e s'
    · by_cases e : b = a
      · subst e; exact .inr ⟨_, _, oneH_at⟩
      · exact .inl (oneH_other e)
    · exact Classical.byContradiction fun e => h (oneH_other e)
    · by_cases e : b = a
      · subst e
        rw [oneH_at] at h
        cases h
        exact ⟨obj, by rw [List.length_map]; exact Nat.le_trans many fits, vs, _, rel, obj⟩
      · rw [oneH_other e] at h; cases h
    · by_cases e : b = a
      · subst e; exact .inr ⟨_, _, oneH_at⟩
      · exact .inl (oneH_other e)
end VL

set_option Elab.async false
set_option linter.all false
set_option maxRecDepth 100000
set_option maxHeartbeats 1000000
namespace VL
open PySem PySem.Spec PyProof.Rows L2
section
variable {Th : Type} {B : Bs Th} {W : WX} {X : Cx} {pos : Pos} {vs : List Nat} {own : List (Str × Nat)} {scope : Scope} {ifs : List Expr} {tg iter : Expr} {wi : WA Th} {g : WG Th} {tt : WT Th}
/-- as dr_lc, the names' places told -/
theorem dr_lcV {elt : Expr} {we : WE Th} (hN : X.N.Nodup) (hi : PI X tg iter (liftI B W wi)) (ok : BlkOk X.N X.env.scope scope own)
    (hg : ∀ (s : Shared) (H : Hp) (C : Addr) (cl : List (Str × Addr)) (fp : List Addr), PG (X.blk s H scope (compEnvC scope cl C X.env) fp) tg (liftN B vs g))
    (ht : ∀ (s : Shared) (H : Hp) (C : Addr) (cl : List (Str × Addr)) (fp : List Addr), PTs (X.blk s H scope (compEnvC scope cl C X.env) fp) ifs (liftT B NX tt))
    (he : ∀ (s : Shared) (H : Hp) (C : Addr) (cl : List (Str × Addr)) (fp : List Addr), PE (X.blk s H scope (compEnvC scope cl C X.env) fp) elt (liftE B NX we)) (hv : own.map (·.2) = vs := by rfl) (hc : X.calm = true := by rfl) (hs : ∀ x, foldedSetIterable iter X.env x = pure x := by intro _; rfl) :
    PE X (.ListComp elt [⟨tg, iter, ifs, 0⟩] scope pos) (liftR B W (wLc wi g tt we vs)) := by
  subst hv
  exact dr_lc hN hi ok hg ht he hc hs
theorem ds_setLcV {i : Nat} {y : Str} {py spos : Pos} {elt : Expr} {we : WE Th} (hN : X.N.Nodup) (hi : PI X tg iter (liftI B W wi)) (ok : BlkOk X.N X.env.scope scope own)
    (hg : ∀ (s : Shared) (H : Hp) (C : Addr) (cl : List (Str × Addr)) (fp : List Addr), PG (X.blk s H scope (compEnvC scope cl C X.env) fp) tg (liftN B vs g))
    (ht : ∀ (s : Shared) (H : Hp) (C : Addr) (cl : List (Str × Addr)) (fp : List Addr), PTs (X.blk s H scope (compEnvC scope cl C X.env) fp) ifs (liftT B NX tt))
    (he : ∀ (s : Shared) (H : Hp) (C : Addr) (cl : List (Str × Addr)) (fp : List Addr), PE (X.blk s H scope (compEnvC scope cl C X.env) fp) elt (liftE B NX we))
    (hsw : swapsWith (.ListComp elt [⟨tg, iter, ifs, 0⟩] scope pos) (some (.Name y py)) spos.line X.env = pure true) (hv : own.map (·.2) = vs := by rfl) (hy : X.N[i]? = some y := by rfl) (hyl : X.env.scope.names.lookup y = some .local := by rfl) (hc : X.calm = true := by rfl) (hs : ∀ x, foldedSetIterable iter X.env x = pure x := by intro _; rfl) :
    PS X (.Assign [.Name y py] (.ListComp elt [⟨tg, iter, ifs, 0⟩] scope pos) spos) (liftS B W (wSet i (wLc wi g tt we vs))) := by
  subst hv
  exact ds_setLc hN hi ok hg ht he hsw hy hyl hc hs
theorem dr_dcV {kx vx : Expr} {wk wv : WE Th} (hN : X.N.Nodup) (hi : PI X tg iter (liftI B W wi)) (ok : BlkOk X.N X.env.scope scope own)
    (hg : ∀ (s : Shared) (H : Hp) (C : Addr) (cl : List (Str × Addr)) (fp : List Addr), PG (X.blk s H scope (compEnvC scope cl C X.env) fp) tg (liftN B vs g))
    (ht : ∀ (s : Shared) (H : Hp) (C : Addr) (cl : List (Str × Addr)) (fp : List Addr), PTs (X.blk s H scope (compEnvC scope cl C X.env) fp) ifs (liftT B NX tt))
    (hk : ∀ (s : Shared) (H : Hp) (C : Addr) (cl : List (Str × Addr)) (fp : List Addr), PE (X.blk s H scope (compEnvC scope cl C X.env) fp) kx (liftE B NX wk))
    (he : ∀ (s : Shared) (H : Hp) (C : Addr) (cl : List (Str × Addr)) (fp : List Addr), PE (X.blk s H scope (compEnvC scope cl C X.env) fp) vx (liftE B NX wv)) (hv : own.map (·.2) = vs := by rfl) (hc : X.calm = true := by rfl) (hs : ∀ x, foldedSetIterable iter X.env x = pure x := by intro _; rfl) :
    PE X (.DictComp kx vx [⟨tg, iter, ifs, 0⟩] scope pos) (liftR B W (wDc wi g tt wk wv vs)) := by
  subst hv
  exact dr_dc hN hi ok hg ht hk he hc hs
end
end VL

set_option Elab.async false
set_option linter.all false
set_option maxRecDepth 100000
set_option maxHeartbeats 1000000
/-! zip of a list and a tuple -/
namespace VL
open PySem
open PySem.Sem (wp)
section
variable {prog : Program} {w : World} {A : Around} {E : Value → Shared → Prop} {s : Shared}
theorem zipM_next_item {z TI TO i1 i2 l1 l2 : Addr} {k1 k2 : Nat} {xs ys : Array Value} {x y a b : Value} {Q : Value → Shared → Prop} (D : ZipApart z TI TO i1 i2 l1 l2)
    (pz : IsZip s.heap z TI TO .none) (pI : IsPair s.heap TI (.ref i1) (.ref i2)) (pO : IsPair s.heap TO a b)
    (h1 : s.heap.IsListIter i1 l1 k1) (h2 : s.heap.IsTupleIter i2 l2 k2) (ls1 : s.heap.IsList l1 xs) (ls2 : s.heap.IsTuple l2 ys) (ex1 : xs[k1]? = some x) (ey1 : ys[k2]? = some y)
    (hq0 : ∀ h', IsZip h' z TI TO (rawInt s.heap.objs.size) → IsPair h' TO x y → h'.IsListIter i1 l1 (k1 + 1) → h'.IsTupleIter i2 l2 (k2 + 1) → IsPair h' s.heap.objs.size x y → h'.objs.size = s.heap.objs.size + 1 →
      (∀ c o, c ≠ z → c ≠ TO → c ≠ i1 → c ≠ i2 → s.heap.get? c = some o → h'.get? c = some o) → Q (.ref s.heap.objs.size) { s with heap := h' }) :
    wpAny (model prog w) A (Builtin.«zip.__next__» ⟨[.ref z], []⟩) (fun fin s' => ∃ v, fin = .done (.ret v) ∧ Q v s') E s := by
  show wpAny _ _ (field (.ref z) 2 >>= _) _ _ _; refine wpAny_bind (wpAny_field pz rfl (x := .bool false) rfl ?_)
  show wpAny _ _ (field (.ref z) 3 >>= _) _ _ _; refine wpAny_bind (wpAny_field pz rfl (x := .ref TI) rfl ?_)
  refine wpAny_bind (wpAny_seqItems pI rfl ?_)
  show wpAny _ _ (Builtin.SmallTypes.ownedTupleIsFree (.ref z) >>= _) _ _ _; refine wpAny_bind ?_
  unfold Builtin.SmallTypes.ownedTupleIsFree; refine wpAny_bind (wpAny_field pz rfl (x := .none) rfl (wpAny_pure ?_))
  simp only [if_true]; refine wpAny_bind (wpAny_rule ?_)
  refine wpAny_bind (wpAny_field pz rfl (x := .ref TO) rfl ?_)
  refine wpAny_bind (wpAny_setField_rec pz (by simp) fun g1 zz1 b1 => ?_)
  replace zz1 : IsZip g1 z TI TO .ellipsis := zz1; refine wpAny_bind ?_
  simp only [List.zipIdx_cons, List.zipIdx_nil, List.forIn_cons, List.forIn_nil]

  refine wpAny_bind (wpAny_bind (wpAny_onRaise ?_))
  show wpAny _ _ (Builtin.SmallTypes.nextOf (.ref i1) >>= _) _ _ _; refine wpAny_bind (wpAny_nextOf_list_item (h1.extBut b1.extBut D.i1z) (ls1.extBut b1.extBut D.l1z) ex1 fun g2 w12 b2 => wpAny_pure ?_)
  have to2 : IsPair g2 TO a b := b2.extBut _ _ D.TOi1 (b1.extBut _ _ D.TOz pO); refine wpAny_bind (wpAny_seqItems to2 rfl ?_)
  refine wpAny_bind (wpAny_updateSeq_pair to2 fun g3 to3 b3 => ?_)
  replace to3 : IsPair g3 TO x b := to3; refine wpAny_bind (wpAny_letGo (wpAny_pure ?_))

  refine wpAny_bind (wpAny_bind (wpAny_onRaise ?_))
  show wpAny _ _ (Builtin.SmallTypes.nextOf (.ref i2) >>= _) _ _ _; refine wpAny_bind (RZ.nextOf_tuple_item (((h2.extBut b1.extBut D.i2z).extBut b2.extBut D.i12.symm).extBut b3.extBut D.TOi2.symm)
    (((ls2.extBut b1.extBut D.l2z).extBut b2.extBut D.l2i1).extBut b3.extBut D.l2TO) ey1 fun g4 w24 b4 => wpAny_pure ?_)
  have to4 : IsPair g4 TO x b := b4.extBut _ _ D.TOi2 to3; refine wpAny_bind (wpAny_seqItems to4 rfl ?_)
  refine wpAny_bind (wpAny_updateSeq_pair to4 fun g5 to5 b5 => ?_)
  replace to5 : IsPair g5 TO x y := to5; refine wpAny_bind (wpAny_letGo (wpAny_pure (wpAny_pure ?_)))

  refine wpAny_bind (wpAny_seqItems to5 rfl ?_)
  refine wpAny_bind (wpAny_newTuple ?_)
  have sz : g5.objs.size = s.heap.objs.size := by rw [b5.1, b4.1, b3.1, b2.1, b1.1]
  have zz5 : IsZip g5 z TI TO .ellipsis := b5.extBut _ _ D.TOz.symm (b4.extBut _ _ D.i2z.symm (b3.extBut _ _ D.TOz.symm (b2.extBut _ _ D.i1z.symm zz1))); have kk5 : ∀ c o, c ≠ z → c ≠ TO → c ≠ i1 → c ≠ i2 → s.heap.get? c = some o → g5.get? c = some o := fun c o c1 c2 c3 c4 e =>
    b5.extBut _ _ c2 (b4.extBut _ _ c4 (b3.extBut _ _ c2 (b2.extBut _ _ c3 (b1.extBut _ _ c1 e))))
  have w1 : g5.IsListIter i1 l1 (k1 + 1) := ((w12.extBut b3.extBut D.TOi1.symm).extBut b4.extBut D.i12).extBut b5.extBut D.TOi1.symm; have w2 : g5.IsTupleIter i2 l2 (k2 + 1) := w24.extBut b5.extBut D.TOi2.symm
  have zlt : z < g5.objs.size := Heap.lt_size zz5; have olt : TO < g5.objs.size := Heap.lt_size to5
  have l1t : i1 < g5.objs.size := by obtain ⟨_, e, _⟩ := w1; exact Heap.lt_size e
  have l2t : i2 < g5.objs.size := by obtain ⟨_, e, _⟩ := w2; exact Heap.lt_size e
  show wpAny _ _ (Builtin.SmallTypes.ownedTupleHandOut (.ref z) (.ref g5.objs.size) >>= _) _ _ _; refine wpAny_bind ?_
  unfold Builtin.SmallTypes.ownedTupleHandOut; have zz6 : IsZip (g5.push { cls := .type "tuple", data := .seq #[x, y] }) z TI TO .ellipsis := Heap.get?_push_of_some _ zz5
  refine wpAny_bind (wpAny_setField_rec zz6 (by simp) fun g7 zz7 b7 => ?_)
  replace zz7 : IsZip g7 z TI TO (rawInt g5.objs.size) := zz7; refine wpAny_setField_rec zz7 (by simp) fun g8 zz8 b8 => ?_
  replace zz8 : IsZip g8 z TI TO (rawInt g5.objs.size) := zz8; have up : ∀ c o, c ≠ z → g5.get? c = some o → g8.get? c = some o := fun c o c1 e => b8.extBut _ _ c1 (b7.extBut _ _ c1 (Heap.get?_push_of_some _ e))
  have tt8 : IsPair g8 g5.objs.size x y := b8.extBut _ _ (Nat.ne_of_gt zlt) (b7.extBut _ _ (Nat.ne_of_gt zlt) (Heap.get?_push_size _ rfl)); have hz8 : g8.objs.size = g5.objs.size + 1 := by rw [b8.1, b7.1, Heap.size_push]
  rw [sz] at zz8 tt8 hz8
  refine wpAny_pure ⟨_, rfl, ?_⟩
  show Q (.ref g5.objs.size) _; rw [sz]
  exact hq0 g8 zz8 (up _ _ D.TOz to5) (w1.at fun o e => up _ o D.i1z e) (w2.at fun o e => up _ o D.i2z e) tt8 hz8 fun c o c1 c2 c3 c4 e => up c o c1 (kk5 c o c1 c2 c3 c4 e)

theorem zipM_next_end {z TI TO i1 i2 l1 l2 : Addr} {k1 k2 : Nat} {xs ys : Array Value} {a b : Value} {Q : Fin → Shared → Prop} (hh0 : A.handled = none) (D : ZipApart z TI TO i1 i2 l1 l2)
    (pz : IsZip s.heap z TI TO .none) (pI : IsPair s.heap TI (.ref i1) (.ref i2)) (pO : IsPair s.heap TO a b)
    (h1 : s.heap.IsListIter i1 l1 k1) (h2 : s.heap.IsTupleIter i2 l2 k2) (ls1 : s.heap.IsList l1 xs) (ls2 : s.heap.IsTuple l2 ys) (fin : xs[k1]? = none ∨ ys[k2]? = none)
    (he0 : ∀ h' e, (∀ c o, c ≠ z → c ≠ TO → c ≠ i1 → c ≠ i2 → s.heap.get? c = some o → h'.get? c = some o) → (∃ o, h'.get? e = some o ∧ o.cls = .type "StopIteration") → E (.ref e) { s with heap := h' }) :
    wpAny (model prog w) A (Builtin.«zip.__next__» ⟨[.ref z], []⟩) Q E s := by
  show wpAny _ _ (field (.ref z) 2 >>= _) _ _ _; refine wpAny_bind (wpAny_field pz rfl (x := .bool false) rfl ?_)
  show wpAny _ _ (field (.ref z) 3 >>= _) _ _ _; refine wpAny_bind (wpAny_field pz rfl (x := .ref TI) rfl ?_)
  refine wpAny_bind (wpAny_seqItems pI rfl ?_)
  show wpAny _ _ (Builtin.SmallTypes.ownedTupleIsFree (.ref z) >>= _) _ _ _; refine wpAny_bind ?_
  unfold Builtin.SmallTypes.ownedTupleIsFree; refine wpAny_bind (wpAny_field pz rfl (x := .none) rfl (wpAny_pure ?_))
  simp only [if_true]; refine wpAny_bind (wpAny_rule ?_)
  refine wpAny_bind (wpAny_field pz rfl (x := .ref TO) rfl ?_)
  refine wpAny_bind (wpAny_setField_rec pz (by simp) fun g1 zz1 b1 => ?_)
  replace zz1 : IsZip g1 z TI TO .ellipsis := zz1; refine wpAny_bind ?_
  simp only [List.zipIdx_cons, List.zipIdx_nil, List.forIn_cons, List.forIn_nil]; refine wpAny_bind (wpAny_bind (wpAny_onRaise ?_))
  show wpAny _ _ (Builtin.SmallTypes.nextOf (.ref i1) >>= _) _ _ _
  cases ex1 : xs[k1]? with
  | none =>
    refine wpAny_bind (wpAny_nextOf_list_end hh0 (h1.extBut b1.extBut D.i1z) (ls1.extBut b1.extBut D.l1z) ex1 fun g2 e b2 he => ?_)
    obtain ⟨oe, oe1, ce1⟩ := he
    have zz2 : IsZip g2 z TI TO .ellipsis := b2 _ _ D.i1z.symm zz1; have nez : e ≠ z := fun x => by subst x; rw [zz2] at oe1; cases oe1; simp at ce1
    refine wpAny_setField_rec zz2 (by simp) fun g3 _ b3 => he0 g3 e (fun c o c1 _ c3 _ x => b3.extBut _ _ c1 (b2 _ _ c3 (b1.extBut _ _ c1 x))) ⟨oe, b3.extBut _ _ nez oe1, ce1⟩
  | some x =>
    have ey1 : ys[k2]? = none := by rcases fin with h | h; rw [ex1] at h; cases h; exact h
    refine wpAny_bind (wpAny_nextOf_list_item (h1.extBut b1.extBut D.i1z) (ls1.extBut b1.extBut D.l1z) ex1 fun g2 w12 b2 => wpAny_pure ?_)
    have to2 : IsPair g2 TO a b := b2.extBut _ _ D.TOi1 (b1.extBut _ _ D.TOz pO); refine wpAny_bind (wpAny_seqItems to2 rfl ?_)
    refine wpAny_bind (wpAny_updateSeq_pair to2 fun g3 to3 b3 => ?_)
    refine wpAny_bind (wpAny_letGo (wpAny_pure ?_))
    refine wpAny_bind (wpAny_bind (wpAny_onRaise ?_))
    show wpAny _ _ (Builtin.SmallTypes.nextOf (.ref i2) >>= _) _ _ _; refine wpAny_bind (RZ.nextOf_tuple_end hh0 (((h2.extBut b1.extBut D.i2z).extBut b2.extBut D.i12.symm).extBut b3.extBut D.TOi2.symm)
      (((ls2.extBut b1.extBut D.l2z).extBut b2.extBut D.l2i1).extBut b3.extBut D.l2TO) ey1 fun g4 e b4 he => ?_)
    obtain ⟨oe, oe1, ce1⟩ := he
    have zz4 : IsZip g4 z TI TO .ellipsis := b4 _ _ D.i2z.symm (b3.extBut _ _ D.TOz.symm (b2.extBut _ _ D.i1z.symm zz1)); have nez : e ≠ z := fun x => by subst x; rw [zz4] at oe1; cases oe1; simp at ce1
    refine wpAny_setField_rec zz4 (by simp) fun g5 _ b5 => he0 g5 e (fun c o c1 c2 c3 c4 x => b5.extBut _ _ c1 (b4 _ _ c4 (b3.extBut _ _ c2 (b2.extBut _ _ c3 (b1.extBut _ _ c1 x))))) ⟨oe, b5.extBut _ _ nez oe1, ce1⟩

theorem pyNext_zipM_item {z TI TO i1 i2 l1 l2 : Addr} {k1 k2 : Nat} {xs ys : Array Value} {x y a b : Value} {Q : Option Value → Shared → Prop} (D : ZipApart z TI TO i1 i2 l1 l2)
    (pz : IsZip s.heap z TI TO .none) (pI : IsPair s.heap TI (.ref i1) (.ref i2)) (pO : IsPair s.heap TO a b)
    (h1 : s.heap.IsListIter i1 l1 k1) (h2 : s.heap.IsTupleIter i2 l2 k2) (ls1 : s.heap.IsList l1 xs) (ls2 : s.heap.IsTuple l2 ys) (ex1 : xs[k1]? = some x) (ey1 : ys[k2]? = some y)
    (hq0 : ∀ h', IsZip h' z TI TO (rawInt s.heap.objs.size) → IsPair h' TO x y → h'.IsListIter i1 l1 (k1 + 1) → h'.IsTupleIter i2 l2 (k2 + 1) → IsPair h' s.heap.objs.size x y → h'.objs.size = s.heap.objs.size + 1 →
      (∀ c o, c ≠ z → c ≠ TO → c ≠ i1 → c ≠ i2 → s.heap.get? c = some o → h'.get? c = some o) → Q (some (.ref s.heap.objs.size)) { s with heap := h' }) :
    wpAny (model prog w) A (pyNext (.ref z)) Q E s := by
  have hT : s.TypeIs (.ref z) "zip" := ⟨_, pz, rfl⟩; unfold pyNext
  exact wpAny_bind (wpAny_attempt (wpAny_callSpecial?_slot (name := Str.ofString "__next__") hT F.slot_zip_next
    (wpAny_call_entry F.slot_zip_next hT F.entry_zip_next
      (zipM_next_item D pz pI pO h1 h2 ls1 ls2 ex1 ey1 fun h' a1 a2 a3 a4 a5 a6 a7 => wpAny_pure (hq0 h' a1 a2 a3 a4 a5 a6 a7)) (F.args_zip_next_1 _))))

theorem pyNext_zipM_end {z TI TO i1 i2 l1 l2 : Addr} {k1 k2 : Nat} {xs ys : Array Value} {a b : Value} {Q : Option Value → Shared → Prop} (hh0 : A.handled = none) (D : ZipApart z TI TO i1 i2 l1 l2)
    (pz : IsZip s.heap z TI TO .none) (pI : IsPair s.heap TI (.ref i1) (.ref i2)) (pO : IsPair s.heap TO a b)
    (h1 : s.heap.IsListIter i1 l1 k1) (h2 : s.heap.IsTupleIter i2 l2 k2) (ls1 : s.heap.IsList l1 xs) (ls2 : s.heap.IsTuple l2 ys) (fin : xs[k1]? = none ∨ ys[k2]? = none)
    (hq0 : ∀ h', (∀ c o, c ≠ z → c ≠ TO → c ≠ i1 → c ≠ i2 → s.heap.get? c = some o → h'.get? c = some o) → Q none { s with heap := h' }) : wpAny (model prog w) A (pyNext (.ref z)) Q E s := by
  have hT : s.TypeIs (.ref z) "zip" := ⟨_, pz, rfl⟩; unfold pyNext
  refine wpAny_bind (wpAny_attempt (wpAny_callSpecial?_slot (name := Str.ofString "__next__") hT F.slot_zip_next
    (wpAny_call_entry F.slot_zip_next hT F.entry_zip_next (zipM_next_end hh0 D pz pI pO h1 h2 ls1 ls2 fin fun h' e hk he => ?_) (F.args_zip_next_1 _))))
  obtain ⟨o, ho, hc⟩ := he
  refine wpAny_bind (wpAny_isInstance (T := "StopIteration") (b := true) ⟨o, ho, hc⟩ isSubtype_stop ?_)
  exact wpAny_pure (hq0 _ hk)


end
abbrev zipMH1 (h : Heap) (l1 : Addr) : Heap := h.push { cls := .type "list_iterator", data := .fields #[.ref l1, .int 0 0] }
abbrev zipMH2 (h : Heap) (l1 l2 : Addr) : Heap := (zipMH1 h l1).push { cls := .type "tuple_iterator", data := .fields #[.ref l2, .int 0 0] }
abbrev zipMH3 (h : Heap) (l1 l2 : Addr) : Heap := (zipMH2 h l1 l2).push { cls := .type "tuple", data := .seq #[.ref h.objs.size, .ref (zipMH1 h l1).objs.size] }
abbrev zipMH4 (h : Heap) (l1 l2 : Addr) : Heap := (zipMH3 h l1 l2).push { cls := .type "tuple", data := .seq #[.none, .none] }
abbrev zipMH5 (h : Heap) (l1 l2 : Addr) : Heap := (zipMH4 h l1 l2).push { cls := .type "zip", data := .fields #[.none, .bool false, .bool false, .ref (zipMH2 h l1 l2).objs.size, .ref (zipMH3 h l1 l2).objs.size] }

theorem meets_zipM_new (l1 l2 : Addr) (xs ys : Array Value) :
    Meets (Builtin.«zip.__new__» ⟨[.type "zip", .ref l1, .ref l2], []⟩) (fun _ R s => s.heap.IsList l1 xs ∧ s.heap.IsTuple l2 ys ∧
      R (.ok (.ret (.ref (zipMH4 s.heap l1 l2).objs.size))) { s with heap := zipMH5 s.heap l1 l2 }) :=
  .of_wp fun prog w A R s h => by
    obtain ⟨hp, g, d, tk, os⟩ := s; obtain ⟨ls1, ls2, h⟩ := h
    have sb0 := sub_zip; have L1s : Heap.IsList (Shared.heap ⟨hp, g, d, tk, os⟩) l1 xs := ls1
    have L2s : Heap.IsTuple (Shared.heap ⟨hp.push { cls := .type "list_iterator", data := .fields #[.ref l1, .int 0 0] }, g, d, tk, os⟩) l2 ys := Heap.IsTuple.push ls2 _
    wp_walk using wpAny_pyIter_list L1s, wpAny_pyIter_tuple L2s
    exact ⟨_, rfl, h⟩

section
variable {prog : Program} {w : World} {A : Around} {E : Value → Shared → Prop} {s : Shared}
theorem call_zipM {l1 l2 : Addr} {xs ys : Array Value} {Q : Value → Shared → Prop} (ls1 : s.heap.IsList l1 xs) (ls2 : s.heap.IsTuple l2 ys)
    (h : ∀ h', IsZip h' (s.heap.objs.size + 4) (s.heap.objs.size + 2) (s.heap.objs.size + 3) .none → IsPair h' (s.heap.objs.size + 2) (.ref s.heap.objs.size) (.ref (s.heap.objs.size + 1)) →
      IsPair h' (s.heap.objs.size + 3) .none .none → h'.IsListIter s.heap.objs.size l1 0 → h'.IsTupleIter (s.heap.objs.size + 1) l2 0 → h'.objs.size = s.heap.objs.size + 5 →
      (∀ c o, s.heap.get? c = some o → h'.get? c = some o) → Q (.ref (s.heap.objs.size + 4)) { s with heap := h' }) :
    wpAny (model prog w) A (call (.type "zip") [.ref l1, .ref l2]) Q E s := by
  refine callType_new F.called_zip (by decide) (F.typeCall_zip_2 _ _) (F.newCall_zip_2 _ _) (fun obj => F.args_object_init_3 obj _ _) F.entry_zip_new
    (meets_zipM_new l1 l2 xs ys) ⟨ls1, ls2, ?_⟩
  have z1 : (zipMH1 s.heap l1).objs.size = s.heap.objs.size + 1 := Heap.size_push ..; have z2 : (zipMH2 s.heap l1 l2).objs.size = s.heap.objs.size + 2 := by rw [Heap.size_push, z1]
  have z3 : (zipMH3 s.heap l1 l2).objs.size = s.heap.objs.size + 3 := by rw [Heap.size_push, z2]
  have z4 : (zipMH4 s.heap l1 l2).objs.size = s.heap.objs.size + 4 := by rw [Heap.size_push, z3]
  have z5 : (zipMH5 s.heap l1 l2).objs.size = s.heap.objs.size + 5 := by rw [Heap.size_push, z4]
  have g5 : (zipMH5 s.heap l1 l2).get? (zipMH4 s.heap l1 l2).objs.size = some _ := Heap.get?_push_size _ rfl; have g4 : (zipMH5 s.heap l1 l2).get? (zipMH3 s.heap l1 l2).objs.size = some _ := Heap.get?_push_of_some _ (Heap.get?_push_size _ rfl)
  have g3 : (zipMH5 s.heap l1 l2).get? (zipMH2 s.heap l1 l2).objs.size = some _ := Heap.get?_push_of_some _ (Heap.get?_push_of_some _ (Heap.get?_push_size _ rfl)); have g2 : (zipMH5 s.heap l1 l2).get? (zipMH1 s.heap l1).objs.size = some _ := Heap.get?_push_of_some _ (Heap.get?_push_of_some _ (Heap.get?_push_of_some _ (Heap.get?_push_size _ rfl)))
  have g1 : (zipMH5 s.heap l1 l2).get? s.heap.objs.size = some _ := Heap.get?_push_of_some _ (Heap.get?_push_of_some _ (Heap.get?_push_of_some _ (Heap.get?_push_of_some _ (Heap.get?_push_size _ rfl)))); show _ ∧ _
  rw [z2, z3, z4] at g5
  rw [z1, z2] at g3
  rw [z3] at g4
  rw [z1] at g2
  rw [z4]
  exact ⟨⟨_, g5, rfl⟩, h _ g5 g3 g4 ⟨_, g1, rfl, rfl⟩ ⟨_, g2, rfl, rfl⟩ z5 fun c o x =>
    Heap.get?_push_of_some _ (Heap.get?_push_of_some _ (Heap.get?_push_of_some _ (Heap.get?_push_of_some _ (Heap.get?_push_of_some _ x))))⟩
end
end VL
namespace VL
open PySem PySem.Spec PyProof.Rows L2
/-- the list at a and the tuple at b as they stand at each turn, the items in new pairs -/
def ItzM (K : PySem.W.Frag) (a b : Addr) : It :=
  ⟨fun i H => ∃ (xs ys : List V) (x y : V), SqL K H a xs ∧ SqT K H b ys ∧ xs[i]? = some x ∧ ys[i]? = some y,
    fun i H v H' => ∃ T x y, v = .ref T ∧ H T = none ∧ H' = upd H T (.tup [x, y]) ∧ (∀ xs, SqL K H a xs → xs[i]? = some x) ∧ ∀ ys, SqT K H b ys → ys[i]? = some y,
    fun i H => ∃ xs ys : List V, SqL K H a xs ∧ SqT K H b ys ∧ (xs.length ≤ i ∨ ys.length ≤ i)⟩
theorem turn_zipM {P : Program} {w : World} {K : PySem.W.Frag} {elts : List Expr} {kk : Nat} {tpos : Pos} {a b z TI TO i1 i2 : Addr} (D : ZipApart z TI TO i1 i2 a b) :
    Turn P w K (.Tuple elts kk tpos) (ItzM K a b) [z, TI, TO, i1, i2] z (fun i h => IsZip h z TI TO .none ∧ IsPair h TI (.ref i1) (.ref i2) ∧ (∃ x y, IsPair h TO x y) ∧ h.IsListIter i1 a i ∧ h.IsTupleIter i2 b i) where
  mem := by simp
  obj := fun i h st c hc => by
    obtain ⟨pz, pI, ⟨x, y, pO⟩, ⟨o1, e1, _, d1⟩, ⟨o2, e2, _, d2⟩⟩ := st
    have e' : c = z ∨ c = TI ∨ c = TO ∨ c = i1 ∨ c = i2 := by simpa using hc
    rcases e' with q | q | q | q | q
    · rw [q]; exact ⟨_, pz, fun v q => nomatch q⟩
    · rw [q]; exact ⟨_, pI, fun v q => nomatch q⟩
    · rw [q]; exact ⟨_, pO, fun v q => nomatch q⟩
    · rw [q]; exact ⟨o1, e1, fun v q => by rw [d1] at q; cases q⟩
    · rw [q]; exact ⟨o2, e2, fun v q => by rw [d2] at q; cases q⟩
  keep := fun i h h' st k => by
    obtain ⟨pz, pI, ⟨x, y, pO⟩, h1, h2⟩ := st
    exact ⟨k z (by simp) _ pz, k TI (by simp) _ pI, ⟨x, y, k TO (by simp) _ pO⟩, h1.at fun o q => k i1 (by simp) o q, h2.at fun o q => k i2 (by simp) o q⟩
  item := by
    intro X hP hw hK hc i pins s σ H E I hf st hg
    subst hP hw hK
    obtain ⟨pz, pI, ⟨x0, y0, pO⟩, h1, h2⟩ := st
    obtain ⟨xs, ys, x, y, qx1, qy1, ex1, ey1⟩ := hg
    obtain ⟨jts1, sv1, p, _⟩ := I.list qx1
    obtain ⟨jts2, sv2, p2, _⟩ := I.tuple qy1
    obtain ⟨u, eu1, su1⟩ := sv1.get ex1
    obtain ⟨u2, eu2, su2⟩ := sv2.get ey1
    have zl0 : z < s.heap.objs.size := Heap.lt_size pz; refine pyNext_zipM_item D pz pI pO h1 h2 p.isList p2 (x := u) (y := u2) (by simpa using eu1) (by simpa using eu2) fun h' z' TO' h1' h2' hT sz hk => ?_
    refine ⟨_, rfl, wpAny_letOwnedTupleGo_zip (s := { s with heap := h' }) z' fun h'' z'' sb => ?_⟩
    have tt2 : h''.get? s.heap.objs.size = some { cls := .type "tuple", data := .seq #[u, u2] } := (sb.2 _ (Nat.ne_of_gt zl0)).trans hT; have new : ObjOk X.prog X.w (upd H s.heap.objs.size (.tup [x, y])) h'' s.heap.objs.size (.tup [x, y]) :=
      ⟨by show 2 ≤ sizeLine; decide, [u, u2], .cons su1 (.cons su2 .nil), ⟨_, tt2, rfl, _, rfl⟩⟩
    have I1 : Inv X pins σ (upd H s.heap.objs.size (.tup [x, y])) { s with heap := h'' } :=
      I.turnedNew (t' := s.toks) (ch := [z, TI, TO, i1, i2]) (fun c o hb q => (sb.2 c (fun q' => hb (by simp [q']))).trans (hk c o (fun q' => hb (by simp [q'])) (fun q' => hb (by simp [q'])) (fun q' => hb (by simp [q'])) (fun q' => hb (by simp [q'])) q)) hf (Nat.le_refl _) new
    refine ⟨.ref s.heap.objs.size, _, I1, rfl, ⟨_, x, y, rfl, I.hok.fresh (Nat.le_refl _), rfl, fun l hl => by rw [I.list_inj hl qx1]; exact ex1, fun l hl => by rw [I.tuple_inj hl qy1]; exact ey1⟩, ⟨z'', ?_, ⟨u, u2, ?_⟩, ?_, ?_⟩, fun c cm0 => ?_⟩
    · exact (sb.2 _ D.TIz).trans (hk _ _ D.TIz D.TITO D.TIi1 D.TIi2 pI)
    · exact (sb.2 _ D.TOz).trans TO'
    · exact h1'.at fun o q => (sb.2 _ D.i1z).trans q
    · exact h2'.at fun o q => (sb.2 _ D.i2z).trans q
    · have clt : c < s.heap.objs.size := by
        have e' : c = z ∨ c = TI ∨ c = TO ∨ c = i1 ∨ c = i2 := by simpa using cm0
        rcases e' with q | q | q | q | q
        · rw [q]; exact zl0
        · rw [q]; exact Heap.lt_size pI
        · rw [q]; exact Heap.lt_size pO
        · rw [q]; obtain ⟨_, e1, _⟩ := h1; exact Heap.lt_size e1
        · rw [q]; obtain ⟨_, e2, _⟩ := h2; exact Heap.lt_size e2
      rw [upd_ne (Nat.ne_of_lt clt)]
      exact (hf c cm0).1
  done := by
    intro X hP hw hK hc i pins s σ H E I hf st hg
    subst hP hw hK
    obtain ⟨pz, pI, ⟨x0, y0, pO⟩, h1, h2⟩ := st
    obtain ⟨xs, ys, qx1, qy1, fin⟩ := hg
    obtain ⟨jts1, sv1, p, _⟩ := I.list qx1
    obtain ⟨jts2, sv2, p2, _⟩ := I.tuple qy1
    have l1 := sv1.length; have l2 := sv2.length
    have he : jts1.toArray[i]? = none ∨ jts2.toArray[i]? = none := by
      rcases fin with q | q
      · exact .inl (by simp; omega)
      · exact .inr (by simp; omega)
    exact pyNext_zipM_end (I.ok.hd hc) D pz pI pO h1 h2 p.isList p2 he fun h' hk => ⟨rfl, I.turnedL (t' := s.toks) (ch := [z, TI, TO, i1, i2]) (fun c o hb q =>
      hk c o (fun q' => hb (by simp [q'])) (fun q' => hb (by simp [q'])) (fun q' => hb (by simp [q'])) (fun q' => hb (by simp [q'])) q) hf⟩
  self := fun A i s Q E st h => wpAny_pyIter_zip st.1 h

end VL

set_option Elab.async false
set_option linter.all false
set_option maxRecDepth 100000
set_option maxHeartbeats 1000000
namespace VL
open PySem PySem.Spec PyProof.Rows L2
/-- zip(a list, a tuple) -/
def iZipM (K : PySem.W.Frag) (ta : TA) : TI := fun σ H R => ta σ H fun vs H1 => ∃ a b xs ys, vs = [.ref a, .ref b] ∧ SqL K H1 a xs ∧ SqT K H1 b ys ∧ R (ItzM K a b) H1
section
variable {X : Cx} {a b : Expr} {p pos tpos : Pos} {elts : List Expr} {kk : Nat}
theorem pi_zipM {ta : TA} (hg : Gl X "zip") (hm : X.mg "zip" = none) (ha : PA X [a, b] ta) (st : starEach [a, b] X.env = (false, eval a X.env) :: starEach [b] X.env) (pl : (backTo pos (starEach [b] X.env)).any (·.1) = false) :
    PI X (.Tuple elts kk tpos) (.Call (.Name "zip" p) [a, b] [] pos) (iZipM X.K ta) := by
  constructor
  intro pins s σ H R I h
  refine Call_ (ld_blt I hg hm PyProof.Rows.boot_zip (PyProof.Rows.callWith_type1 (thn (ha.run pos pins s σ H _ I h) ?_) st pl))
  rintro us s1 ⟨vs, H1, I1, r1, c, d, xs, ys, ex, q1, q2, q⟩
  subst ex
  match us, r1 with
  | [.ref _, .ref _], .cons rfl (.cons rfl .nil) =>
    obtain ⟨its, rv, p1, _⟩ := I1.list q1
    obtain ⟨jts, rw2, p2, _⟩ := I1.tuple q2
    obtain ⟨o2, lt2, _⟩ := id p2
    refine call_zipM p1.isList (show s1.heap.IsTuple d jts.toArray from p2) fun h' z1 z2 z3 z4 z5 sz kp => wpAny_pyIter_zip z1 ?_
    have J : Inv X pins σ H1 { s1 with heap := h' } := I1.kept (t' := s1.toks) kp
    have new : ∀ e, e ∈ [s1.heap.objs.size + 4, s1.heap.objs.size + 2, s1.heap.objs.size + 3, s1.heap.objs.size, s1.heap.objs.size + 1] → s1.heap.objs.size ≤ e := by
      intro e he
      simp only [List.mem_cons, List.not_mem_nil, or_false] at he
      rcases he with rfl | rfl | rfl | rfl | rfl <;> first | exact Nat.le_add_right _ _ | exact Nat.le_refl _
    exact ⟨_, [s1.heap.objs.size + 4, s1.heap.objs.size + 2, s1.heap.objs.size + 3, s1.heap.objs.size, s1.heap.objs.size + 1], _, _, H1, rfl, J, turn_zipM (PySem.W.ktu_apart s1.heap.objs.size c d p1.lt (Heap.lt_size lt2)), ⟨z1, z2, ⟨_, _, z3⟩, z4, z5⟩,
      fun e he => I1.fpOk (new e he) (I1.hok.fresh (new e he)), q⟩
end
def zpM (l : List D) (k : List D → Prop) : Prop := match l with
  | [.lst l, .tup m] => k (zipD l m)
  | _ => False
theorem zpM_inv {l : List D} {k : List D → Prop} (h : zpM l k) : ∃ x y, l = [.lst x, .tup y] ∧ k (zipD x y) := by
  unfold zpM at h
  split at h
  · exact ⟨_, _, rfl, h⟩
  · exact h.elim
section
variable {Th : Type} {B : Bs Th} {W : WX} {X : Cx} {a b : Expr} {p pos tpos : Pos} {elts : List Expr} {kk : Nat}
theorem iok_zipM {F : Hp} {q q' : Addr} {vs us : List V} {l m : List D} (hq : SqL B.K F q vs) (r : RepL B.K F l vs) (hq' : SqT B.K F q' us) (r' : RepL B.K F m us) : IOk B F (ItzM B.K q q') (zipD l m) := by
  intro F' t e σ H i S L
  have at1 : SqL B.K H q vs := S.sub.seq (L.seq hq)
  have at2 : SqT B.K H q' us := Same.seqT S.sub (Same.seqT L hq')
  have n1 := r.length
  have n2 := r'.length
  rw [zipD_length]
  refine ⟨fun hi => ?_, fun hi => ⟨vs, us, at1, at2, by omega⟩, fun d x H' hd hy => ?_⟩
  · obtain ⟨x, e1, _⟩ := r.get (List.getElem?_eq_getElem (show i < l.length by omega))
    obtain ⟨y, e2, _⟩ := r'.get (List.getElem?_eq_getElem (show i < m.length by omega))
    exact ⟨vs, us, x, y, at1, at2, e1, e2⟩
  · obtain ⟨T, x, y, rfl, hT, rfl, f1, f2⟩ := hy
    obtain ⟨z, z', hz, hz', rfl⟩ := zipD_get hd
    obtain ⟨w, e1, r1⟩ := r.get hz
    obtain ⟨w', e2, r2⟩ := r'.get hz'
    have g1 := f1 vs at1
    rw [e1] at g1; cases g1
    have g2 := f2 us at2
    rw [e2] at g2; cases g2
    obtain ⟨S2, L2', r3⟩ := S.newTup (l := [z, z']) hT (.cons (r1.mono L) (.cons (r2.mono L) .nil))
    exact ⟨_, S2, L2', r3⟩
theorem di_zipM {ws : WA Th} (hK : B.K = X.K) (ha : PA X [a, b] (liftA B W ws)) (hm : X.mg "zip" = none) (hg : Gl X "zip" := by rfl) (hs : starEach [a, b] X.env = (false, eval a X.env) :: starEach [b] X.env := by rfl) (hpl : (backTo pos (starEach [b] X.env)).any (·.1) = false := by rfl) :
    PI X (.Tuple elts kk tpos) (.Call (.Name "zip" p) [a, b] [] pos) (liftI B W (wItF zpM ws)) := weakI (pi_zipM hg hm ha hs hpl) (by
  rintro σ H Q ⟨F, t, e, Qd, Ed, S, eo, hw, hq⟩
  refine ⟨F, t, e, _, Ed, S, eo, hw, fun vs H1 F1 t1 e1 ds S1 L1 r1 q1 => ?_⟩
  obtain ⟨l, m, rfl, q⟩ := zpM_inv q1
  obtain ⟨x, y, rfl, r, r'⟩ := repL2 r1
  rw [rep_lst] at r
  rw [rep_tup] at r'
  obtain ⟨b, us, rfl, h1, r⟩ := r
  obtain ⟨c, zs, rfl, h2, r'⟩ := r'
  refine ⟨b, c, us, zs, rfl, by rw [← hK]; exact SqL.of (S1.sub _ _ h1), by rw [← hK]; exact SqT.of (S1.sub _ _ h2), ?_⟩
  rw [← hK]
  exact hq _ H1 F1 t1 e1 _ S1 L1 (iok_zipM (SqL.of h1) r (SqT.of h2) r') q)
end
end VL

set_option Elab.async false
set_option linter.all false
set_option maxRecDepth 100000
set_option maxHeartbeats 1000000
namespace VL
open PySem PySem.Spec PyProof.Rows L2
/-! a dict of one's own lent to a pure def that returns something flat -/
/-- the lock taken off again -/
def Ug (X : Cx) (Q : VK) : VK := fun v H => Q v H ∨ ∃ d od u, H d = some (.frz od u) ∧ (∀ o' u', X.H_0 d ≠ some (.frz o' u')) ∧ Q v (upd H d u)
theorem unghost {X : Cx} {ex : Expr} {t : TE} (h : PE X ex t) : PE X ex (fun σ H Q => t σ H (Ug X Q)) := by
  constructor
  intro pins s σ H Q I q
  refine thn (h.run pins s σ H _ I q) ?_
  rintro v s1 ⟨x, H1, I1, r, z | ⟨d, od, u, e, n, z⟩⟩
  · exact ⟨x, H1, I1, r, z⟩
  · exact ⟨x, _, I1.unlock e n, r, z⟩
theorem flat_rep {K : PySem.W.Frag} {F F' : Hp} {d : D} {v : V} (h : flatD d = true) (r : Rep K F d v) : Rep K F' d v := by
  cases d <;> first | (unfold Rep at r ⊢; exact r) | cases h
section
variable {Th : Type} {B : Bs Th} {W : WX} {X : Cx} {k : Nat} {f : Addr} {fd : FuncData} {ps : List Str} {c0 : Cp} {x y : Str} {p py pos : Pos} {a : Expr}
def wCallB2 (i : Nat) (c : Cp) (wa : WE Th) : WE Th := fun e t Q E => wa e t (fun d e1 t1 => ∃ l, e1[i]? = some (.ow (.dk l)) ∧ c [d, .dk l] (fun r => ∃ z, r = .sh z ∧ flatD z = true ∧ Q z e1 t1) fun _ => False) E
theorem de_callB2 (i : Nat) {wa : WE Th} (hH : B.H0 = X.H_0) (G : FnOk X.prog X.w X.K X.mg X.base (L2.CX X.prog X.w) k f fd ps (spP B.K c0)) (hr : Room k X.A) (hm : X.mg x = some (.ref f)) (hk : PySem.W.keepIn X.K (.ref f) = true) (hb : Binds X.K fd ps []) (tk : Takes X W) (ha : PE X a (liftE B W wa))
    (hN : X.N[i]? = some y := by rfl) (hv : Vis X.env.scope y := by first | exact Or.inl rfl | exact Or.inr (Or.inl rfl) | exact Or.inr (Or.inr rfl)) (hd : (y == ("__debug__" : Str)) = false := by decide) (hcd : (y == ("__classdict__" : Str)) = false := by decide)
    (hg : Gl X x := by rfl) (hdb : (x == ("__debug__" : Str)) = false := by decide) (he : starEach [a, .Name y py] X.env = (false, eval a X.env) :: starEach [.Name y py] X.env := by rfl) (he2 : starEach [.Name y py] X.env = (false, eval (.Name y py) X.env) :: starEach [] X.env := by rfl) (hpl : (backTo pos (starEach [.Name y py] X.env)).any (·.1) = false := by rfl) :
    PE X (.Call (.Name x p) [a, .Name y py] [] pos) (liftE B W (wCallB2 i c0 wa)) := by
  refine weakE (unghost (pe_callSD (E := L2.WE W) G hr hg hm hk hb .nil (fun σ => passAt tk σ) (pa_cons ha (pa_cons (ghost (pe_var hN hv hd hcd)) pa_nil he2) he) hdb he hpl)) ?_
  rintro σ H Q ⟨F, t, e, Qd, Ed, S, eo, hw, hq⟩
  refine ⟨F, t, e, _, Ed, S, eo, hw, fun v H1 F1 t1 e1 d S1 L1 r1 q1 => ?_⟩
  obtain ⟨l, hs, hc⟩ := q1
  obtain ⟨b, e2, ⟨hF, vs, hb1, rl⟩, h0, hfp⟩ := S1.ow i _ hs
  refine ⟨.ref b, e2, .inr ⟨b, _, hb1, trivial, fun od => ?_⟩⟩
  dsimp only [tNil]
  have le : L2.Same F1 (upd F1 b (.frz od (.dK vs))) := same_upd hF
  have sub : L2.Same (upd F1 b (.frz od (.dK vs))) (upd H1 b (.frz od (.dK vs))) := fun z o q => by
    by_cases hz : z = b
    · subst hz; rw [upd_same] at q ⊢; exact q
    · rw [upd_ne hz] at q ⊢; exact S1.sub z o q
  refine ⟨upd F1 b (.frz od (.dK vs)), (), [d, .dk l], fun r _ => ∃ z, r = .sh z ∧ flatD z = true ∧ Qd z e1 t1, fun _ _ => False, sub, trivial, fun z hz => absurd hz (by simp [M0]), .cons (r1.mono le) (.cons (by unfold Rep; exact ⟨b, od, vs, rfl, upd_same, RepK.mono le rl⟩) .nil), hc, fun v2 H2 F2 _ r af ra q => ?_, fun _ _ _ _ _ _ _ _ q => False.elim q⟩
  obtain ⟨z, rfl, hz, q⟩ := q
  have at2 : H2 b = some (.frz od (.dK vs)) := af.same b _ (by simp [M0]) upd_same
  refine .inr ⟨b, od, _, at2, fun o' u' hn => ?_, ?_⟩
  · rw [← hH, h0] at hn; cases hn
  have same : L2.Same H1 (upd H2 b (.dK vs)) := fun z o hz1 => by
    by_cases hzb : z = b
    · subst hzb; rw [upd_same]; rw [hb1] at hz1; exact hz1
    · rw [upd_ne hzb]; exact af.same z o (by simp [M0]) (by rw [upd_ne hzb]; exact hz1)
  have S2 : SR B F1 t1 e1 σ (upd H2 b (.dK vs)) := S1.grow (L2.Same.refl F1) (fun z o q => same z o (S1.sub z o q)) (fun _ _ _ _ n => n) same
  exact hq v2 _ F1 t1 e1 z S2 (L1.trans (.grow (L2.Same.refl F1) same fun _ _ _ _ n => n)) (flat_rep hz ra) q
end
end VL

set_option Elab.async false
set_option linter.all false
set_option maxRecDepth 100000
set_option maxHeartbeats 1000000
namespace VL
open PySem PySem.Spec PyProof.Rows L2
section
variable {Th : Type}
/-- a loop over the images of a list's members -/
theorem forL_list {α : Type} {f : α → D} {g : WG Th} {b : WS Th} {n : En Th} (l : List α) (I : List α → Ev → Th → Prop)
    (step : ∀ done x todo (K : Ev → Th → Prop) e t, l = done ++ x :: todo → (∀ e t, I (done ++ [x]) e t → K e t) → I done e t → g (f x) e t fun e1 t1 => b { n with nx := K, ct := K, bk := n.nx } e1 t1)
    (fin : ∀ e t, I l e t → n.nx e t) {e : Ev} {t : Th} (h : I [] e t) : wForL g b n (l.map f) e t := by
  refine forL_ind (fun rest e t => ∃ done todo, l = done ++ todo ∧ rest = todo.map f ∧ I done e t) (fun d rest K e t hK h => ?_) (fun e t h => ?_) _ e t ⟨[], l, rfl, rfl, h⟩
  · obtain ⟨done, todo, hl, hr, hi⟩ := h
    cases todo with
    | nil => cases hr
    | cons x todo =>
      rw [List.map_cons] at hr
      injection hr with h1 h2
      subst h1
      exact step done x todo K e t hl (fun e t q => hK e t ⟨done ++ [x], todo, by rw [hl]; simp, h2, q⟩) hi
  · obtain ⟨done, todo, hl, hr, hi⟩ := h
    cases todo with
    | nil => rw [List.append_nil] at hl; subst hl; exact fin e t hi
    | cons x todo => cases hr
theorem enumD_eq {α : Type} (f : α → D) (l : List α) : enumD (l.map f) = (l.zipIdx).map fun p => .tup [.int (p.2 : Nat), f p.1] := by
  unfold enumD
  apply List.ext_getElem?
  intro i
  rw [List.getElem?_zipWith, List.getElem?_map, List.getElem?_map, List.getElem?_zipIdx, List.length_map]
  cases h : l[i]? with
  | none =>
    have : ¬ i < l.length := by have := List.getElem?_eq_none_iff.mp h; omega
    rw [List.getElem?_eq_none (by rw [List.length_range]; omega)]
    rfl
  | some x =>
    have hi : i < l.length := (List.getElem?_eq_some_iff.mp h).1
    rw [List.getElem?_eq_getElem (by rw [List.length_range]; exact hi), List.getElem_range]
    simp
theorem zipIdx_split {α : Type} {l : List α} {done todo : List (α × Nat)} {x : α × Nat} (h : l.zipIdx = done ++ x :: todo) : x.2 = done.length ∧ l = done.map (·.1) ++ x.1 :: todo.map (·.1) := by
  have h1 : l = (l.zipIdx).map (·.1) := by simp
  refine ⟨?_, by rw [h1, h]; simp⟩
  have h2 : (l.zipIdx)[done.length]? = some x := by rw [h]; simp
  rw [List.getElem?_zipIdx] at h2
  cases h3 : l[done.length]? with
  | none => rw [h3] at h2; cases h2
  | some y => rw [h3] at h2; cases h2; simp
/-- a comprehension, the world and the slots moving -/
theorem lcL_list {α : Type} {f : α → D} {g : WG Th} {tt : WT Th} {we : WE Th} {vs : List Nat} {Q : List D → Ev → Th → Prop} (l : List α) (I : List α → List D → Ev → Th → Prop)
    (step : ∀ done x todo acc (K : List D → Ev → Th → Prop) e t, l = done ++ x :: todo → (∀ acc e t, I (done ++ [x]) acc e t → K acc e t) → I done acc e t → g (f x) (wipeE e vs) t fun e1 t1 => tt e1 t1 (fun b e2 t2 => if b = true then we e2 t2 (fun y e3 t3 => acc.length < sizeLine ∧ K (acc ++ [y]) (wipeE e3 vs) t3) noX else K acc (wipeE e2 vs) t2) noX)
    (fin : ∀ acc e t, I l acc e t → Q acc e t) {e : Ev} {t : Th} (h : I [] [] e t) : wLcL g tt we vs (l.map f) [] e t Q := by
  refine lcL_ind (fun rest acc e t => ∃ done todo, l = done ++ todo ∧ rest = todo.map f ∧ I done acc e t) (fun d rest acc K e t hK h => ?_) (fun acc e t h => ?_) _ [] e t ⟨[], l, rfl, rfl, h⟩
  · obtain ⟨done, todo, hl, hr, hi⟩ := h
    cases todo with
    | nil => cases hr
    | cons x todo =>
      rw [List.map_cons] at hr
      injection hr with h1 h2
      subst h1
      exact step done x todo acc K e t hl (fun acc e t q => hK acc e t ⟨done ++ [x], todo, by rw [hl]; simp, h2, q⟩) hi
  · obtain ⟨done, todo, hl, hr, hi⟩ := h
    cases todo with
    | nil => rw [List.append_nil] at hl; subst hl; exact fin acc e t hi
    | cons x todo => cases hr
/-- [h x for x in l] with nothing else moving -/
theorem lc_list {α : Type} {f : α → D} {g : WG Th} {tt : WT Th} {we : WE Th} {vs : List Nat} {Q : List D → Ev → Th → Prop} {e0 : Ev} {t0 : Th} (l : List α) (p : α → Bool) (y : α → D) (hz : l.length ≤ sizeLine)
    (step : ∀ x, x ∈ l → ∀ (acc : List D) (K : List D → Ev → Th → Prop), acc.length < sizeLine → K (if p x = true then acc ++ [y x] else acc) e0 t0 → g (f x) (wipeE e0 vs) t0 fun e1 t1 => tt e1 t1 (fun b e2 t2 => if b = true then we e2 t2 (fun y e3 t3 => acc.length < sizeLine ∧ K (acc ++ [y]) (wipeE e3 vs) t3) noX else K acc (wipeE e2 vs) t2) noX)
    (fin : Q ((l.filter p).map y) e0 t0) : wLcL g tt we vs (l.map f) [] e0 t0 Q := by
  refine lcL_list l (fun done acc e t => e = e0 ∧ t = t0 ∧ acc = (done.filter p).map y) (fun done x todo acc K e t hl hK h => ?_) (fun acc e t h => ?_) ⟨rfl, rfl, rfl⟩
  · obtain ⟨rfl, rfl, rfl⟩ := h
    have h1 : ((done.filter p).map y).length ≤ done.length := by rw [List.length_map]; exact List.length_filter_le _ _
    have h2 : l.length = done.length + (todo.length + 1) := by rw [hl]; simp
    refine step x (by rw [hl]; simp) _ K (by omega) (hK _ _ _ ⟨rfl, rfl, ?_⟩)
    rw [List.filter_append, List.map_append]
    by_cases hp : p x = true
    · rw [if_pos hp, List.filter_cons_of_pos hp]; rfl
    · rw [if_neg hp, List.filter_cons_of_neg hp]; simp
  · obtain ⟨rfl, rfl, rfl⟩ := h
    exact fin
theorem dcL_list {α : Type} {f : α → D} {g : WG Th} {tt : WT Th} {wk wv : WE Th} {vs : List Nat} {Q : List (Key × D) → Ev → Th → Prop} (l : List α) (I : List α → List (Key × D) → Ev → Th → Prop)
    (step : ∀ done x todo acc (K : List (Key × D) → Ev → Th → Prop) e t, l = done ++ x :: todo → (∀ acc e t, I (done ++ [x]) acc e t → K acc e t) → I done acc e t → g (f x) (wipeE e vs) t fun e1 t1 => tt e1 t1 (fun b e2 t2 => if b = true then wk e2 t2 (fun kd e3 t3 => wv e3 t3 (fun y e4 t4 => ∃ key, toK kd = some key ∧ acc.length < sizeLine ∧ K (putD acc key y) (wipeE e4 vs) t4) noX) noX else K acc (wipeE e2 vs) t2) noX)
    (fin : ∀ acc e t, I l acc e t → Q acc e t) {e : Ev} {t : Th} (h : I [] [] e t) : wDcL g tt wk wv vs (l.map f) [] e t Q := by
  refine dcL_ind (fun rest acc e t => ∃ done todo, l = done ++ todo ∧ rest = todo.map f ∧ I done acc e t) (fun d rest acc K e t hK h => ?_) (fun acc e t h => ?_) _ [] e t ⟨[], l, rfl, rfl, h⟩
  · obtain ⟨done, todo, hl, hr, hi⟩ := h
    cases todo with
    | nil => cases hr
    | cons x todo =>
      rw [List.map_cons] at hr
      injection hr with h1 h2
      subst h1
      exact step done x todo acc K e t hl (fun acc e t q => hK acc e t ⟨done ++ [x], todo, by rw [hl]; simp, h2, q⟩) hi
  · obtain ⟨done, todo, hl, hr, hi⟩ := h
    cases todo with
    | nil => rw [List.append_nil] at hl; subst hl; exact fin acc e t hi
    | cons x todo => cases hr
end
theorem putD_new {κ : Type} [DecidableEq κ] {l : List (κ × D)} {k : κ} {v : D} (h : k ∉ l.map (·.1)) : putD l k v = l ++ [(k, v)] := by
  unfold putD
  rw [if_neg]
  intro e
  obtain ⟨p, hp, e⟩ := List.any_eq_true.mp e
  exact h (List.mem_map.mpr ⟨p, hp, by simpa using e⟩)
theorem valD_none {κ : Type} [DecidableEq κ] {α : Type} {l : List (κ × α)} {k : κ} (h : k ∉ l.map (·.1)) : valD l k = none := by
  unfold valD
  rw [List.find?_eq_none.mpr]
  · rfl
  · intro p hp e
    exact h (List.mem_map.mpr ⟨p, hp, by simpa using e⟩)
end VL

set_option Elab.async false
set_option linter.all false
set_option maxRecDepth 100000
set_option maxHeartbeats 1000000
namespace VL
open PySem PySem.Spec PyProof.Rows L2
/-! a list of one's own read by an expression that gives something flat, and owned again behind it -/
section
variable {Th : Type} {B : Bs Th} {W : WX} {X : Cx} {ex : Expr}
def wThawL (i : Nat) (w : WE Th) : WE Th := fun e t Q _ => ∃ l, e[i]? = some (.ow (.lst l)) ∧ (∀ (j : Nat) (d : D), j ≠ i → e[j]? ≠ some (.ow d)) ∧ w (e.set i (.sh (.lst l))) t (fun d e1 t1 => flatD d = true ∧ e1 = e.set i (.sh (.lst l)) ∧ Q d e t1) noX
theorem de_thawL (i : Nat) {w : WE Th} (hJ : ∀ (t : Th) (F F' H : Hp), B.M.J t F H → B.M.J t F' H) (h : PE X ex (liftE B W w)) : PE X ex (liftE B W (wThawL i w)) := weakE h (by
  rintro σ H Q ⟨F, t, e, Qd, Ed, S, eo, ⟨l, hs, hno, hw⟩, hq⟩
  obtain ⟨a, ea, ⟨hF, vs, hH, rl⟩, h0, hfp⟩ := S.ow i _ hs
  have hi : i < e.length := (List.getElem?_eq_some_iff.mp hs).1
  have le : L2.Same F (upd F a (.lst vs)) := same_upd hF
  have getn : ∀ j x, (e.set i (.sh (.lst l)))[j]? = some x → j ≠ i → e[j]? = some x := fun j x q hj => by rw [List.getElem?_set_ne (Ne.symm hj)] at q; exact q
  have inS : ∀ c, InSl (e.set i (.sh (.lst l))) σ c → InSl e σ c := fun c ⟨j, d, q1, q2⟩ => by
    by_cases hj : j = i
    · subst hj; rw [List.getElem?_set_self hi] at q1; cases q1
    · exact ⟨j, d, getn j _ q1 hj, q2⟩
  have sub : L2.Same (upd F a (.lst vs)) H := fun b o q => by
    by_cases hb : b = a
    · subst hb; rw [upd_same] at q; cases q; exact hH
    · rw [upd_ne hb] at q; exact S.sub b o q
  have S1 : SR B (upd F a (.lst vs)) t (e.set i (.sh (.lst l))) σ H := by
    refine ⟨⟨S.af.le.trans le, sub, fun c o q nt n => ?_, S.af.same, S.af.there, fun c hc => ?_, hJ _ _ _ _ S.af.j⟩, by rw [List.length_set]; exact S.len, fun j d q => ?_, fun j d q => ?_, fun j k d d' c q1 q2 q3 q4 => ?_⟩
    · rw [upd_ne (ne_of_none q h0)]; exact S.af.new c o q nt n
    · obtain ⟨k1, k2, k3⟩ := S.af.fpn c hc
      have hca : c ≠ a := fun z => hfp (by rw [← z]; exact hc)
      exact ⟨by rw [upd_ne hca]; exact k1, k2, k3⟩
    · by_cases hj : j = i
      · subst hj
        rw [List.getElem?_set_self hi] at q
        cases q
        exact ⟨_, ea, by unfold Rep; exact ⟨a, vs, rfl, upd_same, rl.mono le⟩⟩
      · obtain ⟨v, q1, q2⟩ := S.sh j d (getn j _ q hj)
        exact ⟨v, q1, q2.mono le⟩
    · by_cases hj : j = i
      · subst hj; rw [List.getElem?_set_self hi] at q; cases q
      · exact absurd (getn j _ q hj) (hno j d hj)
    · by_cases hj : j = i
      · subst hj; rw [List.getElem?_set_self hi] at q1; cases q1
      · exact absurd (getn j _ q1 hj) (hno j d hj)
  refine ⟨_, t, _, _, noX, S1, fun _ _ _ _ _ _ _ _ _ z => z.elim, hw, fun v H2 F2 t2 e2 d S2 L2' r2 q2 => ?_⟩
  obtain ⟨fl, rfl, q⟩ := q2
  have F2a : F2 a = some (.lst vs) := L2'.le a _ upd_same
  have H2a : H2 a = some (.lst vs) := S2.sub a _ F2a
  have leF : L2.Same F F2 := le.trans L2'.le
  have nfp : a ∉ B.M.fp t2 := fun hm => by
    have := (S2.af.fpn a hm).1
    rw [F2a] at this; cases this
  have S3 : SR B F t2 e σ H2 := by
    refine ⟨⟨S.af.le, fun b o q => S2.sub b o (leF b o q), S.af.new, S2.af.same, S2.af.there, fun c hc => ?_, hJ _ _ _ _ S2.af.j⟩, S.len, S.sh, fun j d q => ?_, S.sep⟩
    · obtain ⟨k1, k2, k3⟩ := S2.af.fpn c hc
      refine ⟨?_, k2, k3⟩
      cases z : F c with
      | none => rfl
      | some o => have := leF c o z; rw [k1] at this; cases this
    · by_cases hj : j = i
      · subst hj
        rw [hs] at q
        cases q
        exact ⟨a, ea, ⟨hF, vs, H2a, rl⟩, h0, nfp⟩
      · exact absurd q (hno j d hj)
  refine hq v H2 F t2 e d S3 ⟨L2.Same.refl F, L2'.there, fun _ z => z, fun c o q1 nt q2 q3 q4 => ?_⟩ (flat_rep fl r2) q
  have hca : c ≠ a := fun z => q4 ⟨i, _, hs, z ▸ ea⟩
  obtain ⟨k1, _, k3⟩ := L2'.keep c o q1 nt (by rw [upd_ne hca]; exact q2) q3 fun z => q4 (inS c z)
  exact ⟨k1, q2, k3⟩)
end
theorem j_src : ∀ (t : Th1) (F F' H : Hp), srcW.J t F H → srcW.J t F' H := fun _ _ _ _ h => h
theorem j_m0 : ∀ (t : Unit) (F F' H : Hp), M0.J t F H → M0.J t F' H := fun _ _ _ _ h => h
end VL

set_option Elab.async false
set_option linter.all false
set_option maxRecDepth 100000
set_option maxHeartbeats 1000000
namespace VL
open PySem PySem.Spec PyProof.Rows L2
theorem wipe_len (e : Ev) : ∀ vs, (wipeE e vs).length = e.length
  | [] => rfl
  | v :: vs => by unfold wipeE; rw [List.length_set]; exact wipe_len e vs
theorem wipe_at (e : Ev) : ∀ (vs : List Nat) (i : Nat), (wipeE e vs)[i]? = if i ∈ vs ∧ i < e.length then some .un else e[i]?
  | [], i => by unfold wipeE; simp
  | v :: vs, i => by
    unfold wipeE
    rw [List.getElem?_set, wipe_len, wipe_at e vs i]
    by_cases h : v = i
    · subst h
      by_cases h2 : v < e.length
      · simp [h2]
      · simp [h2]
    · have h3 : ¬ i = v := fun z => h z.symm
      simp [h, h3]
theorem wipe_twice (e : Ev) (vs : List Nat) : wipeE (wipeE e vs) vs = wipeE e vs := by
  apply List.ext_getElem?
  intro i
  rw [wipe_at, wipe_at, wipe_len]
  split <;> rfl
/-- as lc_list, the comprehension's own names held before it -/
theorem lc_listW {Th : Type} {α : Type} {f : α → D} {g : WG Th} {tt : WT Th} {we : WE Th} {vs : List Nat} {Q : List D → Ev → Th → Prop} {e0 : Ev} {t0 : Th} (l : List α) (p : α → Bool) (y : α → D) (hz : l.length ≤ sizeLine)
    (step : ∀ x, x ∈ l → ∀ (acc : List D) (K : List D → Ev → Th → Prop), acc.length < sizeLine → K (if p x = true then acc ++ [y x] else acc) (wipeE e0 vs) t0 → g (f x) (wipeE e0 vs) t0 fun e1 t1 => tt e1 t1 (fun b e2 t2 => if b = true then we e2 t2 (fun y e3 t3 => acc.length < sizeLine ∧ K (acc ++ [y]) (wipeE e3 vs) t3) noX else K acc (wipeE e2 vs) t2) noX)
    (fin : ∀ e, e = e0 ∨ e = wipeE e0 vs → Q ((l.filter p).map y) e t0) : wLcL g tt we vs (l.map f) [] e0 t0 Q := by
  refine lcL_list l (fun done acc e t => (e = e0 ∨ e = wipeE e0 vs) ∧ t = t0 ∧ acc = (done.filter p).map y) (fun done x todo acc K e t hl hK h => ?_) (fun acc e t h => ?_) ⟨.inl rfl, rfl, rfl⟩
  · obtain ⟨he, rfl, rfl⟩ := h
    have ew : wipeE e vs = wipeE e0 vs := by
      rcases he with rfl | rfl
      · rfl
      · exact wipe_twice _ _
    rw [ew]
    have h1 : ((done.filter p).map y).length ≤ done.length := by rw [List.length_map]; exact List.length_filter_le _ _
    have h2 : l.length = done.length + (todo.length + 1) := by rw [hl]; simp
    refine step x (by rw [hl]; simp) _ K (by omega) (hK _ _ _ ⟨.inr rfl, rfl, ?_⟩)
    rw [List.filter_append, List.map_append]
    by_cases hp : p x = true
    · rw [if_pos hp, List.filter_cons_of_pos hp]; rfl
    · rw [if_neg hp, List.filter_cons_of_neg hp]; simp
  · obtain ⟨he, rfl, rfl⟩ := h
    exact fin e he
end VL

set_option Elab.async false
set_option linter.all false
namespace VL
open PySem PySem.Spec PyProof.Rows L2
/-- where the classes stand -/
structure CS where
  (Standing House Console Lexer Line Chains Sharings Losses Search : Addr)
  (CrowdError UnlikePeople EvenVoices OddVoices TooGreat NothingDone BadStanding NoLead BadCall BadNumber BadText BadAct NameMissing UnknownName : Addr)
theorem seq_step {Th : Type} {w rest : WS Th} {n : En Th} {e : Ev} {t : Th} (h : ∀ K : Ev → Th → Prop, (∀ e t, rest n e t → K e t) → w { n with nx := K } e t) : wSeq w rest n e t := h _ fun _ _ q => q
end VL

set_option Elab.async false
set_option linter.all false
set_option maxRecDepth 100000
set_option maxHeartbeats 1000000
namespace VL
open PySem PySem.Spec PyProof.Rows L2
/-! dict(..): of a list of pairs, of a dict -/
def pairD (e : Key × D) : D := .tup [keyD e.1, e.2]
def gDict : GL := fun ds k => match ds with
  | [.lst l] => ∃ kvs, l = kvs.map pairD ∧ k (.ow (.dk (mergeD kvs)))
  | [.dk l] => k (.ow (.dk l))
  | [.pt l] => ∃ kvs, l = kvs.map pairD ∧ k (.ow (.dk (mergeD kvs)))
  | _ => False
def rDictT : List V → Hp → VK → Prop := fun xs H Q => ∃ (a : Addr) (o : Obj) (ps : List Addr) (kvs : List (Key × V)), xs = [.ref a] ∧ H a = some (.frz o (.tup (ps.map V.ref))) ∧ o.dict = none ∧ (∀ K : PySem.W.Frag, Paired (fun p kv => SqT K H p [kV kv.1, kv.2]) ps kvs) ∧ ∀ p, H p = none → Q (.ref p) (upd H p (.dK (mergeK [] kvs)))
def rDictA (K : PySem.W.Frag) : List V → Hp → VK → Prop := fun xs H Q =>
  (∃ (a : Addr) (ps : List Addr) (kvs : List (Key × V)), xs = [.ref a] ∧ SqL K H a (ps.map V.ref) ∧ Paired (fun p kv => SqT K H p [kV kv.1, kv.2]) ps kvs ∧ ∀ p, H p = none → Q (.ref p) (upd H p (.dK (mergeK [] kvs)))) ∨
  (∃ (a : Addr) (kvs : List (Key × V)), xs = [.ref a] ∧ L2.Rd H a (.dK kvs) ∧ ∀ p, H p = none → Q (.ref p) (upd H p (.dK kvs))) ∨ rDictT xs H Q
theorem pairs_both {X : Cx} {pins : List (Addr × Obj)} {σ : L2.St} {H : Hp} {s : Shared} (I : Inv X pins σ H s) : ∀ {ps : List Addr} {kvs : List (Key × V)}, Paired (fun p kv => SqT X.K H p [kV kv.1, kv.2]) ps kvs →
    ∃ (prs : List (Key × Value)) (vps : List (Value × Value)), KV kvs prs ∧ prs.length = ps.length ∧ vps.length = ps.length ∧
      ∀ (j : Nat) (key v : Value), vps[j]? = some (key, v) → ∃ (b : Addr) (k : Key), ps[j]? = some b ∧ prs[j]? = some (k, v) ∧ IsTup s.heap b #[key, v] ∧ keyIs k key = true
  | _, _, .nil => ⟨[], [], .nil, rfl, rfl, fun j _ _ e => by simp at e⟩
  | _, _, .cons (a := p) (b := kv) h t => by
    obtain ⟨prs, vps, r, hl, hl2, hp⟩ := pairs_both I t
    obtain ⟨its, rv, ht, _⟩ := I.tuple h
    obtain ⟨u, y, rfl, ru, ry⟩ := vals2 rv
    refine ⟨(kv.1, y) :: prs, (u, y) :: vps, .cons ⟨rfl, ry⟩ r, by simp [hl], by simp [hl2], fun j key v e => ?_⟩
    cases j with
    | zero =>
      cases (Option.some.inj e : (u, y) = (key, v))
      exact ⟨p, kv.1, rfl, rfl, ht, kV_is (P := X.prog) (w := X.w) ru⟩
    | succ j =>
      obtain ⟨b, k, e1, e2, e3, e4⟩ := hp j key v (by simpa using e)
      exact ⟨b, k, by simpa using e1, by simpa using e2, e3, e4⟩
theorem call_dictT {X : Cx} (hc : X.calm = true) : CallR X (.type "dict") rDictT := by
  intro pins s σ H xs us Q I r q
  obtain ⟨a, o, ps, kvs, rfl, ha, hd, hp, q⟩ := q
  obtain ⟨u, rfl, rx⟩ := vals1 r
  cases rx
  obtain ⟨hget, hz, its, rv, o', ho', hcls, n, hdat⟩ := (show ObjOk X.prog X.w H s.heap a (.frz o (.tup (ps.map V.ref))) from I.hok a _ ha)
  have eo : o = o' := by rw [hget] at ho'; exact Option.some.inj ho'
  subst eo
  have ei := refs_at rv
  subst ei
  rw [List.length_map] at hz
  obtain ⟨prs, vps, rel, hl, hl2, hpr⟩ := pairs_both I (hp X.K)
  have ok : PySem.PlainSeq "tuple" s.heap a (ps.map Value.ref).toArray ∧ PySem.PairItems s.heap (ps.map Value.ref).toArray (fun j => ps.getD j 0) vps := by
    refine ⟨⟨o, n, hget, hcls, hd, hdat⟩, by simp [hl2], fun j k v hj => ?_⟩
    obtain ⟨b, k', e1, e2, e3, e4⟩ := hpr j k v hj
    have eb : ps.getD j 0 = b := by simp [List.getD, e1]
    refine ⟨?_, .inl ?_⟩
    · simp only [eb]
      simp [e1]
    · simp only [eb]
      exact e3
  refine PySem.call_dict_pairs (knd := mixKind X.prog X.w) (kvs := prs) (PySem.PairArg.tuple a _ _ vps) (I.ok.hd hc) ok ⟨by rw [hl, hl2], fun i key v hr => ?_⟩ (by rw [hl2]; exact hz) fun h' tk hd' k => ?_
  · obtain ⟨b, k', e1, e2, e3, e4⟩ := hpr i key v hr
    exact ⟨k', e2, e4⟩
  · have hm : (s.heap.objs.size == sysModules) = false := beq_eq_false_iff_ne.mpr (Nat.ne_of_gt I.big)
    have hlen : (mergeK [] kvs).length ≤ sizeLine := by
      refine Nat.le_trans (length_mergeK kvs []) ?_
      rw [List.length_nil, Nat.zero_add, rel.length, hl]
      exact hz
    exact ⟨.ref s.heap.objs.size, L2.upd H s.heap.objs.size (.dK (mergeK [] kvs)), I.laid (t' := tk) (fun b o e => k b o (by simp) e) (Nat.le_refl _) (show ObjOk X.prog X.w _ _ _ (.dK (mergeK [] kvs)) from ⟨hlen, hm, merged [] prs, KV.merge rel .nil, hd'⟩), rfl, q _ (I.hok.fresh (Nat.le_refl _))⟩
theorem call_dictA {X : Cx} (hc : X.calm = true) : CallR X (.type "dict") (rDictA X.K) := by
  intro pins s σ H xs us Q I r q
  rcases q with q | ⟨a, kvs, rfl, hd, q⟩ | q
  · exact call_dictP hc pins s σ H xs us Q I r q
  · obtain ⟨u, rfl, rx⟩ := vals1 r
    cases rx
    refine d_copyOf I hd fun p s' hp I' => ⟨.ref p, _, I', (show L2.RelV (V.ref p) (Value.ref p) from rfl), q p hp⟩
  · exact call_dictT hc pins s σ H xs us Q I r q
theorem pairs_rep {K : PySem.W.Frag} {F H : Hp} (s : L2.Same F H) : ∀ {kvs : List (Key × D)} {vs : List V}, RepL K F (kvs.map pairD) vs → ∃ (ps : List Addr) (us : List (Key × V)), vs = ps.map V.ref ∧ (∀ K' : PySem.W.Frag, Paired (fun p kv => SqT K' H p [kV kv.1, kv.2]) ps us) ∧ RepK K F kvs us
  | [], vs, h => by
    rw [List.map_nil] at h
    unfold RepL at h
    exact ⟨[], [], h, fun _ => .nil, by unfold RepK; rfl⟩
  | (k, d) :: kvs, vs, h => by
    rw [List.map_cons] at h
    unfold RepL at h
    obtain ⟨x, r, rfl, hx, hr⟩ := h
    obtain ⟨ps, us, rfl, hp, hk⟩ := pairs_rep s hr
    obtain ⟨a, ws, rfl, ha, hw⟩ := rep_tup.mp (show Rep K F (.tup [keyD k, d]) x from hx)
    obtain ⟨y, z, rfl, hy, hz⟩ := repL2 hw
    have hy' : y = kV k := by
      have := rep_key (K := K) (F := F) k
      cases k
      · exact (rep_int (K := K) (F := F)).mp hy
      · exact (rep_str (K := K) (F := F)).mp hy
    subst hy'
    exact ⟨a :: ps, (k, z) :: us, rfl, fun K' => .cons (SqT.of (s _ _ ha)) (hp K'), by unfold RepK; exact ⟨z, us, rfl, hz, hk⟩⟩
theorem ok_dict {K : PySem.W.Frag} : OkL K (rDictA K) gDict := by
  intro F H xs ds k Q s r g q
  unfold gDict at g
  split at g
  · obtain ⟨kvs, rfl, g⟩ := g
    obtain ⟨x, rfl, rx⟩ := redL1 r
    obtain ⟨a, vs, rfl, ha, rl⟩ := red_lst rx
    obtain ⟨ps, us, rfl, hp, hk⟩ := pairs_rep s rl
    exact .inl ⟨a, ps, us, rfl, SqL.of ha, hp K, fun p hp => q _ _ _ (.dk hp (repK_merge hk (by unfold RepK; rfl))) g⟩
  · obtain ⟨x, rfl, rx⟩ := redL1 r
    obtain ⟨a, vs, rfl, ha, rl⟩ := red_dk rx
    exact .inr (.inl ⟨a, vs, rfl, ha, fun p hp => q _ _ _ (.dk hp rl) g⟩)
  · obtain ⟨kvs, rfl, g⟩ := g
    obtain ⟨x, rfl, rx⟩ := redL1 r
    obtain ⟨a, o, vs, rfl, ha, hd, rl⟩ := red_pt rx
    obtain ⟨ps, us, rfl, hp, hk⟩ := pairs_rep (K := K) s rl
    exact .inr (.inr ⟨a, o, ps, us, rfl, s _ _ ha, hd, hp, fun p hp => q _ _ _ (.dk hp (repK_merge hk (by unfold RepK; rfl))) g⟩)
  · exact g.elim
/-! a written tuple whose object is known -/
def tTupF (t : TA) : TE := fun σ H Q => t σ H fun xs H1 => xs.length ≤ sizeLine ∧ ∀ (p : Addr) (o : Obj), o.dict = none → H1 p = none → Q (.ref p) (upd H1 p (.frz o (.tup xs)))
theorem pe_tupF {X : Cx} {es : List Expr} {t : TA} {x1 : Nat} {pos : Pos} (h : PA X es t) : PE X (.Tuple es x1 pos) (tTupF t) := by
  refine ⟨fun pins s σ H Q I hq => ?_⟩
  refine wpAny_Tuple_spliced (thn (h.run pos pins s σ H _ I hq) fun us s1 ⟨xs, H1, I1, r, z, q⟩ => ⟨by rw [← r.length]; exact z, ?_⟩)
  have hf : H1 s1.heap.objs.size = none := I1.hok.fresh (Nat.le_refl _)
  refine ⟨.ref s1.heap.objs.size, _, I1.laid (t' := s1.toks) (fun b u e => Heap.get?_push_of_some _ e) (Nat.le_refl _) ?_, rfl, q _ { cls := .type "tuple", data := .seq us.toArray } rfl hf⟩
  exact ⟨Heap.get?_push_size _ rfl, z, us, r, ⟨_, Heap.get?_push_size _ rfl, rfl, _, rfl⟩⟩
section
variable {Th : Type} {B : Bs Th} {W : WX} {X : Cx} {pos : Pos} {es : List Expr} {ws : WA Th}
def wTupF (ws : WA Th) : WE Th := fun e t Q E => ws e t (fun l e1 t1 => l.length ≤ sizeLine ∧ Q (.pt l) e1 t1) E
theorem de_tupF {x1 : Nat} (h : PA X es (liftA B W ws)) : PE X (.Tuple es x1 pos) (liftE B W (wTupF ws)) := weakE (pe_tupF h) (by
  rintro σ H Q ⟨F, t, e, Qd, Ed, S, eo, hw, hq⟩
  refine ⟨F, t, e, _, Ed, S, eo, hw, fun vs H1 F1 t1 e1 ds S1 L1 r1 q1 => ?_⟩
  refine ⟨by rw [r1.length]; exact q1.1, fun p o ho hp => ?_⟩
  have le := same_upd (o := HO.frz o (.tup vs)) (S1.sub.free hp)
  exact hq _ _ _ t1 e1 _ (S1.fresh hp) (L1.trans (.fresh hp (S1.sub.free hp))) (by unfold Rep; exact ⟨p, o, vs, rfl, upd_same, ho, r1.mono le⟩) q1.2)
end
end VL

set_option Elab.async false
set_option linter.all false
set_option maxRecDepth 100000
set_option maxHeartbeats 1000000
namespace VL
open PySem PySem.Spec PyProof.Rows L2
/-! raise X(), X an own class of errors without an __init__ of its own -/
theorem pmk_own0 {X : Cx} {C : Addr} {bmB : List Value} {B newId initId : String} {x : Str} {p pos : Pos} (F : ExcBaseFacts B newId initId bmB) (q : PySem.W.excIn X.K C bmB newId = true) (gC : X.mg x = some (.ref C))
    (kC : PySem.W.keepIn X.K (.ref C) = true) (r : Raises X (.ref C)) (hg : Gl X x) (hdb : (x == ("__debug__" : Str)) = false := by decide) :
    PMk X (.Call (.Name x p) [] [] pos) (fun _ H Q => Q (.ref C) none H) := by
  intro pins s σ H Q I h
  refine wpAny_Call_Name_kw (ld_glob I hg gC ?_ hdb)
  refine PySem.W.callWith_K0 (first := []) I.kIn kC ?_
  show wpAny _ _ (call (.ref C) []) _ _ _
  obtain ⟨bm, N, nm, qn, bs, hdct, sn, sub, ab, col, dd, k0, k1, k2, k3, k5, mN, hC, hN, hni, T⟩ := exc_obj I.kIn q
  exact wpAny_call_exc_subT F T hC hN hni (fun h' e hm => mk_of I hm r h (I.hok.gone hm.new)) (Nat.zero_le _)
section
variable {Th : Type} {B : Bs Th} {W : WX} {X : Cx} {pos pos' np : Pos}
def wRaise (cls : Value) : WS Th := fun n e t => n.ex ⟨cls, []⟩ e t
/-- facts of an error class -/
structure Err (K : PySem.W.Frag) (mg : Str → Option Value) (C : Addr) (x : Str) : Prop where
  ex : PySem.W.excIn K C [.type "ValueError", .type "Exception", .type "BaseException", .type "object"] "ValueError.__new__" = true
  gl : mg x = some (.ref C)
  kp : PySem.W.keepIn K (.ref C) = true
  sb : PySem.W.subIn K (.ref C) (.type "BaseException") = some true
  ty : PySem.W.typeIn K (.ref C) = some (.type "type")
theorem ds_raise0 {C : Addr} {x : Str} {p : Pos} (hc : X.calm = true) (tk : Takes X W) (f : Err X.K X.mg C x) (hg : Gl X x := by rfl) (hdb : (x == ("__debug__" : Str)) = false := by decide) :
    PS X (.Raise (some (.Call (.Name x p) [] [] pos)) none pos') (liftS B W (wRaise (.ref C))) := weakS (ps_raise hc tk (pmk_own0 PySem.F.excBase_ValueError f.ex f.gl f.kp (raises_own f.sb f.ty) hg hdb)) (by
  rintro D σ H ⟨F, t, e, n, S, eo, hw, _⟩
  exact eo σ ⟨.ref C, []⟩ F t e H (.ref C) none S ⟨rfl, .inl rfl⟩ hw)
/-- which errors a clause takes -/
theorem exm_mk {K : PySem.W.Frag} {S T : Addr} {b : Bool} (h1 : PySem.W.subIn K (.ref T) (.type "BaseException") = some true) (h2 : PySem.W.isClsIn K T = true) (h3 : PySem.W.typeIn K (.ref T) = some (.type "type")) (h4 : PySem.W.subIn K (.ref S) (.ref T) = some b) :
    PySem.W.exmOne K (.ref S) (.ref T) = some b := by
  have h2' : (PySem.W.clsIn K T).isSome = true := h2
  unfold PySem.W.exmOne PySem.W.kitCls
  simp [h1, h2', h3, h4]
/-! another base of what is frozen -/
def Bs.at_ (B : Bs Th) (F : Hp) : Bs Th := { B with F0 := F }
theorem SR.base {F H : Hp} {t : Th} {e : Ev} {σ : L2.St} (S : SR B F t e σ H) : SR (B.at_ F) F t e σ H :=
  ⟨⟨L2.Same.refl F, S.af.sub, fun a o e1 nt n => n, S.af.same, S.af.there, S.af.fpn, S.af.j⟩, S.len, S.sh, S.ow, S.sep⟩
theorem After.unbase {F F' H' : Hp} {t t' : Th} {e : Ev} {σ : L2.St} {H : Hp} (S : SR B F t e σ H) (a : After B.M F B.t0 B.H0 F' t' H') : After B.M B.F0 B.t0 B.H0 F' t' H' :=
  ⟨S.af.le.trans a.le, a.sub, fun b o e1 nt n => a.new b o e1 nt (S.af.new b o e1 nt n), a.same, a.there, a.fpn, a.j⟩
theorem SR.unbase {F F' H H' : Hp} {t t' : Th} {e e' : Ev} {σ σ' : L2.St} (S : SR B F t e σ H) (S' : SR (B.at_ F) F' t' e' σ' H') : SR B F' t' e' σ' H' ∧ L2.Same F F' :=
  ⟨⟨After.unbase S S'.af, S'.len, S'.sh, S'.ow, S'.sep⟩, S'.af.le⟩
/-- try: body / except x: suite; mt tells of each class of error that may come whether the clause takes it -/
def wTry (mt : List (Value × Bool)) (wb ws : WS Th) : WS Th := fun n e t => wb { n with ex := fun x e' t' => ∃ b, (x.cls, b) ∈ mt ∧ if b = true then ws { n with ex := noX } e' t' else n.ex x e' t' } e t
theorem ds_try {x : Str} {c : Value} {b₀ : Stmt} {body suite : List Stmt} {wb ws : WS Th} (mt : List (Value × Bool)) (hs : X.stack = X.env :: X.outer) (hf : X.env.frame = some X.env.locals) (hc : Names X x c) (tk : Takes X W)
    (hm : ∀ p ∈ mt, PySem.W.exmOne X.K p.1 c = some p.2)
    (hb : ∀ (F0 : Hp) (W : WX) (pn : List (Addr × Obj)) (xe : Value → Shared → Prop), Takes (X.tr pn xe) W → PassesOwn (model X.prog X.w) X.A X.env xe → PSs (X.tr pn xe) body (liftS (B.at_ F0) W wb))
    (hsu : ∀ (F0 : Hp) (a : Addr) (oe : Obj) (pn : List (Addr × Obj)), PSs (X.suite a ((a, oe) :: pn)) (b₀ :: suite) (liftS (B.at_ F0) NX ws)) :
    PS X (.Try body [.ExceptHandler (some (.Name x np)) none (b₀ :: suite) pos'] [] [] pos) (liftS B W (wTry mt wb ws)) := by
  refine weakS (ps_try_only (tb := fun W D σ H => ∃ F0, liftS (B.at_ F0) W wb D σ H) (ts := fun _ _ _ D σ H => ∃ F0, liftS (B.at_ F0) NX ws D σ H) hs hf hc tk (fun W' pn xe tk' hp => ?_) (fun a oe cls d pn hz hv => ?_)) ?_
  · exact ⟨fun pins s σ H D I ⟨F0, h⟩ => (hb F0 W' pn xe tk' hp).run pins s σ H D I h⟩
  · exact ⟨fun pins s σ H D I ⟨F0, h⟩ => (hsu F0 a oe pn).run pins s σ H D I h⟩
  · rintro D σ H ⟨F, t, e, n, S, eo, hw, h1, h2, h3, h4⟩
    refine ⟨F, F, t, e, _, S.base, ?_, hw, ?_, ?_, ?_, ?_⟩
    · rintro σ' x F' t' e' H' cls d S' rx ⟨b, hbm, hcase⟩
      refine ⟨b, by rw [← rx.1]; exact hm _ hbm, fun hbt a ha => ?_, fun hbf => ?_⟩
      · rw [if_pos hbt] at hcase
        refine ⟨F, F', t', e', _, S', fun _ => eok_no, hcase, ?_, ?_, ?_, ?_⟩
        · exact fun σ2 H2 F2 t2 e2 S2 le q => h1 σ2 H2 F2 t2 e2 (S.unbase S2).1 (S.unbase S2).2 q
        · exact fun v H2 F2 t2 r a2 le rr q => h2 v H2 F2 t2 r (After.unbase S a2) a2.le rr q
        · exact fun σ2 H2 F2 t2 e2 S2 le q => h3 σ2 H2 F2 t2 e2 (S.unbase S2).1 (S.unbase S2).2 q
        · exact fun σ2 H2 F2 t2 e2 S2 le q => h4 σ2 H2 F2 t2 e2 (S.unbase S2).1 (S.unbase S2).2 q
      · rw [if_neg (by rw [hbf]; decide)] at hcase
        exact eo σ' x F' t' e' H' cls d (S.unbase S').1 rx hcase
    · exact fun σ2 H2 F2 t2 e2 S2 le q => h1 σ2 H2 F2 t2 e2 (S.unbase S2).1 (S.unbase S2).2 q
    · exact fun v H2 F2 t2 r a2 le rr q => h2 v H2 F2 t2 r (After.unbase S a2) a2.le rr q
    · exact fun σ2 H2 F2 t2 e2 S2 le q => h3 σ2 H2 F2 t2 e2 (S.unbase S2).1 (S.unbase S2).2 q
    · exact fun σ2 H2 F2 t2 e2 S2 le q => h4 σ2 H2 F2 t2 e2 (S.unbase S2).1 (S.unbase S2).2 q
end
end VL

set_option Elab.async false
set_option linter.all false
namespace VL
open PySem PySem.Spec PyProof.Rows L2
end VL

set_option Elab.async false
set_option linter.all false
set_option maxRecDepth 100000
set_option maxHeartbeats 4000000
namespace VL
open PySem PySem.Spec PyProof.Rows L2
/-! what the defs promise -/
def Has (p : Addr) (t : Th1) : Prop := ∃ s, t = some s ∧ s.a = p
/-- a person: name, place, voice -/
structure Pn where
  n : Str
  p : Int
  v : Int
def pD (x : Pn) : D := .tup [.str x.n, .int x.p, .int x.v]
def lets : List Nat := ("abcdefghijklmnopqrstuvwxyz" : Str).cps.toList
def figs : List Nat := ("0123456789" : Str).cps.toList
/-- a text is a word -/
def WordL (l : List Nat) : Prop := 1 ≤ l.length ∧ l.length ≤ 12 ∧ (∀ c, l[0]? = some c → c ∈ lets) ∧ ∀ c ∈ l, c ∈ lets ∨ c ∈ figs
def Word (x : Str) : Prop := WordL x.cps.toList
structure Good (l : List Pn) : Prop where
  nd : (l.map (·.n)).Nodup
  wd : ∀ x ∈ l, Word x.n
  vo : ∀ x ∈ l, x.v = 0 ∨ x.v = 1
  sz : l.length ≤ 1000
def stF (l : List Pn) : List (Str × D) := [("own_people", .dk (l.map fun x => (Sum.inr x.n, pD x)))]
def stD (C : CS) (l : List Pn) : D := .ins C.Standing (stF l)
def woD (C : CS) (l : List Pn) : D := .dk [(.inr "people", .lst (l.map pD)), (.inr "standing", stD C l)]
def strsD (l : List Str) : List D := l.map .str
def c__law_source (C : CS) : Ct Th1 := fun ds t Q _ => ∃ ns, ds = [.kt (intsD ns)] ∧ ns.length ≤ 1000 ∧ t = none ∧ ∀ p t', Has p t' → Q (.sh (.han p)) t'
def c__law_pick (C : CS) : Ct Th1 := fun ds t Q _ => ∃ p m, ds = [.han p, .int m] ∧ Has p t ∧ m.natAbs.log2 < 9000 ∧ ∀ t' r, Has p t' → 0 ≤ r → (r < m ∨ m < 1 ∧ r = 0) → Q (.sh (.int r)) t'
def c__law_of (C : CS) : Ct Th1 := fun ds t Q _ => ∃ p l, ds = [.han p, .lst l] ∧ Has p t ∧ 0 < l.length ∧ l.length ≤ 1000000 ∧ ∀ t' d, Has p t' → d ∈ l → Q (.sh d) t'
def c__law_mixed (C : CS) : Ct Th1 := fun ds t Q _ => ∃ p l, ds = [.han p, .lst l] ∧ Has p t ∧ l.length ≤ 1000000 ∧ ∀ t' l', Has p t' → l'.Perm l → Q (.ow (.lst l')) t'
def c__law_names (C : CS) : Ct Th1 := fun ds t Q _ => ∃ p m, ds = [.han p, .int m] ∧ Has p t ∧ 0 ≤ m ∧ m ≤ 90 ∧ ∀ t' l, Has p t' → l.length = m.toNat → l.Nodup → (∀ x ∈ l, Word x) → Q (.ow (.lst (strsD l))) t'
def c_is_row (C : CS) : Cp := fun ds Q _ => ∃ l n, ds = [.tup l, .int n] ∧ ∀ b, b = decide ((l.length : Int) = n) → Q (.sh (.bl b))
def c_is_integer (C : CS) : Cp := fun ds Q _ => ∃ i, ds = [.int i] ∧ Q (.sh (.bl true))
def c_is_word (C : CS) : Cp := fun ds Q _ => ∃ x, ds = [.str x] ∧ Word x ∧ Q (.sh (.bl true))
def c_wrong_person (C : CS) : Cp := fun ds Q _ => ∃ x l, ds = [pD x, .dk l] ∧ Word x.n ∧ valD l (.inr x.n) = none ∧ (x.v = 0 ∨ x.v = 1) ∧ Q (.sh .non)
def c_wrong_people (C : CS) : Cp := fun ds Q _ => ∃ l, ds = [.lst (l.map pD)] ∧ Good l ∧ Q (.sh .non)
def c_Standing_init (C : CS) : CpI := fun ds Q _ => ∃ l, ds = [.lst (l.map pD)] ∧ Good l ∧ Q (stD C l)
def c__law_made (C : CS) : Cp := fun ds Q _ => ∃ l, ds = [.lst (l.map pD)] ∧ Good l ∧ Q (.ow (woD C l))
def c__law_world (C : CS) : Ct Th1 := fun ds t Q _ => ∃ p m f r, ds = [.han p, .int m, .int f, .int r] ∧ Has p t ∧ 1 ≤ m ∧ m ≤ 12 ∧ 1 ≤ f ∧ f ≤ 100 ∧ 0 ≤ r ∧
  ∀ t' l, Has p t' → Good l → 1 ≤ l.length → (l.length : Int) ≤ m → (∀ x ∈ l, -2000 ≤ x.p ∧ x.p ≤ 2000) → (r < 2 → (l.map (·.v)).sum % 2 = r) → Q (.ow (woD C l)) t'
def turnV (ns : List Str) (x : Pn) : Pn := if x.n ∈ ns then { x with v := 1 - x.v } else x
def c__law_turned_voices (C : CS) : Cp := fun ds Q _ => ∃ l ns, ds = [woD C l, .lst (strsD ns)] ∧ Good l ∧ Q (.ow (woD C (l.map (turnV ns))))
def c__law_at (C : CS) : Cp := fun ds Q _ => ∃ l ps, ds = [woD C l, .tup (intsD ps)] ∧ Good l ∧ ps.length = l.length ∧ Q (.ow (woD C (l.zipWith (fun x p => { x with p := p }) ps)))
def c_Standing_has_name (C : CS) : Cp := fun ds Q _ => ∃ l n, ds = [stD C l, .str n] ∧ Good l ∧ n ∈ l.map (·.n) ∧ Q (.sh (.bl true))
def c_Standing_person (C : CS) : Cp := fun ds Q _ => ∃ l x, ds = [stD C l, .str x.n] ∧ Good l ∧ x ∈ l ∧ Q (.sh (pD x))
def c_Standing_place (C : CS) : Cp := fun ds Q _ => ∃ l x, ds = [stD C l, .str x.n] ∧ Good l ∧ x ∈ l ∧ Q (.sh (.int x.p))
def c_Standing_voice (C : CS) : Cp := fun ds Q _ => ∃ l x, ds = [stD C l, .str x.n] ∧ Good l ∧ x ∈ l ∧ Q (.sh (.int x.v))
def c_Standing_names (C : CS) : Cp := fun ds Q _ => ∃ l, ds = [stD C l] ∧ Good l ∧ Q (.ow (.lst (strsD (l.map (·.n)))))
/-- the people by their places -/
def lineL (l : List Pn) : List Pn := l.mergeSort fun a b => decide (a.p ≤ b.p)
def c_Standing_line (C : CS) : Cp := fun ds Q _ => ∃ l, ds = [stD C l] ∧ Good l ∧ Q (.ow (.lst (strsD ((lineL l).map (·.n)))))
/-- the changes by sums: each state with the names that are changed -/
abbrev Dp := List (List Key × D)
def dpK (s : Int × Int) : List Key := [.inl s.1, .inl s.2]
def dpE (e : (Int × Int) × List Str) : List Key × D := (dpK e.1, .tup (strsD e.2))
def dpMap (m : List ((Int × Int) × List Str)) : Dp := m.map dpE
/-- one voice of one person added to one state -/
def dpVal (x : Pn) (e : (Int × Int) × List Str) (v : Int) : List Str := if v = x.v then e.2 else e.2 ++ [x.n]
def dpKey (x : Pn) (s : Int × Int) (v : Int) : Int × Int := (s.1 + (if s.2 = 0 then 1 else -1) * v * x.p, (s.2 + v) % 2)
def dpOne (x : Pn) (e : (Int × Int) × List Str) (later : List ((Int × Int) × List Str)) (v : Int) : List ((Int × Int) × List Str) :=
  match valD later (dpKey x e.1 v) with
  | none => putD later (dpKey x e.1 v) (dpVal x e v)
  | some old => if (dpVal x e v).length < old.length then putD later (dpKey x e.1 v) (dpVal x e v) else later
def dpStep (found : List ((Int × Int) × List Str)) (x : Pn) : List ((Int × Int) × List Str) := found.foldl (fun later e => [0, 1].foldl (dpOne x e) later) []
def dpAll (l : List Pn) : List ((Int × Int) × List Str) := (lineL l).foldl dpStep [((0, 0), [])]
def c_changes_by_sums (C : CS) : Cp := fun ds Q _ => ∃ l, ds = [stD C l] ∧ Good l ∧ l.length ≤ 12 ∧ Q (.sh (.dt (dpMap (dpAll l))))
def c_places_by_voices (C : CS) : Cp := fun ds Q _ => ∃ l, ds = [stD C l] ∧ Good l ∧ l.length ≤ 12 ∧ Q (.ow (.lst (intsD (srtI (((dpAll l).filter fun e => e.1.2 == 1).map (·.1.1))))))
def c_wished_voices (C : CS) : Cp := fun ds Q _ => ∃ l z, ds = [stD C l, .int z] ∧ Good l ∧ l.length ≤ 12 ∧ Q (.sh (match valD (dpAll l) (z, 1) with | none => .non | some ns => .tup [.str "voices", .tup (strsD ns)]))
/-- the sum by turns of places in order -/
def altS : List Int → Int
  | [] => 0
  | p :: r => p - altS r
def placesV (l : List Pn) : List Int := srtI ((l.filter fun x => x.v == 1).map (·.p))
/-- all lists of names -/
def subsL (l : List Str) : List (List Str) := l.foldl (fun ls n => ls ++ ls.map fun s => s ++ [n]) [[]]
def fewOne (l : List Pn) (m : List (Key × Int)) (s : List Str) : List (Key × Int) :=
  let ps := placesV (l.map (turnV s))
  if ps.length % 2 = 1 then putD m (.inl (altS ps)) (min ((valD m (.inl (altS ps))).getD l.length) s.length) else m
def fewAll (l : List Pn) : List (Key × Int) := (subsL (l.map (·.n))).foldl (fewOne l) []
def c__law_fewest (C : CS) : Cp := fun ds Q _ => ∃ l, ds = [woD C l] ∧ Good l ∧ l.length ≤ 12 ∧ Q (.ow (.dk ((fewAll l).map fun e => (e.1, .int e.2))))
def c__law_spots (C : CS) : Cp := fun ds Q _ => ∃ l, ds = [woD C l] ∧ Good l ∧ Q (.sh (.tup (intsD (l.map (·.p)))))
def c_law (C : CS) : Ct Th1 := fun ds t Q _ => ∃ ns, ds = [.kt (intsD ns)] ∧ ns.length ≤ 1000 ∧ t = none ∧ ∀ t', Q (.sh (.bl true)) t'
end VL

set_option Elab.async false
set_option linter.all false
set_option maxRecDepth 100000
set_option maxHeartbeats 4000000
namespace VL
open PySem PySem.Spec PyProof.Rows L2
/-! dicts by keys -/
section
variable {κ : Type} [DecidableEq κ] {α : Type}
theorem putD_has {l : List (κ × α)} {k : κ} {v : α} (h : k ∈ l.map (·.1)) : (putD l k v).map (·.1) = l.map (·.1) := by
  unfold putD
  rw [if_pos (List.any_eq_true.mpr (by obtain ⟨p, hp, e⟩ := List.mem_map.mp h; exact ⟨p, hp, by simp [e]⟩)), List.map_map]
  apply List.map_congr_left
  intro p _
  show (if p.1 = k then (p.1, v) else p).1 = p.1
  split <;> rfl
theorem putD_out {l : List (κ × α)} {k : κ} {v : α} (h : k ∉ l.map (·.1)) : putD l k v = l ++ [(k, v)] := by
  unfold putD
  rw [if_neg]
  intro e
  obtain ⟨p, hp, e⟩ := List.any_eq_true.mp e
  exact h (List.mem_map.mpr ⟨p, hp, by simpa using e⟩)
theorem putD_len {l : List (κ × α)} {k : κ} {v : α} : (putD l k v).length ≤ l.length + 1 := by
  by_cases h : k ∈ l.map (·.1)
  · have := congrArg List.length (putD_has (v := v) h)
    simp only [List.length_map] at this
    omega
  · rw [putD_out h]; simp
theorem putD_nd {l : List (κ × α)} {k : κ} {v : α} (h : (l.map (·.1)).Nodup) : ((putD l k v).map (·.1)).Nodup := by
  by_cases hk : k ∈ l.map (·.1)
  · rw [putD_has hk]; exact h
  · rw [putD_out hk, List.map_append, List.nodup_append]
    refine ⟨h, by simp, fun a ha b hb e => ?_⟩
    rw [List.map_cons, List.map_nil, List.mem_singleton] at hb
    have hb2 : b = k := hb
    exact hk (by rw [← hb2, ← e]; exact ha)
theorem putD_keys {l : List (κ × α)} {k x : κ} {v : α} : x ∈ (putD l k v).map (·.1) ↔ x = k ∨ x ∈ l.map (·.1) := by
  by_cases hk : k ∈ l.map (·.1)
  · rw [putD_has hk]
    exact ⟨.inr, fun h => h.elim (fun e => e ▸ hk) id⟩
  · rw [putD_out hk, List.map_append, List.mem_append, List.map_cons, List.map_nil, List.mem_singleton]
    exact ⟨fun h => h.symm, fun h => h.symm⟩
theorem valD_in {l : List (κ × α)} {k : κ} : (valD l k).isSome = true ↔ k ∈ l.map (·.1) := by
  unfold valD
  rw [Option.isSome_map, List.find?_isSome]
  constructor
  · rintro ⟨p, hp, e⟩
    exact List.mem_map.mpr ⟨p, hp, by simpa using e⟩
  · intro h
    obtain ⟨p, hp, e⟩ := List.mem_map.mp h
    exact ⟨p, hp, by simpa using e⟩
theorem valD_mem {l : List (κ × α)} {k : κ} {v : α} (h : valD l k = some v) : (k, v) ∈ l := by
  unfold valD at h
  cases e : l.find? fun kv => decide (kv.1 = k) with
  | none => rw [e] at h; cases h
  | some p =>
    rw [e] at h
    cases h
    have h1 := List.find?_some e
    have h2 := List.mem_of_find?_eq_some e
    have h3 : p.1 = k := by simpa using h1
    rw [← h3]
    exact h2
theorem valD_putX {l : List (κ × α)} {k x : κ} {v : α} : valD (putD l k v) x = if x = k then some v else valD l x := by
  induction l with
  | nil =>
    unfold putD valD
    by_cases h : x = k
    · subst h; simp
    · rw [if_neg h]
      have : ¬ k = x := fun e => h e.symm
      simp [this]
  | cons p l ih =>
    by_cases hk : k ∈ (p :: l).map (·.1)
    · unfold putD
      rw [if_pos (List.any_eq_true.mpr (by obtain ⟨p, hp, e⟩ := List.mem_map.mp hk; exact ⟨p, hp, by simp [e]⟩))]
      unfold valD
      rw [List.find?_map, Option.map_map]
      have e1 : ((fun kv : κ × α => decide (kv.1 = x)) ∘ fun kv : κ × α => if kv.1 = k then (kv.1, v) else kv) = fun kv => decide (kv.1 = x) := by
        funext kv
        show decide ((if kv.1 = k then (kv.1, v) else kv).1 = x) = _
        split <;> rfl
      rw [e1]
      by_cases h : x = k
      · subst h
        rw [if_pos rfl]
        have := (valD_in (l := p :: l) (k := x)).mpr hk
        unfold valD at this
        rw [Option.isSome_map] at this
        obtain ⟨q, hq⟩ := Option.isSome_iff_exists.mp this
        rw [hq]
        have h1 := List.find?_some hq
        have h3 : q.1 = x := by simpa using h1
        show some (if q.1 = x then (q.1, v) else q).2 = some v
        rw [if_pos h3]
      · rw [if_neg h]
        cases e : (p :: l).find? fun kv => decide (kv.1 = x) with
        | none => rfl
        | some q =>
          have h1 := List.find?_some e
          have h3 : q.1 = x := by simpa using h1
          show some (if q.1 = k then (q.1, v) else q).2 = some q.2
          rw [if_neg (by rw [h3]; exact h)]
    · rw [putD_out hk]
      unfold valD
      rw [List.find?_append]
      by_cases h : x = k
      · subst h
        rw [if_pos rfl]
        have : (p :: l).find? (fun kv => decide (kv.1 = x)) = none := by
          rw [List.find?_eq_none]
          intro q hq e
          exact hk (List.mem_map.mpr ⟨q, hq, by simpa using e⟩)
        rw [this]
        simp
      · rw [if_neg h]
        have : ¬ k = x := fun e => h e.symm
        simp [this]
end
/-- a dict read through an injection of its keys -/
theorem valD_mapX {κ κ' : Type} [DecidableEq κ] [DecidableEq κ'] {α β : Type} (f : κ → κ') (hf : ∀ a b, f a = f b → a = b) (g : α → β) (l : List (κ × α)) (k : κ) : valD (l.map fun p => (f p.1, g p.2)) (f k) = (valD l k).map g := by
  unfold valD
  rw [List.find?_map, Option.map_map, Option.map_map]
  have e : ((fun kv : κ' × β => decide (kv.1 = f k)) ∘ fun p : κ × α => (f p.1, g p.2)) = fun p => decide (p.1 = k) := by
    funext p
    by_cases h : p.1 = k
    · simp [h]
    · have : ¬ f p.1 = f k := fun e => h (hf _ _ e)
      simp [h, this]
  rw [e]
  rfl
theorem putD_mapX {κ κ' : Type} [DecidableEq κ] [DecidableEq κ'] {α β : Type} (f : κ → κ') (hf : ∀ a b, f a = f b → a = b) (g : α → β) (l : List (κ × α)) (k : κ) (v : α) : putD (l.map fun p => (f p.1, g p.2)) (f k) (g v) = (putD l k v).map fun p => (f p.1, g p.2) := by
  by_cases hk : k ∈ l.map (·.1)
  · have hk' : f k ∈ (l.map fun p => (f p.1, g p.2)).map (·.1) := by
      obtain ⟨p, hp, e⟩ := List.mem_map.mp hk
      rw [List.map_map]
      exact List.mem_map.mpr ⟨p, hp, by show f p.1 = f k; rw [e]⟩
    unfold putD
    rw [if_pos (List.any_eq_true.mpr (by obtain ⟨p, hp, e⟩ := List.mem_map.mp hk'; exact ⟨p, hp, by simp [e]⟩)), if_pos (List.any_eq_true.mpr (by obtain ⟨p, hp, e⟩ := List.mem_map.mp hk; exact ⟨p, hp, by simp [e]⟩)), List.map_map, List.map_map]
    apply List.map_congr_left
    intro p _
    show (if f p.1 = f k then (f p.1, g v) else (f p.1, g p.2)) = (f (if p.1 = k then (p.1, v) else p).1, g (if p.1 = k then (p.1, v) else p).2)
    by_cases h : p.1 = k
    · rw [if_pos (by rw [h]), if_pos h]
    · rw [if_neg (fun e => h (hf _ _ e)), if_neg h]
  · have hk' : f k ∉ (l.map fun p => (f p.1, g p.2)).map (·.1) := by
      intro h
      rw [List.map_map] at h
      obtain ⟨p, hp, e⟩ := List.mem_map.mp h
      exact hk (List.mem_map.mpr ⟨p, hp, hf _ _ e⟩)
    rw [putD_out hk, putD_out hk', List.map_append]
    rfl
end VL

set_option Elab.async false
set_option linter.all false
set_option maxRecDepth 100000
set_option maxHeartbeats 4000000
namespace VL
open PySem PySem.Spec PyProof.Rows L2
/-! which places can be met at: by all choices of people -/
def plc (c : Pn → Bool) (l : List Pn) : List Int := (l.filter c).map (·.p)
def Tot (l : List Pn) (t : Int) : Prop := ∃ c : Pn → Bool, (l.filter c).length % 2 = 1 ∧ t = altS (srtI (plc c l))
def toldL (l : List Pn) : List Int := srtI (((dpAll l).filter fun e => e.1.2 == 1).map (·.1.1))
def keysI (m : List (Key × Int)) : List Int := m.filterMap fun e => match e.1 with | .inl i => some i | .inr _ => none
def dueL (l : List Pn) : List Int := srtI (keysI (fewAll l))
/-- numbers in order -/
def Asc (l : List Int) : Prop := l.Pairwise (· ≤ ·)
theorem srtI_asc (l : List Int) : Asc (srtI l) := by
  unfold srtI Asc
  have h := List.pairwise_mergeSort (le := fun a b : Int => decide (a ≤ b)) (fun a b c h1 h2 => by simp at *; omega) (fun a b => by simp; omega) l
  exact h.imp fun h => by simpa using h
theorem srtI_perm (l : List Int) : (srtI l).Perm l := List.mergeSort_perm l _
theorem asc_perm : ∀ {l l' : List Int}, Asc l → Asc l' → l.Perm l' → l = l'
  | [], l', _, _, h => (List.nil_perm.mp h).symm
  | a :: l, [], _, _, h => absurd h.length_eq (by simp)
  | a :: l, b :: l', h1, h2, h => by
    have h1' := List.pairwise_cons.mp h1
    have h2' := List.pairwise_cons.mp h2
    have e : a = b := by
      have m1 : a ∈ b :: l' := h.mem_iff.mp (List.mem_cons_self ..)
      have m2 : b ∈ a :: l := h.mem_iff.mpr (List.mem_cons_self ..)
      have k1 : b ≤ a := by
        rcases List.mem_cons.mp m1 with e | m
        · omega
        · exact h2'.1 a m
      have k2 : a ≤ b := by
        rcases List.mem_cons.mp m2 with e | m
        · omega
        · exact h1'.1 b m
      omega
    subst e
    rw [asc_perm h1'.2 h2'.2 h.cons_inv]
theorem asc_of {l : List Int} (h : Asc l) : srtI l = l := asc_perm (srtI_asc l) h (srtI_perm l)
/-- in order, none twice, the same members: the same -/
theorem asc_set {l l' : List Int} (h1 : Asc l) (h2 : Asc l') (n1 : l.Nodup) (n2 : l'.Nodup) (h : ∀ x, x ∈ l ↔ x ∈ l') : l = l' := asc_perm h1 h2 ((List.perm_ext_iff_of_nodup n1 n2).mpr h)
/-! the states of all choices in the line -/
def stp (s : Int × Int) (p : Int) : Int × Int := (s.1 + (if s.2 = 0 then 1 else -1) * p, (s.2 + 1) % 2)
theorem stp_run : ∀ (ps : List Int) (s : Int × Int), s.2 = 0 ∨ s.2 = 1 → ps.foldl stp s = (s.1 + (if s.2 = 0 then 1 else -1) * altS ps, (s.2 + ps.length) % 2)
  | [], s, h => by
    obtain ⟨a, b⟩ := s
    simp only [List.foldl_nil, altS, List.length_nil]
    have h' : b = 0 ∨ b = 1 := h
    rcases h' with rfl | rfl <;> simp
  | p :: ps, s, h => by
    obtain ⟨a, b⟩ := s
    have h' : b = 0 ∨ b = 1 := h
    rw [List.foldl_cons]
    rcases h' with rfl | rfl
    · rw [stp_run ps _ (.inr rfl)]
      simp only [stp, altS, List.length_cons]
      refine Prod.ext ?_ ?_
      · simp; omega
      · simp; omega
    · rw [stp_run ps _ (.inl rfl)]
      simp only [stp, altS, List.length_cons]
      refine Prod.ext ?_ ?_
      · simp; omega
      · simp; omega
/-- the states reached by the people done: by all choices -/
def Sts (l : List Pn) (s : Int × Int) : Prop := ∃ c : List Pn, c.Sublist l ∧ s = (c.map (·.p)).foldl stp (0, 0)
theorem key01 (x : Pn) (s : Int × Int) : dpKey x s 1 = stp s x.p := by
  unfold dpKey stp
  simp
theorem key00 (x : Pn) (s : Int × Int) (h : s.2 = 0 ∨ s.2 = 1) : dpKey x s 0 = s := by
  obtain ⟨a, b⟩ := s
  have h' : b = 0 ∨ b = 1 := h
  unfold dpKey
  rcases h' with rfl | rfl <;> simp
theorem dpOne_keys (x : Pn) (e : (Int × Int) × List Str) (m : List ((Int × Int) × List Str)) (v : Int) (k : Int × Int) : k ∈ (dpOne x e m v).map (·.1) ↔ k = dpKey x e.1 v ∨ k ∈ m.map (·.1) := by
  unfold dpOne
  split
  · exact putD_keys
  · rename_i old h
    have hk : dpKey x e.1 v ∈ m.map (·.1) := valD_in.mp (by rw [h]; rfl)
    split
    · exact putD_keys
    · exact ⟨.inr, fun z => z.elim (fun z => z ▸ hk) id⟩
theorem dpStep_keys (x : Pn) (k : Int × Int) : ∀ (q later : List ((Int × Int) × List Str)), k ∈ (q.foldl (fun later e => [0, 1].foldl (dpOne x e) later) later).map (·.1) ↔ (∃ e ∈ q, k = dpKey x e.1 0 ∨ k = dpKey x e.1 1) ∨ k ∈ later.map (·.1)
  | [], later => by simp
  | e :: q, later => by
    rw [List.foldl_cons, dpStep_keys x k q]
    show _ ∨ k ∈ (dpOne x e (dpOne x e later 0) 1).map (·.1) ↔ _
    rw [dpOne_keys, dpOne_keys]
    constructor
    · rintro (⟨z, hz, h⟩ | h | h | h)
      · exact .inl ⟨z, List.mem_cons_of_mem _ hz, h⟩
      · exact .inl ⟨e, List.mem_cons_self .., .inr h⟩
      · exact .inl ⟨e, List.mem_cons_self .., .inl h⟩
      · exact .inr h
    · rintro (⟨z, hz, h⟩ | h)
      · rcases List.mem_cons.mp hz with rfl | hz
        · rcases h with h | h
          · exact .inr (.inr (.inl h))
          · exact .inr (.inl h)
        · exact .inl ⟨z, hz, h⟩
      · exact .inr (.inr (.inr h))
end VL

set_option Elab.async false
set_option linter.all false
set_option maxRecDepth 100000
set_option maxHeartbeats 4000000
namespace VL
open PySem PySem.Spec PyProof.Rows L2
theorem sts_bit {l : List Pn} {s : Int × Int} (h : Sts l s) : s.2 = 0 ∨ s.2 = 1 := by
  obtain ⟨c, _, rfl⟩ := h
  rw [stp_run _ _ (.inl rfl)]
  show ((0 : Int) + _) % 2 = 0 ∨ ((0 : Int) + _) % 2 = 1
  omega
theorem sub_snoc {α : Type} {c l : List α} {x : α} : c.Sublist (l ++ [x]) ↔ c.Sublist l ∨ ∃ c', c = c' ++ [x] ∧ c'.Sublist l := by
  constructor
  · intro h
    obtain ⟨c1, c2, rfl, h1, h2⟩ := List.sublist_append_iff.mp h
    cases c2 with
    | nil => exact .inl (by simpa using h1)
    | cons y c2 =>
      have h3 : (y :: c2).length ≤ 1 := h2.length_le
      have : c2 = [] := List.eq_nil_of_length_eq_zero (by simp at h3; simpa using h3)
      subst this
      have e : y = x := by
        have := h2.subset (List.mem_cons_self ..)
        simpa using this
      subst e
      exact .inr ⟨c1, rfl, h1⟩
  · rintro (h | ⟨c', rfl, h⟩)
    · exact h.trans (List.sublist_append_left _ _)
    · exact h.append_right [x]
theorem sts_snoc {l : List Pn} {x : Pn} {k : Int × Int} : Sts (l ++ [x]) k ↔ ∃ s, Sts l s ∧ (k = dpKey x s 0 ∨ k = dpKey x s 1) := by
  constructor
  · rintro ⟨c, hc, rfl⟩
    rcases sub_snoc.mp hc with h | ⟨c', rfl, h⟩
    · exact ⟨_, ⟨c, h, rfl⟩, .inl (key00 x _ (sts_bit ⟨c, h, rfl⟩)).symm⟩
    · refine ⟨_, ⟨c', h, rfl⟩, .inr ?_⟩
      rw [key01, List.map_append, List.foldl_append]
      rfl
  · rintro ⟨s, ⟨c, hc, rfl⟩, h⟩
    rcases h with rfl | rfl
    · rw [key00 x _ (sts_bit ⟨c, hc, rfl⟩)]
      exact ⟨c, sub_snoc.mpr (.inl hc), rfl⟩
    · refine ⟨c ++ [x], sub_snoc.mpr (.inr ⟨c, rfl, hc⟩), ?_⟩
      rw [key01, List.map_append, List.foldl_append]
      rfl
theorem rev_ind {α : Type} {P : List α → Prop} (h0 : P []) (h1 : ∀ l x, P l → P (l ++ [x])) (l : List α) : P l := by
  have : ∀ n (l : List α), l.length = n → P l := by
    intro n
    induction n with
    | zero => intro l h; rw [List.eq_nil_of_length_eq_zero h]; exact h0
    | succ n ih =>
      intro l h
      have hne : l ≠ [] := by intro z; rw [z] at h; simp at h
      rw [← List.dropLast_concat_getLast hne]
      exact h1 _ _ (ih _ (by rw [List.length_dropLast]; omega))
  exact this _ l rfl
theorem dp_states (l : List Pn) : ∀ k, k ∈ (l.foldl dpStep [((0, 0), [])]).map (·.1) ↔ Sts l k := by
  refine rev_ind (P := fun l => ∀ k, k ∈ (l.foldl dpStep [((0, 0), [])]).map (·.1) ↔ Sts l k) (fun k => ?_) (fun l x ih k => ?_) l
  · constructor
    · intro h
      have e : k = (0, 0) := by simpa using h
      exact ⟨[], List.nil_sublist _, e⟩
    · rintro ⟨c, hc, rfl⟩
      rw [List.sublist_nil.mp hc]
      simp
  · rw [List.foldl_append]
    show k ∈ (dpStep (l.foldl dpStep [((0, 0), [])]) x).map (·.1) ↔ _
    unfold dpStep
    rw [dpStep_keys, sts_snoc]
    constructor
    · rintro (⟨e, he, h⟩ | h)
      · exact ⟨e.1, (ih e.1).mp (List.mem_map.mpr ⟨e, he, rfl⟩), h⟩
      · simp at h
    · rintro ⟨s, hs, h⟩
      obtain ⟨e, he, rfl⟩ := List.mem_map.mp ((ih s).mpr hs)
      exact .inl ⟨e, he, h⟩
theorem dpOne_nd (x : Pn) (e : (Int × Int) × List Str) (m : List ((Int × Int) × List Str)) (v : Int) (h : (m.map (·.1)).Nodup) : ((dpOne x e m v).map (·.1)).Nodup := by
  unfold dpOne
  split
  · exact putD_nd h
  · split
    · exact putD_nd h
    · exact h
theorem dpStep_nd (x : Pn) (m : List ((Int × Int) × List Str)) : ((dpStep m x).map (·.1)).Nodup := by
  have : ∀ (q later : List ((Int × Int) × List Str)), (later.map (·.1)).Nodup → ((q.foldl (fun later e => [0, 1].foldl (dpOne x e) later) later).map (·.1)).Nodup := by
    intro q
    induction q with
    | nil => intro later h; exact h
    | cons e q ih =>
      intro later h
      rw [List.foldl_cons]
      exact ih _ (dpOne_nd _ _ _ _ (dpOne_nd _ _ _ _ h))
  exact this m [] (by simp)
theorem dp_nd (l : List Pn) : ((l.foldl dpStep [((0, 0), [])]).map (·.1)).Nodup := by
  refine rev_ind (P := fun l => ((l.foldl dpStep [((0, 0), [])]).map (·.1)).Nodup) (by simp) (fun l x _ => ?_) l
  rw [List.foldl_append]
  exact dpStep_nd _ _
/-- what is told: the totals of the odd states -/
theorem told_states (l : List Pn) (t : Int) : t ∈ toldL l ↔ Sts (lineL l) (t, 1) := by
  unfold toldL
  rw [(srtI_perm _).mem_iff, ← dp_states]
  constructor
  · intro h
    obtain ⟨e, he, rfl⟩ := List.mem_map.mp h
    obtain ⟨h1, h2⟩ := List.mem_filter.mp he
    refine List.mem_map.mpr ⟨e, h1, ?_⟩
    have : e.1.2 = 1 := by simpa using h2
    exact Prod.ext rfl this
  · intro h
    obtain ⟨e, he, h1⟩ := List.mem_map.mp h
    have h1' : e.1 = (t, 1) := h1
    exact List.mem_map.mpr ⟨e, List.mem_filter.mpr ⟨he, by simp [h1']⟩, by simp [h1']⟩
theorem told_nd (l : List Pn) : (toldL l).Nodup := by
  unfold toldL
  rw [(srtI_perm _).nodup_iff]
  have h := dp_nd (lineL l)
  have h2 : (((dpAll l).filter fun e => e.1.2 == 1).map (·.1)).Nodup := List.Nodup.sublist (List.Sublist.map _ List.filter_sublist) h
  have e : ((dpAll l).filter fun e => e.1.2 == 1).map (·.1.1) = (((dpAll l).filter fun e => e.1.2 == 1).map (·.1)).map (·.1) := by rw [List.map_map]; rfl
  rw [e]
  refine List.pairwise_map.mpr (List.Pairwise.imp_of_mem ?_ h2)
  intro a b ha hb hne hab
  obtain ⟨x, hx, rfl⟩ := List.mem_map.mp ha
  obtain ⟨y, hy, rfl⟩ := List.mem_map.mp hb
  have e1 : x.1.2 = 1 := by simpa using (List.mem_filter.mp hx).2
  have e2 : y.1.2 = 1 := by simpa using (List.mem_filter.mp hy).2
  exact hne (Prod.ext hab (by rw [e1, e2]))
end VL

set_option Elab.async false
set_option linter.all false
set_option maxRecDepth 100000
set_option maxHeartbeats 4000000
namespace VL
open PySem PySem.Spec PyProof.Rows L2
open Classical in
theorem filter_sub {α : Type} : ∀ {c l : List α}, c.Sublist l → l.Nodup → l.filter (fun x => decide (x ∈ c)) = c := by
  intro c l h
  induction h with
  | slnil => intro _; rfl
  | cons x h ih =>
    rename_i c l
    intro nd
    have nd' := List.nodup_cons.mp nd
    have : x ∉ c := fun hx => nd'.1 (h.subset hx)
    rw [List.filter_cons_of_neg (by simpa using this)]
    exact ih nd'.2
  | cons_cons x h ih =>
    rename_i c l
    intro nd
    have nd' := List.nodup_cons.mp nd
    rw [List.filter_cons_of_pos (by simp)]
    congr 1
    refine Eq.trans (List.filter_congr fun y hy => ?_) (ih nd'.2)
    have : y ≠ x := fun e => nd'.1 (e ▸ hy)
    simp [this]
theorem good_nd {l : List Pn} (hg : Good l) : l.Nodup := by
  have h := hg.nd
  exact List.Pairwise.imp (fun h e => h (by rw [e])) (List.pairwise_map.mp h)
theorem line_perm (l : List Pn) : (lineL l).Perm l := List.mergeSort_perm l _
theorem line_asc (l : List Pn) : Asc ((lineL l).map (·.p)) := by
  unfold Asc
  rw [List.pairwise_map]
  have h := List.pairwise_mergeSort (le := fun a b : Pn => decide (a.p ≤ b.p)) (fun a b c h1 h2 => by simp at *; omega) (fun a b => by simp; omega) l
  exact h.imp fun h => by simpa using h
theorem plc_line (b : Pn → Bool) (l : List Pn) : srtI (plc b l) = plc b (lineL l) := by
  have h1 : Asc (plc b (lineL l)) := by
    have := line_asc l
    unfold Asc at this ⊢
    exact List.Pairwise.sublist (List.Sublist.map _ List.filter_sublist) this
  refine asc_perm (srtI_asc _) h1 ((srtI_perm _).trans ?_)
  exact ((line_perm l).symm.filter _).map _
theorem told_tot {l : List Pn} (hg : Good l) (t : Int) : t ∈ toldL l ↔ Tot l t := by
  classical
  rw [told_states]
  have run : ∀ c : List Pn, (t, (1 : Int)) = (c.map (·.p)).foldl stp (0, 0) ↔ c.length % 2 = 1 ∧ t = altS (c.map (·.p)) := by
    intro c
    rw [stp_run _ _ (.inl rfl)]
    constructor
    · intro h
      have h1 : t = _ := congrArg Prod.fst h
      have h2 : (1 : Int) = _ := congrArg Prod.snd h
      refine ⟨?_, ?_⟩
      · have h3 : (1 : Int) = (0 + ((c.map (·.p)).length : Nat)) % 2 := h2
        rw [List.length_map] at h3
        omega
      · have h3 : t = 0 + (if (0 : Int) = 0 then 1 else -1) * altS (c.map (·.p)) := h1
        simpa using h3
    · rintro ⟨h1, h2⟩
      refine Prod.ext ?_ ?_
      · show t = 0 + (if (0 : Int) = 0 then 1 else -1) * altS (c.map (·.p))
        simpa using h2
      · show (1 : Int) = (0 + ((c.map (·.p)).length : Nat)) % 2
        rw [List.length_map]
        omega
  constructor
  · rintro ⟨c, hc, h⟩
    obtain ⟨h1, h2⟩ := (run c).mp h
    have nd : (lineL l).Nodup := (line_perm l).nodup_iff.mpr (good_nd hg)
    have e := filter_sub hc nd
    refine ⟨fun x => decide (x ∈ c), ?_, ?_⟩
    · have : (l.filter fun x => decide (x ∈ c)).length = c.length := by
        rw [← ((line_perm l).filter _).length_eq, e]
      rw [this]
      exact h1
    · rw [plc_line]
      unfold plc
      rw [e]
      exact h2
  · rintro ⟨b, h1, h2⟩
    refine ⟨(lineL l).filter b, List.filter_sublist, (run _).mpr ⟨?_, ?_⟩⟩
    · rw [((line_perm l).filter _).length_eq]
      exact h1
    · rw [plc_line] at h2
      exact h2
theorem subs_mem (l : List Str) : ∀ s, s ∈ subsL l ↔ s.Sublist l := by
  refine rev_ind (P := fun l => ∀ s, s ∈ subsL l ↔ s.Sublist l) (fun s => ?_) (fun l x ih s => ?_) l
  · show s ∈ [[]] ↔ _
    rw [List.mem_singleton]
    exact ⟨fun e => e ▸ List.nil_sublist _, fun h => List.sublist_nil.mp h⟩
  · have e : subsL (l ++ [x]) = subsL l ++ (subsL l).map fun s => s ++ [x] := by
      unfold subsL
      rw [List.foldl_append]
      rfl
    rw [e, List.mem_append, sub_snoc]
    constructor
    · rintro (h | h)
      · exact .inl ((ih s).mp h)
      · obtain ⟨z, hz, rfl⟩ := List.mem_map.mp h
        exact .inr ⟨z, rfl, (ih z).mp hz⟩
    · rintro (h | ⟨z, rfl, hz⟩)
      · exact .inl ((ih s).mpr h)
      · exact .inr (List.mem_map.mpr ⟨z, (ih z).mpr hz, rfl⟩)
theorem few_keys (l : List Pn) (k : Key) : ∀ (r : List (List Str)) (m : List (Key × Int)), k ∈ (r.foldl (fewOne l) m).map (·.1) ↔ (∃ s ∈ r, (placesV (l.map (turnV s))).length % 2 = 1 ∧ k = .inl (altS (placesV (l.map (turnV s))))) ∨ k ∈ m.map (·.1)
  | [], m => by simp
  | s :: r, m => by
    rw [List.foldl_cons, few_keys l k r]
    have e : k ∈ (fewOne l m s).map (·.1) ↔ ((placesV (l.map (turnV s))).length % 2 = 1 ∧ k = .inl (altS (placesV (l.map (turnV s))))) ∨ k ∈ m.map (·.1) := by
      unfold fewOne
      dsimp only
      split
      · rename_i h
        rw [putD_keys]
        exact ⟨fun z => z.imp (fun z => ⟨h, z⟩) id, fun z => z.imp (fun z => z.2) id⟩
      · rename_i h
        exact ⟨.inr, fun z => z.elim (fun z => absurd z.1 h) id⟩
    rw [e]
    constructor
    · rintro (⟨z, hz, h⟩ | h | h)
      · exact .inl ⟨z, List.mem_cons_of_mem _ hz, h⟩
      · exact .inl ⟨s, List.mem_cons_self .., h⟩
      · exact .inr h
    · rintro (⟨z, hz, h⟩ | h)
      · rcases List.mem_cons.mp hz with rfl | hz
        · exact .inr (.inl h)
        · exact .inl ⟨z, hz, h⟩
      · exact .inr (.inr h)
theorem few_nd (l : List Pn) : ∀ (r : List (List Str)) (m : List (Key × Int)), (m.map (·.1)).Nodup → ((r.foldl (fewOne l) m).map (·.1)).Nodup
  | [], m, h => h
  | s :: r, m, h => by
    rw [List.foldl_cons]
    refine few_nd l r _ ?_
    unfold fewOne
    dsimp only
    split
    · exact putD_nd h
    · exact h
end VL

set_option Elab.async false
set_option linter.all false
set_option maxRecDepth 100000
set_option maxHeartbeats 4000000
namespace VL
open PySem PySem.Spec PyProof.Rows L2
theorem name_inj {l : List Pn} (h : (l.map (·.n)).Nodup) {x y : Pn} (hx : x ∈ l) (hy : y ∈ l) (e : x.n = y.n) : x = y := by
  induction l with
  | nil => cases hx
  | cons z l ih =>
    rw [List.map_cons, List.nodup_cons] at h
    rcases List.mem_cons.mp hx with hx' | hx'
    · rcases List.mem_cons.mp hy with hy' | hy'
      · rw [hx', hy']
      · exact absurd (List.mem_map.mpr ⟨y, hy', by rw [← e, hx']⟩) h.1
    · rcases List.mem_cons.mp hy with hy' | hy'
      · exact absurd (List.mem_map.mpr ⟨x, hx', by rw [e, hy']⟩) h.1
      · exact ih h.2 hx' hy'
theorem turn_p (s : List Str) (x : Pn) : (turnV s x).p = x.p := by unfold turnV; split <;> rfl
theorem turn_n (s : List Str) (x : Pn) : (turnV s x).n = x.n := by unfold turnV; split <;> rfl
theorem places_turn (l : List Pn) (s : List Str) : placesV (l.map (turnV s)) = srtI (plc (fun x => (turnV s x).v == 1) l) := by
  unfold placesV plc
  congr 1
  rw [List.filter_map, List.map_map]
  apply List.map_congr_left
  intro x _
  exact turn_p s x
theorem places_len (b : Pn → Bool) (l : List Pn) : (srtI (plc b l)).length = (l.filter b).length := by
  rw [(srtI_perm _).length_eq]
  unfold plc
  rw [List.length_map]
theorem plc_congr {b b' : Pn → Bool} {l : List Pn} (h : ∀ x ∈ l, b x = b' x) : l.filter b = l.filter b' := List.filter_congr h
theorem due_tot {l : List Pn} (hg : Good l) (k : Key) : k ∈ (fewAll l).map (·.1) ↔ ∃ t, k = .inl t ∧ Tot l t := by
  unfold fewAll
  rw [few_keys]
  constructor
  · rintro (⟨s, hs, h1, h2⟩ | h)
    · rw [places_turn] at h1 h2
      rw [places_len] at h1
      exact ⟨_, h2, _, h1, rfl⟩
    · simp at h
  · rintro ⟨t, rfl, b, h1, rfl⟩
    refine .inl ⟨(l.filter fun x => (x.v == 1) != b x).map (·.n), (subs_mem _ _).mpr (List.Sublist.map _ List.filter_sublist), ?_⟩
    have key : ∀ x ∈ l, ((turnV ((l.filter fun x => (x.v == 1) != b x).map (·.n)) x).v == 1) = b x := by
      intro x hx
      have hv := hg.vo x hx
      have hmem : x.n ∈ (l.filter fun x => (x.v == 1) != b x).map (·.n) ↔ ((x.v == 1) != b x) = true := by
        constructor
        · intro h
          obtain ⟨y, hy, e⟩ := List.mem_map.mp h
          obtain ⟨hy1, hy2⟩ := List.mem_filter.mp hy
          have := name_inj hg.nd hy1 hx e
          rw [← this]
          exact hy2
        · intro h
          exact List.mem_map.mpr ⟨x, List.mem_filter.mpr ⟨hx, h⟩, rfl⟩
      unfold turnV
      by_cases hm : x.n ∈ (l.filter fun x => (x.v == 1) != b x).map (·.n)
      · rw [if_pos hm]
        have h2 := hmem.mp hm
        show (1 - x.v == 1) = b x
        cases hb : b x <;> rcases hv with h | h <;> simp [hb, h] at h2 ⊢
      · rw [if_neg hm]
        have h2 : ¬ ((x.v == 1) != b x) = true := fun z => hm (hmem.mpr z)
        show (x.v == 1) = b x
        cases hb : b x <;> rcases hv with h | h <;> simp [hb, h] at h2 ⊢
    have e := plc_congr key
    rw [places_turn, places_len]
    refine ⟨by rw [e]; exact h1, ?_⟩
    unfold plc
    rw [e]
theorem keysI_map : ∀ {m : List (Key × Int)}, (∀ k ∈ m.map (·.1), ∃ t, k = .inl t) → m.map (·.1) = (keysI m).map Sum.inl
  | [], _ => rfl
  | (k, v) :: m, h => by
    obtain ⟨t, e⟩ := h k (List.mem_cons_self ..)
    have ih := keysI_map (m := m) fun z hz => h z (List.mem_cons_of_mem _ hz)
    subst e
    unfold keysI at ih ⊢
    rw [List.map_cons, List.filterMap_cons, ih]
    rfl
theorem few_keysI {l : List Pn} (hg : Good l) : (fewAll l).map (·.1) = (keysI (fewAll l)).map Sum.inl := keysI_map fun k hk => by
  obtain ⟨t, e, _⟩ := (due_tot hg k).mp hk
  exact ⟨t, e⟩
theorem due_mem {l : List Pn} (hg : Good l) (t : Int) : t ∈ dueL l ↔ Tot l t := by
  unfold dueL
  rw [(srtI_perm _).mem_iff]
  have h := due_tot hg (.inl t)
  rw [few_keysI hg] at h
  constructor
  · intro ht
    obtain ⟨t', e, q⟩ := h.mp (List.mem_map.mpr ⟨t, ht, rfl⟩)
    rw [Sum.inl.inj e]
    exact q
  · intro q
    obtain ⟨t', ht, e⟩ := List.mem_map.mp (h.mpr ⟨t, rfl, q⟩)
    rw [← Sum.inl.inj e]
    exact ht
theorem due_nd {l : List Pn} (hg : Good l) : (dueL l).Nodup := by
  unfold dueL
  rw [(srtI_perm _).nodup_iff]
  have h := few_nd l (subsL (l.map (·.n))) [] (by simp)
  have h2 : ((fewAll l).map (·.1)).Nodup := h
  rw [few_keysI hg] at h2
  exact (List.pairwise_map.mp h2).imp fun h e => h (by rw [e])
theorem due_asc (l : List Pn) : Asc (dueL l) := srtI_asc _
theorem told_due {l : List Pn} (hg : Good l) : toldL l = dueL l := asc_set (srtI_asc _) (srtI_asc _) (told_nd l) (due_nd hg) fun t => by rw [told_tot hg, due_mem hg]
/-! other voices -/
theorem turn_twice {l : List Pn} (hg : Good l) (ns : List Str) : (l.map (turnV ns)).map (turnV ns) = l := by
  rw [List.map_map]
  refine Eq.trans (List.map_congr_left fun x hx => ?_) (List.map_id l)
  show turnV ns (turnV ns x) = x
  by_cases h : x.n ∈ ns
  · have e : turnV ns x = { x with v := 1 - x.v } := by unfold turnV; rw [if_pos h]
    rw [e]
    unfold turnV
    rw [if_pos h]
    obtain ⟨n, p, v⟩ := x
    simp
    omega
  · have e : turnV ns x = x := by unfold turnV; rw [if_neg h]
    rw [e, e]
theorem tot_map {l : List Pn} {f : Pn → Pn} (hf : ∀ x, (f x).p = x.p) {t : Int} (h : Tot (l.map f) t) : Tot l t := by
  obtain ⟨b, h1, h2⟩ := h
  refine ⟨b ∘ f, ?_, ?_⟩
  · rw [List.filter_map, List.length_map] at h1
    exact h1
  · unfold plc at h2 ⊢
    rw [List.filter_map, List.map_map] at h2
    rw [h2]
    congr 2
    apply List.map_congr_left
    intro x _
    exact hf x
theorem due_turn {l : List Pn} (hg : Good l) (hg2 : Good (l.map (turnV ns))) : dueL (l.map (turnV ns)) = dueL l := asc_set (srtI_asc _) (srtI_asc _) (due_nd hg2) (due_nd hg) fun t => by
  rw [due_mem hg2, due_mem hg]
  refine ⟨tot_map (turn_p ns), fun h => ?_⟩
  rw [← turn_twice hg ns] at h
  exact tot_map (turn_p ns) h
end VL

set_option Elab.async false
set_option linter.all false
set_option maxRecDepth 100000
set_option maxHeartbeats 4000000
namespace VL
open PySem PySem.Spec PyProof.Rows L2
theorem altS_neg : ∀ xs : List Int, altS (xs.map (0 - ·)) = - altS xs
  | [] => rfl
  | a :: r => by
    rw [List.map_cons]
    simp only [altS]
    rw [altS_neg r]
    omega
theorem altS_snoc : ∀ (xs : List Int) (a : Int), altS (xs ++ [a]) = altS xs + (if xs.length % 2 = 0 then a else -a)
  | [], a => by simp [altS]
  | x :: xs, a => by
    rw [List.cons_append]
    simp only [altS]
    rw [altS_snoc xs a, List.length_cons]
    by_cases h : xs.length % 2 = 0
    · rw [if_pos h, if_neg (by omega)]; omega
    · rw [if_neg h, if_pos (by omega)]; omega
theorem altS_rev : ∀ xs : List Int, altS xs.reverse = if xs.length % 2 = 1 then altS xs else - altS xs
  | [] => rfl
  | a :: r => by
    rw [List.reverse_cons, altS_snoc, altS_rev r, List.length_reverse, List.length_cons]
    simp only [altS]
    by_cases h : r.length % 2 = 0
    · rw [if_pos h, if_neg (by omega), if_pos (by omega)]; omega
    · rw [if_neg h, if_pos (by omega), if_neg (by omega)]; omega
def mir (x : Pn) : Pn := { x with p := 0 - x.p }
theorem neg_asc {xs : List Int} (h : Asc xs) : Asc (xs.reverse.map (0 - ·)) := by
  unfold Asc at h ⊢
  rw [List.pairwise_map, List.pairwise_reverse]
  exact h.imp fun h => by omega
theorem srt_neg (xs : List Int) : srtI (xs.map (0 - ·)) = (srtI xs).reverse.map (0 - ·) :=
  asc_perm (srtI_asc _) (neg_asc (srtI_asc _)) ((srtI_perm _).trans ((((srtI_perm xs).symm.trans (List.reverse_perm _).symm)).map _))
theorem tot_mir {l : List Pn} {t : Int} (h : Tot (l.map mir) t) : Tot l (0 - t) := by
  obtain ⟨b, h1, h2⟩ := h
  rw [List.filter_map, List.length_map] at h1
  refine ⟨b ∘ mir, h1, ?_⟩
  have e : plc b (l.map mir) = (plc (b ∘ mir) l).map (0 - ·) := by
    unfold plc
    rw [List.filter_map, List.map_map, List.map_map]
    rfl
  rw [h2, e, srt_neg, altS_neg, altS_rev, if_pos (by rw [places_len]; exact h1)]
  omega
theorem mir_twice (l : List Pn) : (l.map mir).map mir = l := by
  rw [List.map_map]
  refine Eq.trans (List.map_congr_left fun x _ => ?_) (List.map_id l)
  obtain ⟨n, p, v⟩ := x
  show (⟨n, 0 - (0 - p), v⟩ : Pn) = ⟨n, p, v⟩
  congr 1
  omega
theorem due_mir {l : List Pn} (hg : Good l) (hg2 : Good (l.map mir)) : dueL (l.map mir) = (dueL l).reverse.map (0 - ·) := by
  refine asc_set (srtI_asc _) (neg_asc (due_asc l)) (due_nd hg2) ?_ fun t => ?_
  · rw [List.Nodup, List.pairwise_map, List.pairwise_reverse]
    exact (due_nd hg).imp fun h e => h (by omega)
  · rw [due_mem hg2, List.mem_map]
    constructor
    · intro h
      exact ⟨0 - t, List.mem_reverse.mpr ((due_mem hg _).mpr (tot_mir h)), by omega⟩
    · rintro ⟨z, hz, rfl⟩
      have h := (due_mem hg z).mp (List.mem_reverse.mp hz)
      rw [← mir_twice l] at h
      exact tot_mir h
theorem altS_bound {B : Int} (hB : 0 ≤ B) : ∀ {xs : List Int}, (∀ x ∈ xs, -B ≤ x ∧ x ≤ B) → -(B * xs.length) ≤ altS xs ∧ altS xs ≤ B * xs.length
  | [], _ => by simp [altS]
  | a :: r, h => by
    have ih := altS_bound hB (xs := r) fun x hx => h x (List.mem_cons_of_mem _ hx)
    have ha := h a (List.mem_cons_self ..)
    simp only [altS, List.length_cons]
    have e : B * ((r.length + 1 : Nat) : Int) = B * r.length + B := by rw [Int.natCast_add, Int.mul_add]; simp
    rw [e]
    omega
theorem due_bound {l : List Pn} (hg : Good l) (hz : l.length ≤ 12) (hp : ∀ x ∈ l, -2000 ≤ x.p ∧ x.p ≤ 2000) : ∀ t ∈ dueL l, -24000 ≤ t ∧ t ≤ 24000 := by
  intro t ht
  obtain ⟨b, _, rfl⟩ := (due_mem hg t).mp ht
  have h1 := altS_bound (B := 2000) (by decide) (xs := srtI (plc b l)) fun x hx => by
    obtain ⟨y, hy, rfl⟩ := List.mem_map.mp ((srtI_perm _).mem_iff.mp hx)
    exact hp y (List.mem_filter.mp hy).1
  have h2 : (srtI (plc b l)).length ≤ 12 := by
    rw [places_len]
    exact Nat.le_trans (List.length_filter_le _ _) hz
  omega
theorem few_len (l : List Pn) : ∀ (r : List (List Str)) (m : List (Key × Int)), (r.foldl (fewOne l) m).length ≤ m.length + r.length
  | [], m => by simp
  | s :: r, m => by
    rw [List.foldl_cons, List.length_cons]
    refine Nat.le_trans (few_len l r _) ?_
    have : (fewOne l m s).length ≤ m.length + 1 := by
      unfold fewOne
      dsimp only
      split
      · exact putD_len
      · omega
    omega
end VL

set_option Elab.async false
set_option linter.all false
set_option maxRecDepth 100000
set_option maxHeartbeats 4000000
namespace VL
open PySem PySem.Spec PyProof.Rows L2
theorem shown_ints : ∀ ns : List Int, PyData.shownAll (ns.map .int) = ns.map fun n => ((toString n : String) : Str)
  | [] => rfl
  | n :: ns => by
    rw [List.map_cons, List.map_cons, PyData.shownAll, shown_ints ns]
    simp only [PyData.shown]
theorem sum_le {α : Type} (f : α → Nat) (k : Nat) : ∀ {l : List α}, (∀ x ∈ l, f x ≤ k) → (l.map f).sum ≤ k * l.length
  | [], _ => by simp
  | x :: l, h => by
    have h1 := h x (List.mem_cons_self ..)
    have h2 := sum_le f k fun y hy => h y (List.mem_cons_of_mem x hy)
    rw [List.map_cons, List.sum_cons, List.length_cons, Nat.mul_succ]
    omega
theorem show_fits {ns : List Int} (h : ns.length ≤ 4096) (hb : ∀ n ∈ ns, n.natAbs.log2 < 1920) : (showI ns).length ≤ sizeLine := by
  unfold showI
  simp only [PyData.shown]
  rw [shown_ints]
  refine Nat.le_trans (listText_len_le _) ?_
  have h1 := sum_le (fun n : Int => ((toString n : String) : Str).length) 1921 (l := ns) fun n hn => int_text_len_1921 (hb n hn)
  rw [List.map_map, List.length_map]
  have h2 : (ns.map ((fun x : Str => x.length) ∘ fun n : Int => ((toString n : String) : Str))).sum ≤ 1921 * ns.length := h1
  rw [sizeLine_eq]
  omega
theorem fm_congr {α β : Type} {f g : α → Option β} : ∀ {l : List α}, (∀ x ∈ l, f x = g x) → l.filterMap f = l.filterMap g
  | [], _ => rfl
  | x :: l, h => by
    rw [List.filterMap_cons, List.filterMap_cons, h x (List.mem_cons_self ..), fm_congr fun y hy => h y (List.mem_cons_of_mem x hy)]
theorem range_rev (n : Nat) : sliceRange ((n : Int) - 1) (-1) (-1) = (List.range n).map fun k => n - 1 - k := by
  unfold sliceRange
  rw [if_neg (show ¬ (-1 : Int) > 0 by decide)]
  by_cases h : n = 0
  · subst h; rfl
  · rw [if_pos (show (n : Int) - 1 > -1 by omega)]
    have e0 : ((n : Int) - 1 - -1 - -1 - 1) / - -1 = (n : Int) := by
      rw [show (- -1 : Int) = 1 by decide, Int.ediv_one]
      omega
    have e : (((n : Int) - 1 - -1 - -1 - 1) / - -1).toNat = n := by rw [e0]; exact Int.toNat_natCast n
    dsimp only
    rw [e]
    apply List.map_congr_left
    intro k _
    omega
theorem pkV_rev {α : Type} (xs : List α) : pkV xs none none (some (-1)) = xs.reverse := by
  unfold pkV
  have e : sliceRange (sliceBounds none none (some (-1)) xs.length).1 (sliceBounds none none (some (-1)) xs.length).2.1 (sliceBounds none none (some (-1)) xs.length).2.2 = (List.range xs.length).map fun k => xs.length - 1 - k := range_rev xs.length
  rw [e, List.filterMap_map]
  have hall : ∀ k ∈ List.range xs.length, ((xs[·]?) ∘ fun k => xs.length - 1 - k) k = (fun k => xs.reverse[k]?) k := by
    intro k hk
    have hk' := List.mem_range.mp hk
    show xs[xs.length - 1 - k]? = xs.reverse[k]?
    rw [List.getElem?_reverse hk']
  rw [fm_congr hall]
  have full : ∀ ys : List α, (List.range ys.length).filterMap (fun k => ys[k]?) = ys := by
    intro ys
    induction ys with
    | nil => rfl
    | cons y ys ih =>
      rw [List.length_cons, List.range_succ_eq_map, List.filterMap_cons, List.filterMap_map]
      show y :: _ = _
      congr 1
  have h2 := full xs.reverse
  rw [List.length_reverse] at h2
  rw [h2]
end VL

set_option Elab.async false
set_option linter.all false
set_option maxRecDepth 100000
set_option maxHeartbeats 4000000
namespace VL
open PySem PySem.Spec PyProof.Rows L2
/-! wish papers -/
def vpD (ns : List Str) : D := .tup [.str "voices", .tup (strsD ns)]
def rowD (r : Str × Int) : D := .tup [.str r.1, .int r.2]
def spapD (rows : List (Str × Int)) : D := .tup [.str "steps", .pt (rows.map rowD)]
def setP (n : Str) (p : Int) (x : Pn) : Pn := if x.n = n then { x with p := p } else x
def setV (n : Str) (v : Int) (x : Pn) : Pn := if x.n = n then { x with v := v } else x
/-- steps by names -/
def stepR (rows : List (Str × Int)) (x : Pn) : Pn := { x with p := x.p + (valD rows x.n).getD 0 }
/-- rows of steps of unlike people -/
structure Rows (l : List Pn) (rows : List (Str × Int)) : Prop where
  nd : (rows.map (·.1)).Nodup
  mem : ∀ r ∈ rows, r.1 ∈ l.map (·.n)
  nz : ∀ r ∈ rows, r.2 ≠ 0
structure Nms (l : List Pn) (ns : List Str) : Prop where
  nd : ns.Nodup
  mem : ∀ n ∈ ns, n ∈ l.map (·.n)
def c_Standing_people (C : CS) : Cp := fun ds Q _ => ∃ l, ds = [stD C l] ∧ Good l ∧ Q (.ow (.lst (l.map pD)))
def c_Standing_voices (C : CS) : Cp := fun ds Q _ => ∃ l, ds = [stD C l] ∧ Good l ∧ Q (.sh (.int (l.map (·.v)).sum))
def c_exchanged (C : CS) : Cp := fun ds Q _ => ∃ l y, ds = [stD C l, pD y] ∧ Good l ∧ y.n ∈ l.map (·.n) ∧ (y.v = 0 ∨ y.v = 1) ∧ Q (.ow (stD C (l.map fun x => if x.n = y.n then y else x)))
def c_moved_person (C : CS) : Cp := fun ds Q _ => ∃ l n p, ds = [stD C l, .str n, .int p] ∧ Good l ∧ n ∈ l.map (·.n) ∧ Q (.ow (stD C (l.map (setP n p))))
def c_voiced (C : CS) : Cp := fun ds Q _ => ∃ l n v, ds = [stD C l, .str n, .int v] ∧ Good l ∧ n ∈ l.map (·.n) ∧ (v = 0 ∨ v = 1) ∧ Q (.ow (stD C (l.map (setV n v))))
def c_voice_places (C : CS) : Cp := fun ds Q _ => ∃ l, ds = [stD C l] ∧ Good l ∧ Q (.ow (.lst (intsD (placesV l))))
def c_turn_sum (C : CS) : Cp := fun ds Q _ => ∃ l, ds = [stD C l] ∧ Good l ∧ Q (.sh (.int (altS (placesV l))))
def c_is_row_wishes (C : CS) : Cp := fun ds Q _ => ∃ r, ds = [rowD r] ∧ r.2 ≠ 0 ∧ Q (.sh (.bl true))
def c_has_form (C : CS) : Cp := fun ds Q _ => ((∃ ns, ds = [vpD ns]) ∨ ∃ rows : List (Str × Int), ds = [spapD rows] ∧ rows.length ≤ 1000 ∧ ∀ r ∈ rows, r.2 ≠ 0) ∧ Q (.sh (.bl true))
def c_wished (C : CS) : Cp := fun ds Q _ => ∃ l l2, Good l ∧ ((∃ ns, ds = [stD C l, vpD ns] ∧ Nms l ns ∧ l2 = l.map (turnV ns)) ∨ ∃ rows, ds = [stD C l, spapD rows] ∧ Rows l rows ∧ l2 = l.map (stepR rows)) ∧ ∀ r, R.d r = stD C l2 → Q r
/-- a paper is right for a place -/
def Right (l l2 : List Pn) (z : Int) (d : D) : Prop := ((∃ ns, d = vpD ns ∧ Nms l ns ∧ l2 = l.map (turnV ns)) ∨ ∃ rows, d = spapD rows ∧ Rows l rows ∧ l2 = l.map (stepR rows)) ∧ (l2.map (·.v)).sum % 2 = 1 ∧ altS (placesV l2) = z
def c_judge_wish (C : CS) : Cp := fun ds Q _ => ∃ l l2 z d, ds = [stD C l, .int z, d] ∧ Good l ∧ Right l l2 z d ∧ Q (.sh .non)
def c__law_verdict (C : CS) : Cp := fun ds Q _ => ∃ l l2 z d, ds = [woD C l, .int z, d] ∧ Good l ∧ Right l l2 z d ∧ Q (.sh .non)
def c__law_voices (C : CS) : Cp := fun ds Q _ => ∃ l, ds = [woD C l] ∧ Good l ∧ Q (.sh (.int (l.map (·.v)).sum))
def c__law_by_turns (C : CS) : Cp := fun ds Q _ => ∃ l, ds = [woD C l, .tup (intsD (l.map (·.p)))] ∧ Good l ∧ Q (.sh (.int (altS (placesV l))))
def c__law_stepped (C : CS) : Cp := fun ds Q _ => ∃ l rows, (ds = [woD C l, .lst (rows.map rowD)] ∨ ds = [woD C l, .pt (rows.map rowD)]) ∧ Good l ∧ (rows.map (·.1)).Nodup ∧ rows.length ≤ 1000 ∧ Q (.sh (.tup (intsD ((l.map (stepR rows)).map (·.p)))))
def c__law_is_whole (C : CS) : Cp := fun ds Q _ => ∃ i, ds = [.int i] ∧ Q (.sh (.bl true))
end VL

set_option Elab.async false
set_option linter.all false
set_option maxRecDepth 100000
set_option maxHeartbeats 4000000
namespace VL
open PySem PySem.Spec PyProof.Rows L2
/-! steps wished -/
def vSum (l : List Pn) : Int := (l.map (·.v)).sum
def turnS (l : List Pn) : Int := altS (placesV l)
def vLine (l : List Pn) : List Pn := (lineL l).filter fun x => x.v == 1
/-- the rows of a paper with steps -/
def wishRows (l : List Pn) (z : Int) : List (Str × Int) :=
  if z - turnS l = 0 then [] else [((if 0 < z - turnS l then (vLine l).getLast?.map (·.n) else (vLine l).head?.map (·.n)).getD "", z - turnS l)]
def c__law_crowded (C : CS) : Ct Th1 := fun ds t Q _ => ∃ p m f r, ds = [.han p, .int m, .int f, .int r] ∧ Has p t ∧ 1 ≤ m ∧ m ≤ 12 ∧ 1 ≤ f ∧ f ≤ 100 ∧ 0 ≤ r ∧ r < 2 ∧
  ∀ t' l, Has p t' → Good l → 1 ≤ l.length → (l.length : Int) ≤ m → (∀ x ∈ l, -(10 ^ 16) ≤ x.p ∧ x.p ≤ 10 ^ 16) → vSum l % 2 = r → Q (.ow (woD C l)) t'
def c_with_voice (C : CS) : Cp := fun ds Q _ => ∃ l, ds = [stD C l] ∧ Good l ∧ Q (.ow (.lst (strsD ((vLine l).map (·.n)))))
def c_wished_steps (C : CS) : Cp := fun ds Q E => ∃ l z, ds = [stD C l, .int z] ∧ Good l ∧ if vSum l % 2 = 0 then E ⟨.ref C.EvenVoices, []⟩ else Q (.sh (spapD (wishRows l z)))
def c_need_odd (C : CS) : Cp := fun ds Q _ => ∃ l, ds = [stD C l] ∧ Good l ∧ vSum l % 2 = 1 ∧ Q (.sh .non)
def c_meeting_place (C : CS) : Cp := fun ds Q _ => ∃ l, ds = [stD C l] ∧ Good l ∧ vSum l % 2 = 1 ∧ Q (.sh (.int (turnS l)))
end VL

set_option Elab.async false
set_option linter.all false
set_option maxRecDepth 100000
set_option maxHeartbeats 4000000
namespace VL
open PySem PySem.Spec PyProof.Rows L2
abbrev N__law_source : List Str := ["_law_script", "_law_mixed_here", "_law_cell"]
def w__law_source (C : CS) : WS Th1 :=
  (wSeq (wSet 1 (wSh (wC (.int 11))))
  (wSeq (wFor (wItK anyD (wVar 0)) (wGname 2) (wSet 1 (wX2 gMod (wOe (wFz (wXL gInt (wOcons (wOe (wFz (wX2 gAdd (wOe (wFz (wX2 gAdd (wOe (wFz (wX2 gMul (wOv 1) (wOe (wC (.int 69069)))))) (wOe (wFz (wX2 gMul (wOv 2) (wOe (wC (.int 31))))))))) (wOe (wC (.int 5)))))) wOnil)))) (wOe (wC (.int 2147483629))))))
  (wRet (wSrcNew (wSl3 (wOe (wFz (wLc (wItK anyD (wVar 0)) (wGname 2) wYes (wFz (wXL gAbs (wOcons (wOv 2) wOnil))) [2]))) wPnone wPnone (wPsome (wFz (wX1 gNeg (wOe (wC (.int 1))))))) (wC (.int 1)) (wVar 1) (wC (.int 0))))))
abbrev N__law_pick : List Str := ["_law_source_here", "_law_many", "_law_left", "_law_mixed_here"]
def w__law_pick (C : CS) : WS Th1 :=
  (wSeq (wWhile (wAnd (wX2T gGt (wOv 1) (wOe (wC (.int 1)))) (wAnd (wX2T gLt (wOe (wSrc 0 "left")) (wOe (wC (.int 2)))) (wX2T gGt (wOe (wSrcLen 0)) (wOe (wC (.int 0)))))) (wSrcSet 0 "left" (wSrcPop 0)))
  (wSeq (wSet 2 (wSh (wSrc 0 "left")))
  (wSeq (wIf (wOr (wX2T gLt (wOv 1) (wOe (wC (.int 2)))) (wX2T gGt (wOv 2) (wOe (wC (.int 1))))) (wSeq (wSrcSet 0 "left" (wFz (wX2 gDiv (wOv 2) (wOe (wFz (wXL gMax (wOcons (wOe (wC (.int 1))) (wOcons (wOv 1) wOnil))))))))
  (wRet (wX2 gMod (wOe (wFz (wXL gInt (wOcons (wOv 2) wOnil)))) (wOe (wFz (wXL gMax (wOcons (wOe (wC (.int 1))) (wOcons (wOv 1) wOnil)))))))) wNx)
  (wSeq (wSrcSet 0 "turn" (wFz (wX2 gAdd (wOe (wSrc 0 "turn")) (wOe (wC (.int 1))))))
  (wSeq (wSet 3 (wX2 gMod (wOe (wFz (wXL gInt (wOcons (wOe (wFz (wX2 gAdd (wOe (wSrc 0 "mixed")) (wOe (wFz (wX2 gMul (wOe (wSrc 0 "turn")) (wOe (wC (.int 104729))))))))) wOnil)))) (wOe (wC (.int 998244353)))))
  (wSeq (wSet 3 (wX2 gMod (wOe (wFz (wXL gInt (wOcons (wOe (wFz (wX2 gAdd (wOe (wFz (wX2 gMul (wOv 3) (wOv 3)))) (wOe (wFz (wX2 gMul (wOe (wSrc 0 "turn")) (wOe (wC (.int 17))))))))) wOnil)))) (wOe (wC (.int 2147483647)))))
  (wSeq (wSrcSet 0 "mixed" (wVar 3))
  (wRet (wX2 gMod (wOe (wFz (wXL gInt (wOcons (wOe (wFz (wX2 gDiv (wOv 3) (wOe (wC (.int 16)))))) wOnil)))) (wOv 1))))))))))
abbrev N__law_names : List Str := ["_law_source_here", "_law_many", "_law_shift", "_law_names_here", "_law_tails", "_law_k", "_law_letter"]
def w__law_names (C : CS) : WS Th1 :=
  (wSeq (wPar3 2 3 4 (wBcons (wCall (c__law_pick C) (wCons (wVar 0) (wCons (wC (.int 100)) wNil))) (wBcons (wLst wNil) (wBcons (wLst (wCons (wC (.str "")) (wCons (wC (.str "")) (wCons (wC (.str "")) (wCons (wC (.str "k")) (wCons (wC (.str "kkkkkkkkk")) wNil)))))) wBnil))))
  (wSeq (wFor (wItF rng1 (wCons (wVar 1) wNil)) (wGname 5) (wSeq (wSet 6 (wX2 gIx (wOe (wC (.str "abcdefghijklmnopqrstuvwxyz"))) (wOe (wFz (wCall (c__law_pick C) (wCons (wVar 0) (wCons (wC (.int 26)) wNil)))))))
  (wDrop (wSh (wM 3 gAppend (wCons (wFz (wX2 gAdd (wOe (wFz (wX2 gAdd (wOv 6) (wOe (wFz (wSl (wOe (wFz (wXL gStr (wOcons (wOe (wFz (wX2 gAdd (wOe (wC (.int 100))) (wOe (wFz (wX2 gMod (wOe (wFz (wXL gInt (wOcons (wOe (wFz (wX2 gAdd (wOv 2) (wOe (wFz (wX2 gMul (wOe (wC (.int 37))) (wOv 5))))))) wOnil)))) (wOe (wC (.int 100))))))))) wOnil)))) (wPsome (wC (.int 1))) wPnone)))))) (wOe (wFz (wX2 gIx (wOv 4) (wOe (wFz (wCall (c__law_pick C) (wCons (wVar 0) (wCons (wC (.int 5)) wNil)))))))))) wNil))))))
  (wRetV 3)))
abbrev N_is_row : List Str := ["value", "many"]
def w_is_row (C : CS) : WS Unit :=
  (wRet (wSh (wAndV (wFz (wXL gIsi (wOcons (wOv 0) (wOcons (wOe (wC (.ty "tuple"))) wOnil)))) (wFz (wX2 gEq (wOe (wFz (wXL gLen (wOcons (wOv 0) wOnil)))) (wOv 1))))))
abbrev N_is_integer : List Str := ["value"]
def w_is_integer (C : CS) : WS Unit :=
  (wRet (wSh (wAndV (wFz (wXL gIsi (wOcons (wOv 0) (wOcons (wOe (wC (.ty "int"))) wOnil)))) (wUn dNot (wFz (wXL gIsi (wOcons (wOv 0) (wOcons (wOe (wC (.ty "bool"))) wOnil))))))))
abbrev N_is_word : List Str := ["value", "sign"]
def w_is_word (C : CS) : WS Unit :=
  (wSeq (wIf (wOr (wNot (wTst (wFz (wXL gIsi (wOcons (wOv 0) (wOcons (wOe (wC (.ty "str"))) wOnil)))))) (wOr (wX2T gNotIn (wOe (wFz (wXL gLen (wOcons (wOv 0) wOnil)))) (wOe (wFz (wXL gRng (wOcons (wOe (wC (.int 1))) (wOcons (wOe (wC (.int 13))) wOnil)))))) (wX2T gNotIn (wOe (wFz (wX2 gIx (wOv 0) (wOe (wC (.int 0)))))) (wOe (wC (.str "abcdefghijklmnopqrstuvwxyz")))))) (wRet (wSh (wC (.bl false)))) wNx)
  (wRet (wXL gAll (wOcons (wOe (wFz (wLc (wItK anyD (wVar 0)) (wGname 1) wYes (wOrV (wFz (wX2 gIn (wOv 1) (wOe (wC (.str "abcdefghijklmnopqrstuvwxyz"))))) (wFz (wX2 gIn (wOv 1) (wOe (wC (.str "0123456789")))))) [1]))) wOnil))))
abbrev N_wrong_person : List Str := ["value", "names"]
def w_wrong_person (C : CS) : WS Unit :=
  (wSeq (wIf (wNot (wTst (wFz (wCall (liftC (c_is_row C)) (wCons (wVar 0) (wCons (wC (.int 3)) wNil)))))) (wRet (wSh (wTup wNil))) wNx)
  (wSeq (wIf (wOr (wNot (wTst (wFz (wCall (liftC (c_is_word C)) (wCons (wFz (wX2 gIx (wOv 0) (wOe (wC (.int 0))))) wNil))))) (wX2T gIn (wOe (wFz (wX2 gIx (wOv 0) (wOe (wC (.int 0)))))) (wOv 1))) (wRet (wSh (wTup (wCons (wC (.int 0)) wNil)))) wNx)
  (wSeq (wIf (wNot (wTst (wFz (wCall (liftC (c_is_integer C)) (wCons (wFz (wX2 gIx (wOv 0) (wOe (wC (.int 1))))) wNil))))) (wRet (wSh (wTup (wCons (wC (.int 1)) wNil)))) wNx)
  (wRet (wIfE (wOr (wNot (wTst (wFz (wCall (liftC (c_is_integer C)) (wCons (wFz (wX2 gIx (wOv 0) (wOe (wC (.int 2))))) wNil))))) (wX2T gNotIn (wOe (wFz (wX2 gIx (wOv 0) (wOe (wC (.int 2)))))) (wOe (wTup (wCons (wC (.int 0)) (wCons (wC (.int 1)) wNil)))))) (wSh (wTup (wCons (wC (.int 2)) wNil))) (wSh (wC .non)))))))
abbrev N_wrong_people : List Str := ["value", "names", "k", "person", "path"]
def w_wrong_people (C : CS) : WS Unit :=
  (wSeq (wIf (wNot (wTst (wFz (wXL gIsi (wOcons (wOv 0) (wOcons (wOe (wTup (wCons (wC (.ty "list")) (wCons (wC (.ty "tuple")) wNil)))) wOnil)))))) (wRet (wSh (wTup wNil))) wNx)
  (wSeq (wSet 1 wDnK)
  (wSeq (wFor (wItF enm (wCons (wVar 0) wNil)) (wGtup 2 (wGcons (wGname 2) (wGcons (wGname 3) wGnil))) (wSeq (wSet 4 (wSh (wCallB2 1 (c_wrong_person C) (wVar 3))))
  (wSeq (wIf (wX2T gIsN (wOv 4) (wOe (wC .non))) (wRet (wSh (wTup (wCons (wVar 2) (wStar (wOv 4) wNil))))) wNx)
  (wAsg (wC (.bl true)) (wSub 1 (wOe (wFz (wX2 gIx (wOv 3) (wOe (wC (.int 0)))))))))))
  (wRet (wSh (wC .non))))))
abbrev N_Standing_init : List Str := ["self", "people", "path", "person"]
def w_Standing_init (C : CS) (p : Addr) : WS (Unit × Fs) :=
  (wSeq (wSet 2 (wCall (liftC (c_wrong_people C)) (wCons (wVar 1) wNil)))
  (wSeq (wIf (wX2T gIsN (wOv 2) (wOe (wC .non))) wNever wNx)
  (wSetS 0 p "own_people" (wFz (wDc (wItK anyD (wVar 1)) (wGname 3) wYes (wFz (wX2 gIx (wOv 3) (wOe (wC (.int 0))))) (wVar 3) [3])))))
abbrev N__law_made : List Str := ["_law_people", "_law_one"]
def w__law_made (C : CS) : WS Unit :=
  (wRet (wDspK (((wC (.str "people")), (wFz (wLc (wItK anyD (wVar 0)) (wGname 1) wYes (wFz (wXL gTuple (wOcons (wOv 1) wOnil))) [1]))) :: (((wC (.str "standing")), (wFz (wMake (liftCI (c_Standing_init C)) (wCons (wVar 0) wNil)))) :: []))))
abbrev N__law_mixed : List Str := ["_law_source_here", "_law_things", "_law_rest", "_law_lap"]
def w__law_mixed (C : CS) : WS Th1 :=
  (wSeq (wSet 2 (wXL gList (wOcons (wOv 1) wOnil)))
  (wRet (wLc (wItF rng1 (wCons (wFz (wXL gLen (wOcons (wOv 2) wOnil))) wNil)) (wGname 3) wYes (wM 2 gPopAt (wCons (wFz (wCall (c__law_pick C) (wCons (wVar 0) (wCons (wFz (wXL gLen (wOcons (wOv 2) wOnil))) wNil)))) wNil)) [3])))
abbrev N__law_of : List Str := ["_law_source_here", "_law_some"]
def w__law_of (C : CS) : WS Th1 :=
  (wRet (wX2 gIx (wOv 1) (wOe (wFz (wCall (c__law_pick C) (wCons (wVar 0) (wCons (wFz (wXL gLen (wOcons (wOv 1) wOnil))) wNil)))))))
abbrev N__law_world : List Str := ["_law_source_here", "_law_most", "_law_far", "_law_parity", "_law_here", "_law_people", "_law_name", "_law_one"]
def w__law_world (C : CS) : WS Th1 :=
  (wSeq (wPar 4 5 (wBcons (wX2 gSub (wOe (wFz (wCall (c__law_pick C) (wCons (wVar 0) (wCons (wC (.int 21)) wNil))))) (wOe (wC (.int 10)))) (wBcons (wLst wNil) wBnil)))
  (wSeq (wFor (wItK anyD (wFz (wCall (c__law_names C) (wCons (wVar 0) (wCons (wFz (wX2 gAdd (wOe (wC (.int 1))) (wOe (wFz (wCall (c__law_pick C) (wCons (wVar 0) (wCons (wVar 1) wNil))))))) wNil))))) (wGname 6) (wSeq (wDrop (wSh (wM 5 gAppend (wCons (wTup (wCons (wVar 6) (wCons (wVar 4) (wCons (wFz (wXL gInt (wOcons (wOe (wFz (wX2 gGt (wOe (wFz (wCall (c__law_pick C) (wCons (wVar 0) (wCons (wC (.int 4)) wNil))))) (wOe (wC (.int 0)))))) wOnil))) wNil)))) wNil))))
  (wSet 4 (wX2 gAdd (wOv 4) (wOe (wFz (wCall (c__law_of C) (wCons (wVar 0) (wCons (wFz (wLst (wCons (wC (.int 0)) (wCons (wC (.int 1)) (wCons (wC (.int 1)) (wCons (wC (.int 2)) (wCons (wFz (wX2 gAdd (wOe (wC (.int 1))) (wOe (wFz (wCall (c__law_pick C) (wCons (wVar 0) (wCons (wVar 2) wNil))))))) wNil))))))) wNil)))))))))
  (wSeq (wIf (wAnd (wX2T gLt (wOv 3) (wOe (wC (.int 2)))) (wX2T gNe (wOe (wFz (wX2 gMod (wOe (wFz (wXL gInt (wOcons (wOe (wThawL 5 (wFz (wXL gSum (wOcons (wOe (wFz (wLc (wItK anyD (wVar 5)) (wGname 7) wYes (wFz (wX2 gIx (wOv 7) (wOe (wC (.int 2))))) [7]))) wOnil))))) wOnil)))) (wOe (wC (.int 2)))))) (wOv 3))) (wAsg (wTup (wCons (wFz (wX2 gIx (wOe (wFz (wX2 gIx (wOv 5) (wOe (wFz (wX1 gNeg (wOe (wC (.int 1))))))))) (wOe (wC (.int 0))))) (wCons (wFz (wX2 gIx (wOe (wFz (wX2 gIx (wOv 5) (wOe (wFz (wX1 gNeg (wOe (wC (.int 1))))))))) (wOe (wC (.int 1))))) (wCons (wFz (wX2 gSub (wOe (wC (.int 1))) (wOe (wFz (wX2 gIx (wOe (wFz (wX2 gIx (wOv 5) (wOe (wFz (wX1 gNeg (wOe (wC (.int 1))))))))) (wOe (wC (.int 2)))))))) wNil)))) (wSub 5 (wOe (wFz (wX1 gNeg (wOe (wC (.int 1)))))))) wNx)
  (wRet (wCall (liftC (c__law_made C)) (wCons (wFz (wCall (c__law_mixed C) (wCons (wVar 0) (wCons (wVar 5) wNil)))) wNil))))))
abbrev N__law_turned_voices : List Str := ["_law_world_here", "_law_names_here", "_law_name", "_law_place", "_law_voice"]
def w__law_turned_voices (C : CS) : WS Unit :=
  (wRet (wCall (liftC (c__law_made C)) (wCons (wFz (wLc (wItK anyD (wFz (wX2 gIx (wOv 0) (wOe (wC (.str "people")))))) (wGtup 3 (wGcons (wGname 2) (wGcons (wGname 3) (wGcons (wGname 4) wGnil)))) wYes (wTup (wCons (wVar 2) (wCons (wVar 3) (wCons (wIfD (wX2T gIn (wOv 2) (wOv 1)) (wFz (wX2 gSub (wOe (wC (.int 1))) (wOv 4))) (wVar 4)) wNil)))) [2, 3, 4])) wNil)))
abbrev N__law_at : List Str := ["_law_world_here", "_law_spots_here", "_law_one", "_law_spot"]
def w__law_at (C : CS) : WS Unit :=
  (wRet (wCall (liftC (c__law_made C)) (wCons (wFz (wLc (wItF zpM (wCons (wFz (wX2 gIx (wOv 0) (wOe (wC (.str "people"))))) (wCons (wVar 1) wNil))) (wGtup 2 (wGcons (wGname 2) (wGcons (wGname 3) wGnil))) wYes (wTup (wCons (wFz (wX2 gIx (wOv 2) (wOe (wC (.int 0))))) (wCons (wVar 3) (wCons (wFz (wX2 gIx (wOv 2) (wOe (wC (.int 2))))) wNil)))) [2, 3])) wNil)))
abbrev N_Standing_has_name : List Str := ["self", "value"]
def w_Standing_has_name (C : CS) : WS Unit :=
  (wRet (wSh (wAndV (wFz (wCall (liftC (c_is_word C)) (wCons (wVar 1) wNil))) (wFz (wX2 gIn (wOv 1) (wOe (wFldO C.Standing "own_people" (wOv 0))))))))
abbrev N_Standing_person : List Str := ["self", "name"]
def w_Standing_person (C : CS) : WS Unit :=
  (wSeq (wIf (wNot (wTst (wFz (wMeth C.Standing "has_name" (liftC (c_Standing_has_name C)) (wVar 0) (wCons (wVar 1) wNil))))) wNever wNx)
  (wRet (wX2 gIx (wOe (wFldO C.Standing "own_people" (wOv 0))) (wOv 1))))
abbrev N_Standing_place : List Str := ["self", "name"]
def w_Standing_place (C : CS) : WS Unit :=
  (wRet (wX2 gIx (wOe (wFz (wMeth C.Standing "person" (liftC (c_Standing_person C)) (wVar 0) (wCons (wVar 1) wNil)))) (wOe (wC (.int 1)))))
abbrev N_Standing_names : List Str := ["self"]
def w_Standing_names (C : CS) : WS Unit :=
  (wRet (wXL gList (wOcons (wOe (wFldO C.Standing "own_people" (wOv 0))) wOnil)))
abbrev N_Standing_line : List Str := ["self"]
def w_Standing_line (C : CS) : WS Unit :=
  (wRet (wSrtM C.Standing "place" (c_Standing_place C) (wOe (wFz (wMeth C.Standing "names" (liftC (c_Standing_names C)) (wVar 0) wNil))) (wVar 0)))
abbrev N_Standing_voice : List Str := ["self", "name"]
def w_Standing_voice (C : CS) : WS Unit :=
  (wRet (wX2 gIx (wOe (wFz (wMeth C.Standing "person" (liftC (c_Standing_person C)) (wVar 0) (wCons (wVar 1) wNil)))) (wOe (wC (.int 2)))))
abbrev N_changes_by_sums : List Str := ["standing", "found", "name", "place", "own", "later", "total", "odd", "names", "voice", "sign", "state", "changed"]
def w_changes_by_sums (C : CS) : WS Unit :=
  (wSeq (wSet 1 (wSh (wFz (wDspT (((wTup (wCons (wC (.int 0)) (wCons (wC (.int 0)) wNil))), (wTup wNil)) :: [])))))
  (wSeq (wFor (wItK anyD (wFz (wMeth C.Standing "line" (liftC (c_Standing_line C)) (wVar 0) wNil))) (wGname 2) (wSeq (wPar3 3 4 5 (wBcons (wMeth C.Standing "place" (liftC (c_Standing_place C)) (wVar 0) (wCons (wVar 2) wNil)) (wBcons (wMeth C.Standing "voice" (liftC (c_Standing_voice C)) (wVar 0) (wCons (wVar 2) wNil)) (wBcons wDnT wBnil))))
  (wSeq (wFor (wItK itemsA (wVar 1)) (wGtup 2 (wGcons (wGtup 2 (wGcons (wGname 6) (wGcons (wGname 7) wGnil))) (wGcons (wGname 8) wGnil))) (wFor (wItK anyD (wTup (wCons (wC (.int 0)) (wCons (wC (.int 1)) wNil)))) (wGname 9) (wSeq (wSet 10 (wX2 gMul (wOe (wIfD (wX2T gEq (wOv 7) (wOe (wC (.int 0)))) (wC (.int 1)) (wFz (wX1 gNeg (wOe (wC (.int 1))))))) (wOv 9)))
  (wSeq (wSet 11 (wSh (wTup (wCons (wFz (wX2 gAdd (wOv 6) (wOe (wFz (wX2 gMul (wOv 10) (wOv 3)))))) (wCons (wFz (wX2 gMod (wOe (wFz (wX2 gAdd (wOv 7) (wOv 9)))) (wOe (wC (.int 2))))) wNil)))))
  (wSeq (wSet 12 (wIfE (wX2T gEq (wOv 9) (wOv 4)) (wSh (wVar 8)) (wSh (wTup (wStar (wOv 8) (wCons (wVar 2) wNil))))))
  (wIf (wOr (wX2T gNotIn (wOv 11) (wOv 5)) (wX2T gLt (wOe (wFz (wXL gLen (wOcons (wOv 12) wOnil)))) (wOe (wFz (wXL gLen (wOcons (wOe (wFz (wX2 gIx (wOv 5) (wOv 11)))) wOnil)))))) (wAsg (wVar 12) (wSub 5 (wOv 11))) wNx))))))
  (wSet 1 (wSh (wVar 5))))))
  (wRetV 1)))
abbrev N_places_by_voices : List Str := ["standing", "total", "odd"]
def w_places_by_voices (C : CS) : WS Unit :=
  (wRet (wXL gSorted (wOcons (wOe (wFz (wLc (wItK anyD (wFz (wCall (liftC (c_changes_by_sums C)) (wCons (wVar 0) wNil)))) (wGtup 2 (wGcons (wGname 1) (wGcons (wGname 2) wGnil))) (wX2T gEq (wOv 2) (wOe (wC (.int 1)))) (wVar 1) [1, 2]))) wOnil)))
abbrev N__law_fewest : List Str := ["_law_world_here", "_law_found", "_law_names_here", "_law_lists", "_law_name", "_law_some", "_law_late", "_law_places", "_law_total", "_law_one", "_law_place", "_law_voice"]
def w__law_fewest (C : CS) : WS Unit :=
  (wSeq (wPar 1 2 (wBcons wDnK (wBcons (wLc (wItK anyD (wFz (wX2 gIx (wOv 0) (wOe (wC (.str "people")))))) (wGname 9) wYes (wFz (wX2 gIx (wOv 9) (wOe (wC (.int 0))))) [9]) wBnil)))
  (wSeq (wSet 3 (wLst (wCons (wFz (wLst wNil)) wNil)))
  (wSeq (wFor (wItK anyD (wVar 2)) (wGname 4) (wSet 3 (wX2 gAdd (wOv 3) (wOe (wFz (wLc (wItK anyD (wVar 3)) (wGname 5) wYes (wFz (wX2 gAdd (wOv 5) (wOe (wFz (wLst (wCons (wVar 4) wNil)))))) [5]))))))
  (wSeq (wFor (wItK anyD (wVar 3)) (wGname 5) (wSeq (wSet 6 (wLc (wItK anyD (wFz (wX2 gIx (wOv 0) (wOe (wC (.str "people")))))) (wGtup 3 (wGcons (wGname 4) (wGcons (wGname 10) (wGcons (wGname 11) wGnil)))) wYes (wTup (wCons (wVar 10) (wCons (wIfD (wX2T gIn (wOv 4) (wOv 5)) (wFz (wX2 gSub (wOe (wC (.int 1))) (wOv 11))) (wVar 11)) wNil))) [4, 10, 11]))
  (wSeq (wSet 7 (wXL gSorted (wOcons (wOe (wFz (wLc (wItK anyD (wVar 6)) (wGtup 2 (wGcons (wGname 10) (wGcons (wGname 11) wGnil))) (wX2T gEq (wOv 11) (wOe (wC (.int 1)))) (wVar 10) [10, 11]))) wOnil)))
  (wIf (wX2T gEq (wOe (wFz (wX2 gMod (wOe (wFz (wXL gInt (wOcons (wOe (wFz (wXL gLen (wOcons (wOv 7) wOnil)))) wOnil)))) (wOe (wC (.int 2)))))) (wOe (wC (.int 1)))) (wSeq (wSet 8 (wX2 gSub (wOe (wFz (wXL gSum (wOcons (wOe (wFz (wSl3 (wOv 7) wPnone wPnone (wPsome (wC (.int 2)))))) wOnil)))) (wOe (wFz (wXL gSum (wOcons (wOe (wFz (wSl3 (wOv 7) (wPsome (wC (.int 1))) wPnone (wPsome (wC (.int 2)))))) wOnil))))))
  (wAsg (wFz (wXL gMin (wOcons (wOe (wGet2 (wOv 1) (wOv 8) (wFz (wXL gLen (wOcons (wOv 2) wOnil))))) (wOcons (wOe (wFz (wXL gLen (wOcons (wOv 5) wOnil)))) wOnil)))) (wSub 1 (wOv 8)))) wNx))))
  (wRetV 1)))))
abbrev N_wished_voices : List Str := ["standing", "place", "names"]
def w_wished_voices (C : CS) : WS Unit :=
  (wSeq (wSet 2 (wSh (wGet1 (wOe (wFz (wCall (liftC (c_changes_by_sums C)) (wCons (wVar 0) wNil)))) (wOe (wTup (wCons (wVar 1) (wCons (wC (.int 1)) wNil)))))))
  (wRet (wIfE (wX2T gIs (wOv 2) (wOe (wC .non))) (wSh (wC .non)) (wSh (wTup (wCons (wC (.str "voices")) (wCons (wVar 2) wNil)))))))
abbrev N__law_spots : List Str := ["_law_world_here", "_law_one"]
def w__law_spots (C : CS) : WS Unit :=
  (wRet (wXL gTuple (wOcons (wOe (wFz (wLc (wItK anyD (wFz (wX2 gIx (wOv 0) (wOe (wC (.str "people")))))) (wGname 1) wYes (wFz (wX2 gIx (wOv 1) (wOe (wC (.int 1))))) [1]))) wOnil)))
abbrev N_law : List Str := ["_law_script", "_law_source_here", "_law_turn", "_law_world_here", "_law_due", "_law_lap", "_law_told", "_law_names_here", "_law_late", "_law_turned", "_law_place", "_law_one", "_law_spot"]
def w_law (C : CS) : WS Th1 :=
  (wSeq (wSet 1 (wCall (c__law_source C) (wCons (wVar 0) wNil)))
  (wSeq (wFor (wItF rng1 (wCons (wC (.int 4)) wNil)) (wGname 2) (wSeq (wSet 3 (wCall (c__law_world C) (wCons (wVar 1) (wCons (wFz (wX2 gIx (wOe (wFz (wLst (wCons (wC (.int 2)) (wCons (wC (.int 5)) (wCons (wC (.int 8)) (wCons (wC (.int 12)) wNil))))))) (wOv 2))) (wCons (wC (.int 4)) (wCons (wC (.int 2)) wNil))))))
  (wSeq (wIf (wX2T gEq (wOe (wFz (wCall (c__law_pick C) (wCons (wVar 1) (wCons (wC (.int 3)) wNil))))) (wOe (wC (.int 0)))) (wSet 3 (wCall (liftC (c__law_at C)) (wCons (wVar 3) (wCons (wFz (wXL gTuple (wOcons (wOe (wFz (wLc (wItK anyD (wFz (wCall (liftC (c__law_spots C)) (wCons (wVar 3) wNil)))) (wGname 12) wYes (wFz (wX2 gSub (wOe (wFz (wCall (c__law_pick C) (wCons (wVar 1) (wCons (wC (.int 2001)) wNil))))) (wOe (wC (.int 1000))))) [12]))) wOnil))) wNil)))) wNx)
  (wSeq (wSet 4 (wXL gSorted (wOcons (wOe (wFz (wCall (liftC (c__law_fewest C)) (wCons (wVar 3) wNil)))) wOnil)))
  (wSeq (wFor (wItF rng1 (wCons (wC (.int 2)) wNil)) (wGname 5) (wSeq (wSet 6 (wCall (liftC (c_places_by_voices C)) (wCons (wFz (wX2 gIx (wOv 3) (wOe (wC (.str "standing"))))) wNil)))
  (wSeq (wIf (wX2T gNe (wOe (wFz (wXL gReprL (wOcons (wOv 6) wOnil)))) (wOe (wFz (wXL gReprL (wOcons (wOv 4) wOnil))))) (wRet (wSh (wC (.bl false)))) wNx)
  (wDrop (wSh (wM 6 gAppend (wCons (wC .non) wNil)))))))
  (wSeq (wSet 7 (wLc (wItK anyD (wFz (wX2 gIx (wOv 3) (wOe (wC (.str "people")))))) (wGname 11) wYes (wFz (wX2 gIx (wOv 11) (wOe (wC (.int 0))))) [11]))
  (wSeq (wSet 8 (wCall (liftC (c__law_turned_voices C)) (wCons (wVar 3) (wCons (wFz (wSl (wOe (wFz (wCall (c__law_mixed C) (wCons (wVar 1) (wCons (wVar 7) wNil))))) wPnone (wPsome (wFz (wCall (c__law_pick C) (wCons (wVar 1) (wCons (wFz (wX2 gAdd (wOe (wFz (wXL gLen (wOcons (wOv 7) wOnil)))) (wOe (wC (.int 1))))) wNil))))))) wNil))))
  (wSeq (wIf (wX2T gNe (wOe (wFz (wCall (liftC (c_places_by_voices C)) (wCons (wFz (wX2 gIx (wOv 8) (wOe (wC (.str "standing"))))) wNil)))) (wOv 4)) (wRet (wSh (wC (.bl false)))) wNx)
  (wSeq (wSet 9 (wCall (liftC (c__law_at C)) (wCons (wVar 3) (wCons (wFz (wXL gTuple (wOcons (wOe (wFz (wLc (wItK anyD (wFz (wCall (liftC (c__law_spots C)) (wCons (wVar 3) wNil)))) (wGname 12) wYes (wFz (wX2 gSub (wOe (wC (.int 0))) (wOv 12))) [12]))) wOnil))) wNil))))
  (wSeq (wIf (wX2T gNe (wOe (wFz (wCall (liftC (c_places_by_voices C)) (wCons (wFz (wX2 gIx (wOv 9) (wOe (wC (.str "standing"))))) wNil)))) (wOe (wFz (wLc (wItK anyD (wFz (wSl3 (wOv 4) wPnone wPnone (wPsome (wFz (wX1 gNeg (wOe (wC (.int 1))))))))) (wGname 10) wYes (wFz (wX2 gSub (wOe (wC (.int 0))) (wOv 10))) [10])))) (wRet (wSh (wC (.bl false)))) wNx)
  (wFor (wItK anyD (wFz (wSl (wOe (wFz (wCall (c__law_mixed C) (wCons (wVar 1) (wCons (wVar 4) wNil))))) wPnone (wPsome (wC (.int 3)))))) (wGname 10) (wIf (wX2T gIs (wOe (wFz (wCall (liftC (c_wished_voices C)) (wCons (wFz (wX2 gIx (wOv 8) (wOe (wC (.str "standing"))))) (wCons (wVar 10) wNil))))) (wOe (wC .non))) (wRet (wSh (wC (.bl false)))) wNx))))))))))))
  (wRet (wX2 gEq (wOe (wFz (wCall (liftC (c_places_by_voices C)) (wCons (wFz (wX2 gIx (wOe (wFz (wCall (liftC (c__law_made C)) (wCons (wFz (wLst wNil)) wNil)))) (wOe (wC (.str "standing"))))) wNil)))) (wOe (wFz (wLst wNil)))))))
end VL

set_option Elab.async false
set_option linter.all false
set_option maxRecDepth 100000
set_option maxHeartbeats 4000000
namespace VL
open PySem PySem.Spec PyProof.Rows L2
abbrev N__law_by_turns : List Str := ["_law_world_here", "_law_spots_here", "_law_places", "_law_found", "_law_k"]
def w__law_by_turns (C : CS) : WS Unit :=
  (wSeq (wPar 2 3 (wBcons (wXL gSorted (wOcons (wOe (wFz (wLc (wItF rng1 (wCons (wFz (wXL gLen (wOcons (wOv 1) wOnil))) wNil)) (wGname 4) (wX2T gEq (wOe (wFz (wX2 gIx (wOe (wFz (wX2 gIx (wOe (wFz (wX2 gIx (wOv 0) (wOe (wC (.str "people")))))) (wOv 4)))) (wOe (wC (.int 2)))))) (wOe (wC (.int 1)))) (wFz (wX2 gIx (wOv 1) (wOv 4))) [4]))) wOnil)) (wBcons (wSh (wC (.int 0))) wBnil)))
  (wSeq (wFor (wItF rng1 (wCons (wFz (wXL gLen (wOcons (wOv 2) wOnil))) wNil)) (wGname 4) (wSet 3 (wX2 gAdd (wOv 3) (wOe (wIfD (wX2T gEq (wOe (wFz (wX2 gMod (wOe (wFz (wXL gInt (wOcons (wOv 4) wOnil)))) (wOe (wC (.int 2)))))) (wOe (wC (.int 0)))) (wFz (wX2 gIx (wOv 2) (wOv 4))) (wFz (wX2 gSub (wOe (wC (.int 0))) (wOe (wFz (wX2 gIx (wOv 2) (wOv 4)))))))))))
  (wRetV 3)))
abbrev N__law_stepped : List Str := ["_law_world_here", "_law_rows", "_law_by", "_law_name", "_law_place", "_law_voice"]
def w__law_stepped (C : CS) : WS Unit :=
  (wSeq (wSet 2 (wXL gDict (wOcons (wOv 1) wOnil)))
  (wRet (wXL gTuple (wOcons (wOe (wFz (wLc (wItK anyD (wFz (wX2 gIx (wOv 0) (wOe (wC (.str "people")))))) (wGtup 3 (wGcons (wGname 3) (wGcons (wGname 4) (wGcons (wGname 5) wGnil)))) wYes (wFz (wX2 gAdd (wOv 4) (wOe (wGet2 (wOv 2) (wOv 3) (wC (.int 0)))))) [3, 4, 5]))) wOnil))))
abbrev N__law_voices : List Str := ["_law_world_here", "_law_one"]
def w__law_voices (C : CS) : WS Unit :=
  (wRet (wXL gSum (wOcons (wOe (wFz (wLc (wItK anyD (wFz (wX2 gIx (wOv 0) (wOe (wC (.str "people")))))) (wGname 1) wYes (wFz (wX2 gIx (wOv 1) (wOe (wC (.int 2))))) [1]))) wOnil)))
abbrev N__law_is_whole : List Str := ["_law_value"]
def w__law_is_whole (C : CS) : WS Unit :=
  (wRet (wSh (wAndV (wFz (wXL gIsi (wOcons (wOv 0) (wOcons (wOe (wC (.ty "int"))) wOnil)))) (wUn dNot (wFz (wXL gIsi (wOcons (wOv 0) (wOcons (wOe (wC (.ty "bool"))) wOnil))))))))
abbrev N__law_verdict : List Str := ["_law_world_here", "_law_place", "_law_value", "_law_names_here", "_law_seen", "_law_row", "_law_k", "_law_name", "_law_late", "_law_told", "_law_one"]
def w__law_verdict (C : CS) : WS Unit :=
  (wSeq (wIf (wOr (wNot (wTst (wFz (wXL gIsi (wOcons (wOv 2) (wOcons (wOe (wC (.ty "tuple"))) wOnil)))))) (wOr (wX2T gNe (wOe (wFz (wXL gLen (wOcons (wOv 2) wOnil)))) (wOe (wC (.int 2)))) (wX2T gNotIn (wOe (wFz (wXL gRepr (wOcons (wOe (wFz (wX2 gIx (wOv 2) (wOe (wC (.int 0)))))) wOnil)))) (wOe (wFz (wLst (wCons (wFz (wXL gRepr (wOcons (wOe (wC (.str "steps"))) wOnil))) (wCons (wFz (wXL gRepr (wOcons (wOe (wC (.str "voices"))) wOnil))) wNil)))))))) (wRet (wSh (wTup (wCons (wC (.str "form")) wNil)))) wNx)
  (wSeq (wIf (wNot (wTst (wFz (wXL gIsi (wOcons (wOe (wFz (wX2 gIx (wOv 2) (wOe (wC (.int 1)))))) (wOcons (wOe (wC (.ty "tuple"))) wOnil)))))) (wRet (wSh (wTup (wCons (wC (.str "form")) wNil)))) wNx)
  (wSeq (wPar 3 4 (wBcons (wLc (wItK anyD (wFz (wX2 gIx (wOv 0) (wOe (wC (.str "people")))))) (wGname 10) wYes (wFz (wX2 gIx (wOv 10) (wOe (wC (.int 0))))) [10]) (wBcons (wLst wNil) wBnil)))
  (wSeq (wIf (wX2T gEq (wOe (wFz (wX2 gIx (wOv 2) (wOe (wC (.int 0)))))) (wOe (wC (.str "steps")))) (wFor (wItK anyD (wFz (wX2 gIx (wOv 2) (wOe (wC (.int 1)))))) (wGname 5) (wIf (wOr (wNot (wTst (wFz (wXL gIsi (wOcons (wOv 5) (wOcons (wOe (wC (.ty "tuple"))) wOnil)))))) (wOr (wX2T gNe (wOe (wFz (wXL gLen (wOcons (wOv 5) wOnil)))) (wOe (wC (.int 2)))) (wOr (wNot (wTst (wFz (wCall (liftC (c__law_is_whole C)) (wCons (wFz (wX2 gIx (wOv 5) (wOe (wC (.int 1))))) wNil))))) (wX2T gEq (wOe (wFz (wX2 gIx (wOv 5) (wOe (wC (.int 1)))))) (wOe (wC (.int 0))))))) (wRet (wSh (wTup (wCons (wC (.str "form")) wNil)))) wNx)) wNx)
  (wSeq (wFor (wItF rng1 (wCons (wFz (wXL gLen (wOcons (wOe (wFz (wX2 gIx (wOv 2) (wOe (wC (.int 1)))))) wOnil))) wNil)) (wGname 6) (wSeq (wSet 7 (wIfE (wX2T gEq (wOe (wFz (wX2 gIx (wOv 2) (wOe (wC (.int 0)))))) (wOe (wC (.str "steps")))) (wX2 gIx (wOe (wFz (wX2 gIx (wOe (wFz (wX2 gIx (wOv 2) (wOe (wC (.int 1)))))) (wOv 6)))) (wOe (wC (.int 0)))) (wX2 gIx (wOe (wFz (wX2 gIx (wOv 2) (wOe (wC (.int 1)))))) (wOv 6))))
  (wSeq (wIf (wOr (wNot (wTst (wFz (wXL gIsi (wOcons (wOv 7) (wOcons (wOe (wC (.ty "str"))) wOnil)))))) (wOr (wX2T gNotIn (wOv 7) (wOv 3)) (wX2T gIn (wOv 7) (wOv 4)))) (wRet (wSh (wTup (wCons (wC (.str "name")) (wCons (wVar 6) wNil))))) wNx)
  (wDrop (wSh (wM 4 gAppend (wCons (wVar 7) wNil)))))))
  (wSeq (wSet 8 (wIfE (wX2T gEq (wOe (wFz (wX2 gIx (wOv 2) (wOe (wC (.int 0)))))) (wOe (wC (.str "voices")))) (wCall (liftC (c__law_turned_voices C)) (wCons (wVar 0) (wCons (wVar 4) wNil))) (wCall (liftC (c__law_at C)) (wCons (wVar 0) (wCons (wFz (wCall (liftC (c__law_stepped C)) (wCons (wVar 0) (wCons (wFz (wX2 gIx (wOv 2) (wOe (wC (.int 1))))) wNil)))) wNil)))))
  (wSeq (wIf (wX2T gEq (wOe (wFz (wX2 gMod (wOe (wFz (wXL gInt (wOcons (wOe (wFz (wCall (liftC (c__law_voices C)) (wCons (wVar 8) wNil)))) wOnil)))) (wOe (wC (.int 2)))))) (wOe (wC (.int 0)))) (wRet (wSh (wTup (wCons (wC (.str "even")) wNil)))) wNx)
  (wSeq (wSet 9 (wCall (liftC (c__law_by_turns C)) (wCons (wVar 8) (wCons (wFz (wCall (liftC (c__law_spots C)) (wCons (wVar 8) wNil))) wNil))))
  (wRet (wIfE (wX2T gEq (wOv 9) (wOv 1)) (wSh (wC .non)) (wSh (wTup (wCons (wC (.str "place")) (wCons (wVar 9) wNil))))))))))))))
abbrev N_Standing_people : List Str := ["self"]
def w_Standing_people (C : CS) : WS Unit :=
  (wRet (wVals (wOe (wFldO C.Standing "own_people" (wOv 0)))))
abbrev N_exchanged : List Str := ["standing", "person", "own", "other"]
def w_exchanged (C : CS) : WS Unit :=
  (wSeq (wSet 2 (wMeth C.Standing "person" (liftC (c_Standing_person C)) (wVar 0) (wCons (wFz (wX2 gIx (wOv 1) (wOe (wC (.int 0))))) wNil)))
  (wRet (wMake (liftCI (c_Standing_init C)) (wCons (wFz (wLc (wItK anyD (wFz (wMeth C.Standing "people" (liftC (c_Standing_people C)) (wVar 0) wNil))) (wGname 3) wYes (wIfD (wX2T gEq (wOv 3) (wOv 2)) (wVar 1) (wVar 3)) [3])) wNil))))
abbrev N_moved_person : List Str := ["standing", "name", "place"]
def w_moved_person (C : CS) : WS Unit :=
  (wRet (wCall (liftC (c_exchanged C)) (wCons (wVar 0) (wCons (wTup (wCons (wVar 1) (wCons (wVar 2) (wCons (wFz (wMeth C.Standing "voice" (liftC (c_Standing_voice C)) (wVar 0) (wCons (wVar 1) wNil))) wNil)))) wNil))))
abbrev N_voiced : List Str := ["standing", "name", "voice"]
def w_voiced (C : CS) : WS Unit :=
  (wRet (wCall (liftC (c_exchanged C)) (wCons (wVar 0) (wCons (wTup (wCons (wVar 1) (wCons (wFz (wMeth C.Standing "place" (liftC (c_Standing_place C)) (wVar 0) (wCons (wVar 1) wNil))) (wCons (wVar 2) wNil)))) wNil))))
abbrev N_wished : List Str := ["standing", "value", "member"]
def w_wished (C : CS) : WS Unit :=
  (wSeq (wFor (wItK anyD (wFz (wX2 gIx (wOv 1) (wOe (wC (.int 1)))))) (wGname 2) (wIf (wX2T gEq (wOe (wFz (wX2 gIx (wOv 1) (wOe (wC (.int 0)))))) (wOe (wC (.str "steps")))) (wSet 0 (wCall (liftC (c_moved_person C)) (wCons (wVar 0) (wCons (wFz (wX2 gIx (wOv 2) (wOe (wC (.int 0))))) (wCons (wFz (wX2 gAdd (wOe (wFz (wMeth C.Standing "place" (liftC (c_Standing_place C)) (wVar 0) (wCons (wFz (wX2 gIx (wOv 2) (wOe (wC (.int 0))))) wNil)))) (wOe (wFz (wX2 gIx (wOv 2) (wOe (wC (.int 1)))))))) wNil))))) (wSet 0 (wCall (liftC (c_voiced C)) (wCons (wVar 0) (wCons (wVar 2) (wCons (wFz (wX2 gSub (wOe (wC (.int 1))) (wOe (wFz (wMeth C.Standing "voice" (liftC (c_Standing_voice C)) (wVar 0) (wCons (wVar 2) wNil)))))) wNil)))))))
  (wRetV 0))
abbrev N_is_row_wishes : List Str := ["value"]
def w_is_row_wishes (C : CS) : WS Unit :=
  (wRet (wSh (wAndV (wFz (wXL gIsi (wOcons (wOv 0) (wOcons (wOe (wC (.ty "tuple"))) wOnil)))) (wAndV (wFz (wX2 gEq (wOe (wFz (wXL gLen (wOcons (wOv 0) wOnil)))) (wOe (wC (.int 2))))) (wAndV (wFz (wCall (liftC (c_is_integer C)) (wCons (wFz (wX2 gIx (wOv 0) (wOe (wC (.int 1))))) wNil))) (wFz (wX2 gNe (wOe (wFz (wX2 gIx (wOv 0) (wOe (wC (.int 1)))))) (wOe (wC (.int 0))))))))))
abbrev N_has_form : List Str := ["value", "row"]
def w_has_form (C : CS) : WS Unit :=
  (wSeq (wIf (wOr (wNot (wTst (wFz (wXL gIsi (wOcons (wOv 0) (wOcons (wOe (wC (.ty "tuple"))) wOnil)))))) (wOr (wX2T gNe (wOe (wFz (wXL gLen (wOcons (wOv 0) wOnil)))) (wOe (wC (.int 2)))) (wNot (wTst (wFz (wXL gIsi (wOcons (wOe (wFz (wX2 gIx (wOv 0) (wOe (wC (.int 1)))))) (wOcons (wOe (wC (.ty "tuple"))) wOnil)))))))) (wRet (wSh (wC (.bl false)))) wNx)
  (wSeq (wIf (wOr (wNot (wTst (wFz (wXL gIsi (wOcons (wOe (wFz (wX2 gIx (wOv 0) (wOe (wC (.int 0)))))) (wOcons (wOe (wC (.ty "str"))) wOnil)))))) (wX2T gNotIn (wOe (wFz (wX2 gIx (wOv 0) (wOe (wC (.int 0)))))) (wOe (wTup (wCons (wC (.str "steps")) (wCons (wC (.str "voices")) wNil)))))) (wRet (wSh (wC (.bl false)))) wNx)
  (wRet (wSh (wOrV (wFz (wX2 gEq (wOe (wFz (wX2 gIx (wOv 0) (wOe (wC (.int 0)))))) (wOe (wC (.str "voices"))))) (wFz (wXL gAll (wOcons (wOe (wFz (wLc (wItK anyD (wFz (wX2 gIx (wOv 0) (wOe (wC (.int 1)))))) (wGname 1) wYes (wFz (wCall (liftC (c_is_row_wishes C)) (wCons (wVar 1) wNil))) [1]))) wOnil))))))))
abbrev N_Standing_voices : List Str := ["self", "name", "place", "voice"]
def w_Standing_voices (C : CS) : WS Unit :=
  (wRet (wXL gSum (wOcons (wOe (wFz (wLc (wItK anyD (wFz (wMeth C.Standing "people" (liftC (c_Standing_people C)) (wVar 0) wNil))) (wGtup 3 (wGcons (wGname 1) (wGcons (wGname 2) (wGcons (wGname 3) wGnil)))) wYes (wVar 3) [1, 2, 3]))) wOnil)))
abbrev N_voice_places : List Str := ["standing", "name", "place", "voice"]
def w_voice_places (C : CS) : WS Unit :=
  (wRet (wXL gSorted (wOcons (wOe (wFz (wLc (wItK anyD (wFz (wMeth C.Standing "people" (liftC (c_Standing_people C)) (wVar 0) wNil))) (wGtup 3 (wGcons (wGname 1) (wGcons (wGname 2) (wGcons (wGname 3) wGnil)))) (wX2T gEq (wOv 3) (wOe (wC (.int 1)))) (wVar 2) [1, 2, 3]))) wOnil)))
abbrev N_turn_sum : List Str := ["standing", "places"]
def w_turn_sum (C : CS) : WS Unit :=
  (wSeq (wSet 1 (wCall (liftC (c_voice_places C)) (wCons (wVar 0) wNil)))
  (wRet (wX2 gSub (wOe (wFz (wXL gSum (wOcons (wOe (wFz (wSl3 (wOv 1) wPnone wPnone (wPsome (wC (.int 2)))))) wOnil)))) (wOe (wFz (wXL gSum (wOcons (wOe (wFz (wSl3 (wOv 1) (wPsome (wC (.int 1))) wPnone (wPsome (wC (.int 2)))))) wOnil)))))))
abbrev N_judge_wish : List Str := ["standing", "place", "value", "names", "k", "name", "late", "member"]
def w_judge_wish (C : CS) : WS Unit :=
  (wSeq (wIf (wNot (wTst (wFz (wCall (liftC (c_has_form C)) (wCons (wVar 2) wNil))))) (wRet (wSh (wTup (wCons (wC (.str "form")) wNil)))) wNx)
  (wSeq (wSet 3 (wLc (wItK anyD (wFz (wX2 gIx (wOv 2) (wOe (wC (.int 1)))))) (wGname 7) wYes (wIfD (wX2T gEq (wOe (wFz (wX2 gIx (wOv 2) (wOe (wC (.int 0)))))) (wOe (wC (.str "steps")))) (wFz (wX2 gIx (wOv 7) (wOe (wC (.int 0))))) (wVar 7)) [7]))
  (wSeq (wFor (wItF enm (wCons (wVar 3) wNil)) (wGtup 2 (wGcons (wGname 4) (wGcons (wGname 5) wGnil))) (wIf (wOr (wNot (wTst (wFz (wMeth C.Standing "has_name" (liftC (c_Standing_has_name C)) (wVar 0) (wCons (wVar 5) wNil))))) (wX2T gIn (wOv 5) (wOe (wFz (wSl (wOv 3) wPnone (wPsome (wVar 4))))))) (wRet (wSh (wTup (wCons (wC (.str "name")) (wCons (wVar 4) wNil))))) wNx))
  (wSeq (wSet 6 (wSh (wFz (wCall (liftC (c_wished C)) (wCons (wVar 0) (wCons (wVar 2) wNil))))))
  (wSeq (wIf (wX2T gEq (wOe (wFz (wX2 gMod (wOe (wFz (wMeth C.Standing "voices" (liftC (c_Standing_voices C)) (wVar 6) wNil))) (wOe (wC (.int 2)))))) (wOe (wC (.int 0)))) (wRet (wSh (wTup (wCons (wC (.str "even")) wNil)))) wNx)
  (wRet (wIfE (wX2T gEq (wOe (wFz (wCall (liftC (c_turn_sum C)) (wCons (wVar 6) wNil)))) (wOv 1)) (wSh (wC .non)) (wSh (wTup (wCons (wC (.str "place")) (wCons (wFz (wCall (liftC (c_turn_sum C)) (wCons (wVar 6) wNil))) wNil)))))))))))
abbrev N_law_v2 : List Str := ["_law_script", "_law_source_here", "_law_turn", "_law_world_here", "_law_one", "_law_due", "_law_some", "_law_place", "_law_told", "_law_nobody", "_law_alone", "_law_look", "_law_spot"]
def w_law_v2 (C : CS) : WS Th1 :=
  (wSeq (wSet 1 (wCall (c__law_source C) (wCons (wVar 0) wNil)))
  (wSeq (wFor (wItF rng1 (wCons (wC (.int 4)) wNil)) (wGname 2) (wSeq (wSet 3 (wCall (c__law_world C) (wCons (wVar 1) (wCons (wFz (wX2 gIx (wOe (wFz (wLst (wCons (wC (.int 2)) (wCons (wC (.int 5)) (wCons (wC (.int 8)) (wCons (wC (.int 12)) wNil))))))) (wOv 2))) (wCons (wC (.int 4)) (wCons (wC (.int 2)) wNil))))))
  (wSeq (wIf (wAnd (wX2T gLt (wOv 2) (wOe (wC (.int 3)))) (wX2T gEq (wOe (wFz (wCall (c__law_pick C) (wCons (wVar 1) (wCons (wC (.int 3)) wNil))))) (wOe (wC (.int 0))))) (wSet 3 (wCall (liftC (c__law_at C)) (wCons (wVar 3) (wCons (wFz (wXL gTuple (wOcons (wOe (wFz (wLc (wItK anyD (wFz (wCall (liftC (c__law_spots C)) (wCons (wVar 3) wNil)))) (wGname 12) wYes (wFz (wX2 gMod (wOe (wFz (wXL gInt (wOcons (wOv 12) wOnil)))) (wOe (wC (.int 3))))) [12]))) wOnil))) wNil)))) wNx)
  (wSeq (wPar 4 5 (wBcons (wX2 gIx (wOv 3) (wOe (wC (.str "standing")))) (wBcons (wCall (liftC (c__law_fewest C)) (wCons (wVar 3) wNil)) wBnil)))
  (wSeq (wSet 6 (wX2 gAdd (wOe (wFz (wSl (wOe (wFz (wCall (c__law_mixed C) (wCons (wVar 1) (wCons (wFz (wXL gSorted (wOcons (wOv 5) wOnil))) wNil))))) wPnone (wPsome (wC (.int 7)))))) (wOe (wFz (wLc (wItF rng1 (wCons (wC (.int 3)) wNil)) (wGname 11) wYes (wFz (wX2 gSub (wOe (wFz (wCall (c__law_pick C) (wCons (wVar 1) (wCons (wC (.int 41)) wNil))))) (wOe (wC (.int 20))))) [11])))))
  (wFor (wItK anyD (wVar 6)) (wGname 7) (wSeq (wSet 8 (wCall (liftC (c_wished_voices C)) (wCons (wVar 4) (wCons (wVar 7) wNil))))
  (wSeq (wIf (wX2T gNe (wOe (wFz (wX2 gIs (wOv 8) (wOe (wC .non))))) (wOe (wFz (wX2 gNotIn (wOv 7) (wOv 5))))) (wRet (wSh (wC (.bl false)))) wNx)
  (wSeq (wIf (wAnd (wX2T gIsN (wOv 8) (wOe (wC .non))) (wOr (wX2T gIsN (wOe (wFz (wCall (liftC (c__law_verdict C)) (wCons (wVar 3) (wCons (wVar 7) (wCons (wVar 8) wNil)))))) (wOe (wC .non))) (wX2T gNe (wOe (wFz (wX2 gIx (wOv 8) (wOe (wC (.int 0)))))) (wOe (wC (.str "voices")))))) (wRet (wSh (wC (.bl false)))) wNx)
  (wIf (wAnd (wX2T gIsN (wOv 8) (wOe (wC .non))) (wOr (wX2T gNe (wOe (wFz (wXL gLen (wOcons (wOe (wFz (wX2 gIx (wOv 8) (wOe (wC (.int 1)))))) wOnil)))) (wOe (wFz (wX2 gIx (wOv 5) (wOv 7))))) (wX2T gIsN (wOe (wFz (wCall (liftC (c_judge_wish C)) (wCons (wVar 4) (wCons (wVar 7) (wCons (wVar 8) wNil)))))) (wOe (wC .non))))) (wRet (wSh (wC (.bl false)))) wNx))))))))))
  (wSeq (wSet 9 (wX2 gIx (wOe (wFz (wCall (liftC (c__law_made C)) (wCons (wFz (wLst wNil)) wNil)))) (wOe (wC (.str "standing")))))
  (wSeq (wSet 10 (wX2 gIx (wOe (wFz (wCall (liftC (c__law_made C)) (wCons (wFz (wLst (wCons (wTup (wCons (wC (.str "a")) (wCons (wC (.int 7)) (wCons (wC (.int 0)) wNil)))) wNil))) wNil)))) (wOe (wC (.str "standing")))))
  (wSeq (wSet 8 (wLst (wCons (wFz (wCall (liftC (c_wished_voices C)) (wCons (wVar 9) (wCons (wC (.int 0)) wNil)))) (wCons (wFz (wCall (liftC (c_wished_voices C)) (wCons (wVar 10) (wCons (wC (.int 7)) wNil)))) (wCons (wFz (wCall (liftC (c_wished_voices C)) (wCons (wVar 10) (wCons (wC (.int 6)) wNil)))) wNil)))))
  (wRet (wX2 gEq (wOv 8) (wOe (wFz (wLst (wCons (wC .non) (wCons (wTup (wCons (wC (.str "voices")) (wCons (wTup (wCons (wC (.str "a")) wNil)) wNil))) (wCons (wC .non) wNil)))))))))))))
end VL

set_option Elab.async false
set_option linter.all false
set_option maxRecDepth 100000
set_option maxHeartbeats 4000000
namespace VL
open PySem PySem.Spec PyProof.Rows L2
abbrev N__law_crowded : List Str := ["_law_source_here", "_law_most", "_law_far", "_law_parity", "_law_world_here", "_law_way", "_law_big", "_law_spot"]
def w__law_crowded (C : CS) : WS Th1 :=
  (wSeq (wPar 4 5 (wBcons (wCall (c__law_world C) (wCons (wVar 0) (wCons (wVar 1) (wCons (wVar 2) (wCons (wVar 3) wNil))))) (wBcons (wCall (c__law_pick C) (wCons (wVar 0) (wCons (wC (.int 4)) wNil))) wBnil)))
  (wSeq (wIf (wX2T gEq (wOv 5) (wOe (wC (.int 0)))) (wSeq (wSet 6 (wX2 gAdd (wOe (wC (.int 1))) (wOe (wFz (wCall (c__law_pick C) (wCons (wVar 0) (wCons (wFz (wX2 gPow (wOe (wC (.int 10))) (wOe (wC (.int 12))))) wNil)))))))
  (wRet (wCall (liftC (c__law_at C)) (wCons (wVar 4) (wCons (wFz (wXL gTuple (wOcons (wOe (wFz (wLc (wItK anyD (wFz (wCall (liftC (c__law_spots C)) (wCons (wVar 4) wNil)))) (wGname 7) wYes (wFz (wX2 gMul (wOv 7) (wOv 6))) [7]))) wOnil))) wNil))))) wNx)
  (wSeq (wIf (wX2T gEq (wOv 5) (wOe (wC (.int 1)))) (wRet (wCall (liftC (c__law_at C)) (wCons (wVar 4) (wCons (wFz (wXL gTuple (wOcons (wOe (wFz (wLc (wItK anyD (wFz (wCall (liftC (c__law_spots C)) (wCons (wVar 4) wNil)))) (wGname 7) wYes (wFz (wX2 gMod (wOe (wFz (wXL gInt (wOcons (wOv 7) wOnil)))) (wOe (wC (.int 3))))) [7]))) wOnil))) wNil)))) wNx)
  (wRetV 4))))
abbrev N_with_voice : List Str := ["standing", "name"]
def w_with_voice (C : CS) : WS Unit :=
  (wRet (wLc (wItK anyD (wFz (wMeth C.Standing "line" (liftC (c_Standing_line C)) (wVar 0) wNil))) (wGname 1) (wX2T gEq (wOe (wFz (wMeth C.Standing "voice" (liftC (c_Standing_voice C)) (wVar 0) (wCons (wVar 1) wNil)))) (wOe (wC (.int 1)))) (wVar 1) [1]))
abbrev N_wished_steps : List Str := ["standing", "place", "by", "names"]
def w_wished_steps (C : CS) : WS Unit :=
  (wSeq (wIf (wX2T gEq (wOe (wFz (wX2 gMod (wOe (wFz (wMeth C.Standing "voices" (liftC (c_Standing_voices C)) (wVar 0) wNil))) (wOe (wC (.int 2)))))) (wOe (wC (.int 0)))) (wRaise (.ref C.EvenVoices)) wNx)
  (wSeq (wSet 2 (wX2 gSub (wOv 1) (wOe (wFz (wCall (liftC (c_turn_sum C)) (wCons (wVar 0) wNil))))))
  (wSeq (wSet 3 (wCall (liftC (c_with_voice C)) (wCons (wVar 0) wNil)))
  (wSeq (wIf (wX2T gEq (wOv 2) (wOe (wC (.int 0)))) (wRet (wSh (wTup (wCons (wC (.str "steps")) (wCons (wTupF wNil) wNil))))) wNx)
  (wRet (wSh (wTup (wCons (wC (.str "steps")) (wCons (wTupF (wCons (wTup (wCons (wIfD (wX2T gGt (wOv 2) (wOe (wC (.int 0)))) (wFz (wX2 gIx (wOv 3) (wOe (wFz (wX1 gNeg (wOe (wC (.int 1)))))))) (wFz (wX2 gIx (wOv 3) (wOe (wC (.int 0)))))) (wCons (wVar 2) wNil))) wNil)) wNil)))))))))
abbrev N_need_odd : List Str := ["standing"]
def w_need_odd (C : CS) : WS Unit :=
  (wIf (wX2T gEq (wOe (wFz (wX2 gMod (wOe (wFz (wMeth C.Standing "voices" (liftC (c_Standing_voices C)) (wVar 0) wNil))) (wOe (wC (.int 2)))))) (wOe (wC (.int 0)))) wNever wNx)
abbrev N_meeting_place : List Str := ["standing"]
def w_meeting_place (C : CS) : WS Unit :=
  (wSeq (wDrop (wCall (liftC (c_need_odd C)) (wCons (wVar 0) wNil)))
  (wRet (wCall (liftC (c_turn_sum C)) (wCons (wVar 0) wNil))))
abbrev N_law_v3 : List Str := ["_law_script", "_law_source_here", "_law_turn", "_law_world_here", "_law_spots_here", "_law_one", "_law_here", "_law_place", "_law_told", "_law_name", "_law_spot", "_law_voice", "_law_by", "_law_late", "_law_gone", "_law_even", "_law_is_refused"]
def w_law_v3 (C : CS) : WS Th1 :=
  (wSeq (wSet 1 (wCall (c__law_source C) (wCons (wVar 0) wNil)))
  (wSeq (wFor (wItF rng1 (wCons (wC (.int 5)) wNil)) (wGname 2) (wSeq (wSet 3 (wCall (c__law_crowded C) (wCons (wVar 1) (wCons (wFz (wX2 gIx (wOe (wFz (wLst (wCons (wC (.int 1)) (wCons (wC (.int 3)) (wCons (wC (.int 5)) (wCons (wC (.int 8)) (wCons (wC (.int 12)) wNil)))))))) (wOv 2))) (wCons (wC (.int 6)) (wCons (wC (.int 1)) wNil))))))
  (wSeq (wPar 4 5 (wBcons (wCall (liftC (c__law_spots C)) (wCons (wVar 3) wNil)) (wBcons (wX2 gIx (wOv 3) (wOe (wC (.str "standing")))) wBnil)))
  (wSeq (wSet 6 (wCall (liftC (c__law_by_turns C)) (wCons (wVar 3) (wCons (wVar 4) wNil))))
  (wSeq (wIf (wX2T gNe (wOe (wFz (wXL gRepr (wOcons (wOe (wFz (wCall (liftC (c_meeting_place C)) (wCons (wVar 5) wNil)))) wOnil)))) (wOe (wFz (wXL gRepr (wOcons (wOv 6) wOnil))))) (wRet (wSh (wC (.bl false)))) wNx)
  (wSeq (wFor (wItK anyD (wFz (wLst (wCons (wVar 6) (wCons (wFz (wX2 gSub (wOe (wFz (wX2 gAdd (wOv 6) (wOe (wFz (wCall (c__law_pick C) (wCons (wVar 1) (wCons (wC (.int 9)) wNil)))))))) (wOe (wC (.int 4))))) (wCons (wFz (wCall (c__law_of C) (wCons (wVar 1) (wCons (wFz (wLst (wCons (wFz (wX2 gPow (wOe (wC (.int 10))) (wOe (wC (.int 29))))) (wCons (wFz (wX1 gNeg (wOe (wFz (wX2 gPow (wOe (wC (.int 10))) (wOe (wC (.int 29)))))))) (wCons (wC (.int 0)) wNil))))) wNil)))) wNil)))))) (wGname 7) (wSeq (wSet 8 (wCall (liftC (c_wished_steps C)) (wCons (wVar 5) (wCons (wVar 7) wNil))))
  (wSeq (wIf (wOr (wX2T gIsN (wOe (wFz (wCall (liftC (c__law_verdict C)) (wCons (wVar 3) (wCons (wVar 7) (wCons (wVar 8) wNil)))))) (wOe (wC .non))) (wX2T gNe (wOe (wFz (wXL gRepr (wOcons (wOe (wFz (wX2 gIx (wOv 8) (wOe (wC (.int 0)))))) wOnil)))) (wOe (wFz (wXL gRepr (wOcons (wOe (wC (.str "steps"))) wOnil)))))) (wRet (wSh (wC (.bl false)))) wNx)
  (wSeq (wIf (wOr (wX2T gNe (wOe (wFz (wXL gSum (wOcons (wOe (wFz (wLc (wItK anyD (wFz (wX2 gIx (wOv 8) (wOe (wC (.int 1)))))) (wGtup 2 (wGcons (wGname 9) (wGcons (wGname 12) wGnil))) wYes (wFz (wXL gAbs (wOcons (wOv 12) wOnil))) [9, 12]))) wOnil)))) (wOe (wFz (wXL gAbs (wOcons (wOe (wFz (wX2 gSub (wOv 7) (wOv 6)))) wOnil))))) (wX2T gIsN (wOe (wFz (wCall (liftC (c_judge_wish C)) (wCons (wVar 5) (wCons (wVar 7) (wCons (wVar 8) wNil)))))) (wOe (wC .non)))) (wRet (wSh (wC (.bl false)))) wNx)
  (wIf (wAnd (wX2T gEq (wOv 7) (wOv 6)) (wX2T gNe (wOv 8) (wOe (wTup (wCons (wC (.str "steps")) (wCons (wTup wNil) wNil)))))) (wRet (wSh (wC (.bl false)))) wNx)))))
  (wSeq (wFor (wItK anyD (wFz (wX2 gIx (wOv 3) (wOe (wC (.str "people")))))) (wGtup 3 (wGcons (wGname 9) (wGcons (wGname 10) (wGcons (wGname 11) wGnil)))) (wFor (wItK anyD (wFz (wLst (wCons (wFz (wX1 gNeg (wOe (wC (.int 2))))) (wCons (wFz (wX1 gNeg (wOe (wC (.int 1))))) (wCons (wC (.int 1)) (wCons (wC (.int 2)) wNil))))))) (wGname 12) (wSeq (wSet 13 (wCall (liftC (c__law_at C)) (wCons (wVar 3) (wCons (wFz (wCall (liftC (c__law_stepped C)) (wCons (wVar 3) (wCons (wFz (wLst (wCons (wTup (wCons (wVar 9) (wCons (wVar 12) wNil))) wNil))) wNil)))) wNil))))
  (wSeq (wSet 14 (wX2 gSub (wOe (wFz (wCall (liftC (c__law_by_turns C)) (wCons (wVar 13) (wCons (wFz (wCall (liftC (c__law_spots C)) (wCons (wVar 13) wNil))) wNil))))) (wOv 6)))
  (wIf (wOr (wX2T gGt (wOe (wFz (wXL gAbs (wOcons (wOv 14) wOnil)))) (wOe (wFz (wX2 gMul (wOe (wFz (wXL gAbs (wOcons (wOv 12) wOnil)))) (wOv 11))))) (wX2T gNe (wOe (wFz (wX2 gMod (wOe (wFz (wXL gInt (wOcons (wOe (wFz (wX2 gSub (wOv 14) (wOe (wFz (wX2 gMul (wOv 12) (wOv 11))))))) wOnil)))) (wOe (wC (.int 2)))))) (wOe (wC (.int 0))))) (wRet (wSh (wC (.bl false)))) wNx)))))
  (wFor (wItK anyD (wFz (wLst (wCons (wFz (wCall (c__law_world C) (wCons (wVar 1) (wCons (wC (.int 5)) (wCons (wC (.int 4)) (wCons (wC (.int 0)) wNil)))))) (wCons (wFz (wCall (liftC (c__law_made C)) (wCons (wFz (wLst wNil)) wNil))) wNil))))) (wGname 15) (wSeq (wSet 16 (wSh (wC (.bl false))))
  (wSeq (wTry [(.ref C.EvenVoices, true)] (wDrop (wCall (liftC (c_wished_steps C)) (wCons (wFz (wX2 gIx (wOv 15) (wOe (wC (.str "standing"))))) (wCons (wVar 6) wNil)))) (wSet 16 (wSh (wC (.bl true)))))
  (wIf (wNot (wTst (wVar 16))) (wRet (wSh (wC (.bl false)))) wNx)))))))))))
  (wRet (wSh (wC (.bl true))))))
end VL

set_option Elab.async false
set_option linter.all false
set_option maxRecDepth 100000
set_option maxHeartbeats 4000000
namespace VL
open PySem PySem.Spec PyProof.Rows L2
/-! the text -/
def topS (i : Nat) : Stmt := PySem.Challenge.pw_oddcrowds_k76_whole_steps_wished.main.body.getD i (.Pass ⟨0, 0, 0, 0⟩)
abbrev s__law_source : Stmt := topS 36
theorem sc__law_source : FnScope N__law_source ["_law_script"] (defScope s__law_source) := ⟨rfl, rfl, rfl, by decide +kernel, rfl, by decide +kernel, by decide +kernel⟩
abbrev s__law_pick : Stmt := topS 37
theorem sc__law_pick : FnScope N__law_pick ["_law_source_here", "_law_many"] (defScope s__law_pick) := ⟨rfl, rfl, rfl, by decide +kernel, rfl, by decide +kernel, by decide +kernel⟩
abbrev s__law_names : Stmt := topS 40
theorem sc__law_names : FnScope N__law_names ["_law_source_here", "_law_many"] (defScope s__law_names) := ⟨rfl, rfl, rfl, by decide +kernel, rfl, by decide +kernel, by decide +kernel⟩
abbrev s_is_row : Stmt := topS 12
theorem sc_is_row : FnScope N_is_row ["value", "many"] (defScope s_is_row) := ⟨rfl, rfl, rfl, by decide +kernel, rfl, by decide +kernel, by decide +kernel⟩
abbrev s_is_integer : Stmt := topS 10
theorem sc_is_integer : FnScope N_is_integer ["value"] (defScope s_is_integer) := ⟨rfl, rfl, rfl, by decide +kernel, rfl, by decide +kernel, by decide +kernel⟩
abbrev s_is_word : Stmt := topS 11
theorem sc_is_word : FnScope N_is_word ["value"] (defScope s_is_word) := ⟨rfl, rfl, rfl, by decide +kernel, rfl, by decide +kernel, by decide +kernel⟩
abbrev s_wrong_person : Stmt := topS 15
theorem sc_wrong_person : FnScope N_wrong_person ["value", "names"] (defScope s_wrong_person) := ⟨rfl, rfl, rfl, by decide +kernel, rfl, by decide +kernel, by decide +kernel⟩
abbrev s_wrong_people : Stmt := topS 16
theorem sc_wrong_people : FnScope N_wrong_people ["value"] (defScope s_wrong_people) := ⟨rfl, rfl, rfl, by decide +kernel, rfl, by decide +kernel, by decide +kernel⟩
abbrev s_Standing_init : Stmt := inClass (topS 17) 0
theorem sc_Standing_init : FnScope N_Standing_init ["self", "people"] (defScope s_Standing_init) := ⟨rfl, rfl, rfl, by decide +kernel, rfl, by decide +kernel, by decide +kernel⟩
abbrev s__law_made : Stmt := topS 41
theorem sc__law_made : FnScope N__law_made ["_law_people"] (defScope s__law_made) := ⟨rfl, rfl, rfl, by decide +kernel, rfl, by decide +kernel, by decide +kernel⟩
abbrev s__law_mixed : Stmt := topS 39
theorem sc__law_mixed : FnScope N__law_mixed ["_law_source_here", "_law_things"] (defScope s__law_mixed) := ⟨rfl, rfl, rfl, by decide +kernel, rfl, by decide +kernel, by decide +kernel⟩
abbrev s__law_of : Stmt := topS 38
theorem sc__law_of : FnScope N__law_of ["_law_source_here", "_law_some"] (defScope s__law_of) := ⟨rfl, rfl, rfl, by decide +kernel, rfl, by decide +kernel, by decide +kernel⟩
abbrev s__law_world : Stmt := topS 42
theorem sc__law_world : FnScope N__law_world ["_law_source_here", "_law_most", "_law_far", "_law_parity"] (defScope s__law_world) := ⟨rfl, rfl, rfl, by decide +kernel, rfl, by decide +kernel, by decide +kernel⟩
abbrev s__law_at : Stmt := topS 44
theorem sc__law_at : FnScope N__law_at ["_law_world_here", "_law_spots_here"] (defScope s__law_at) := ⟨rfl, rfl, rfl, by decide +kernel, rfl, by decide +kernel, by decide +kernel⟩
abbrev s__law_spots : Stmt := topS 43
theorem sc__law_spots : FnScope N__law_spots ["_law_world_here"] (defScope s__law_spots) := ⟨rfl, rfl, rfl, by decide +kernel, rfl, by decide +kernel, by decide +kernel⟩
abbrev s__law_crowded : Stmt := topS 47
theorem sc__law_crowded : FnScope N__law_crowded ["_law_source_here", "_law_most", "_law_far", "_law_parity"] (defScope s__law_crowded) := ⟨rfl, rfl, rfl, by decide +kernel, rfl, by decide +kernel, by decide +kernel⟩
abbrev s__law_by_turns : Stmt := topS 46
theorem sc__law_by_turns : FnScope N__law_by_turns ["_law_world_here", "_law_spots_here"] (defScope s__law_by_turns) := ⟨rfl, rfl, rfl, by decide +kernel, rfl, by decide +kernel, by decide +kernel⟩
abbrev s_Standing_has_name : Stmt := inClass (topS 17) 4
theorem sc_Standing_has_name : FnScope N_Standing_has_name ["self", "value"] (defScope s_Standing_has_name) := ⟨rfl, rfl, rfl, by decide +kernel, rfl, by decide +kernel, by decide +kernel⟩
abbrev s_Standing_person : Stmt := inClass (topS 17) 5
theorem sc_Standing_person : FnScope N_Standing_person ["self", "name"] (defScope s_Standing_person) := ⟨rfl, rfl, rfl, by decide +kernel, rfl, by decide +kernel, by decide +kernel⟩
abbrev s_Standing_place : Stmt := inClass (topS 17) 6
theorem sc_Standing_place : FnScope N_Standing_place ["self", "name"] (defScope s_Standing_place) := ⟨rfl, rfl, rfl, by decide +kernel, rfl, by decide +kernel, by decide +kernel⟩
abbrev s_Standing_names : Stmt := inClass (topS 17) 3
theorem sc_Standing_names : FnScope N_Standing_names ["self"] (defScope s_Standing_names) := ⟨rfl, rfl, rfl, by decide +kernel, rfl, by decide +kernel, by decide +kernel⟩
abbrev s_Standing_line : Stmt := inClass (topS 17) 10
theorem sc_Standing_line : FnScope N_Standing_line ["self"] (defScope s_Standing_line) := ⟨rfl, rfl, rfl, by decide +kernel, rfl, by decide +kernel, by decide +kernel⟩
abbrev s_Standing_voice : Stmt := inClass (topS 17) 7
theorem sc_Standing_voice : FnScope N_Standing_voice ["self", "name"] (defScope s_Standing_voice) := ⟨rfl, rfl, rfl, by decide +kernel, rfl, by decide +kernel, by decide +kernel⟩
abbrev s_with_voice : Stmt := topS 25
theorem sc_with_voice : FnScope N_with_voice ["standing"] (defScope s_with_voice) := ⟨rfl, rfl, rfl, by decide +kernel, rfl, by decide +kernel, by decide +kernel⟩
abbrev s_Standing_people : Stmt := inClass (topS 17) 2
theorem sc_Standing_people : FnScope N_Standing_people ["self"] (defScope s_Standing_people) := ⟨rfl, rfl, rfl, by decide +kernel, rfl, by decide +kernel, by decide +kernel⟩
abbrev s_voice_places : Stmt := topS 22
theorem sc_voice_places : FnScope N_voice_places ["standing"] (defScope s_voice_places) := ⟨rfl, rfl, rfl, by decide +kernel, rfl, by decide +kernel, by decide +kernel⟩
abbrev s_turn_sum : Stmt := topS 23
theorem sc_turn_sum : FnScope N_turn_sum ["standing"] (defScope s_turn_sum) := ⟨rfl, rfl, rfl, by decide +kernel, rfl, by decide +kernel, by decide +kernel⟩
abbrev s_Standing_voices : Stmt := inClass (topS 17) 11
theorem sc_Standing_voices : FnScope N_Standing_voices ["self"] (defScope s_Standing_voices) := ⟨rfl, rfl, rfl, by decide +kernel, rfl, by decide +kernel, by decide +kernel⟩
abbrev s_wished_steps : Stmt := topS 26
theorem sc_wished_steps : FnScope N_wished_steps ["standing", "place"] (defScope s_wished_steps) := ⟨rfl, rfl, rfl, by decide +kernel, rfl, by decide +kernel, by decide +kernel⟩
abbrev s_need_odd : Stmt := topS 33
theorem sc_need_odd : FnScope N_need_odd ["standing"] (defScope s_need_odd) := ⟨rfl, rfl, rfl, by decide +kernel, rfl, by decide +kernel, by decide +kernel⟩
abbrev s_meeting_place : Stmt := topS 34
theorem sc_meeting_place : FnScope N_meeting_place ["standing"] (defScope s_meeting_place) := ⟨rfl, rfl, rfl, by decide +kernel, rfl, by decide +kernel, by decide +kernel⟩
abbrev s__law_turned_voices : Stmt := topS 49
theorem sc__law_turned_voices : FnScope N__law_turned_voices ["_law_world_here", "_law_names_here"] (defScope s__law_turned_voices) := ⟨rfl, rfl, rfl, by decide +kernel, rfl, by decide +kernel, by decide +kernel⟩
abbrev s__law_stepped : Stmt := topS 48
theorem sc__law_stepped : FnScope N__law_stepped ["_law_world_here", "_law_rows"] (defScope s__law_stepped) := ⟨rfl, rfl, rfl, by decide +kernel, rfl, by decide +kernel, by decide +kernel⟩
abbrev s__law_voices : Stmt := topS 45
theorem sc__law_voices : FnScope N__law_voices ["_law_world_here"] (defScope s__law_voices) := ⟨rfl, rfl, rfl, by decide +kernel, rfl, by decide +kernel, by decide +kernel⟩
abbrev s__law_is_whole : Stmt := topS 50
theorem sc__law_is_whole : FnScope N__law_is_whole ["_law_value"] (defScope s__law_is_whole) := ⟨rfl, rfl, rfl, by decide +kernel, rfl, by decide +kernel, by decide +kernel⟩
abbrev s__law_verdict : Stmt := topS 51
theorem sc__law_verdict : FnScope N__law_verdict ["_law_world_here", "_law_place", "_law_value"] (defScope s__law_verdict) := ⟨rfl, rfl, rfl, by decide +kernel, rfl, by decide +kernel, by decide +kernel⟩
abbrev s_exchanged : Stmt := topS 18
theorem sc_exchanged : FnScope N_exchanged ["standing", "person"] (defScope s_exchanged) := ⟨rfl, rfl, rfl, by decide +kernel, rfl, by decide +kernel, by decide +kernel⟩
abbrev s_moved_person : Stmt := topS 19
theorem sc_moved_person : FnScope N_moved_person ["standing", "name", "place"] (defScope s_moved_person) := ⟨rfl, rfl, rfl, by decide +kernel, rfl, by decide +kernel, by decide +kernel⟩
abbrev s_voiced : Stmt := topS 20
theorem sc_voiced : FnScope N_voiced ["standing", "name", "voice"] (defScope s_voiced) := ⟨rfl, rfl, rfl, by decide +kernel, rfl, by decide +kernel, by decide +kernel⟩
abbrev s_wished : Stmt := topS 30
theorem sc_wished : FnScope N_wished ["standing", "value"] (defScope s_wished) := ⟨rfl, rfl, rfl, by decide +kernel, rfl, by decide +kernel, by decide +kernel⟩
abbrev s_is_row_wishes : Stmt := topS 27
theorem sc_is_row_wishes : FnScope N_is_row_wishes ["value"] (defScope s_is_row_wishes) := ⟨rfl, rfl, rfl, by decide +kernel, rfl, by decide +kernel, by decide +kernel⟩
abbrev s_has_form : Stmt := topS 29
theorem sc_has_form : FnScope N_has_form ["value"] (defScope s_has_form) := ⟨rfl, rfl, rfl, by decide +kernel, rfl, by decide +kernel, by decide +kernel⟩
abbrev s_judge_wish : Stmt := topS 31
theorem sc_judge_wish : FnScope N_judge_wish ["standing", "place", "value"] (defScope s_judge_wish) := ⟨rfl, rfl, rfl, by decide +kernel, rfl, by decide +kernel, by decide +kernel⟩
abbrev s_law : Stmt := topS 52
theorem sc_law : FnScope N_law_v3 ["_law_script"] (defScope s_law) := ⟨rfl, rfl, rfl, by decide +kernel, rfl, by decide +kernel, by decide +kernel⟩
structure Txt (K : PySem.W.Frag) (mg : Str → Option Value) where
  CS : CS
  cl_Standing : Cls K CS.Standing
  gc_Standing : mg "Standing" = some (.ref CS.Standing)
  a__law_source : Addr
  d__law_source : FuncData
  F__law_source : Fun K "_law_source" "_law_source" s__law_source a__law_source d__law_source
  b__law_source : Binds K d__law_source ["_law_script"] []
  g__law_source : mg "_law_source" = some (.ref a__law_source)
  a__law_pick : Addr
  d__law_pick : FuncData
  F__law_pick : Fun K "_law_pick" "_law_pick" s__law_pick a__law_pick d__law_pick
  b__law_pick : Binds K d__law_pick ["_law_source_here", "_law_many"] []
  g__law_pick : mg "_law_pick" = some (.ref a__law_pick)
  a__law_names : Addr
  d__law_names : FuncData
  F__law_names : Fun K "_law_names" "_law_names" s__law_names a__law_names d__law_names
  b__law_names : Binds K d__law_names ["_law_source_here", "_law_many"] []
  g__law_names : mg "_law_names" = some (.ref a__law_names)
  a_is_row : Addr
  d_is_row : FuncData
  F_is_row : Fun K "is_row" "is_row" s_is_row a_is_row d_is_row
  b_is_row : Binds K d_is_row ["value", "many"] []
  a_is_integer : Addr
  d_is_integer : FuncData
  F_is_integer : Fun K "is_integer" "is_integer" s_is_integer a_is_integer d_is_integer
  b_is_integer : Binds K d_is_integer ["value"] []
  g_is_integer : mg "is_integer" = some (.ref a_is_integer)
  a_is_word : Addr
  d_is_word : FuncData
  F_is_word : Fun K "is_word" "is_word" s_is_word a_is_word d_is_word
  b_is_word : Binds K d_is_word ["value"] []
  g_is_word : mg "is_word" = some (.ref a_is_word)
  a_wrong_person : Addr
  d_wrong_person : FuncData
  F_wrong_person : Fun K "wrong_person" "wrong_person" s_wrong_person a_wrong_person d_wrong_person
  b_wrong_person : Binds K d_wrong_person ["value", "names"] []
  g_wrong_person : mg "wrong_person" = some (.ref a_wrong_person)
  a_wrong_people : Addr
  d_wrong_people : FuncData
  F_wrong_people : Fun K "wrong_people" "wrong_people" s_wrong_people a_wrong_people d_wrong_people
  b_wrong_people : Binds K d_wrong_people ["value"] []
  g_wrong_people : mg "wrong_people" = some (.ref a_wrong_people)
  a_Standing_init : Addr
  d_Standing_init : FuncData
  F_Standing_init : Fun K "__init__" "Standing.__init__" s_Standing_init a_Standing_init d_Standing_init
  b_Standing_init : Binds K d_Standing_init ["self", "people"] []
  mk_Standing : L2.Mk K CS.Standing a_Standing_init
  a__law_made : Addr
  d__law_made : FuncData
  F__law_made : Fun K "_law_made" "_law_made" s__law_made a__law_made d__law_made
  b__law_made : Binds K d__law_made ["_law_people"] []
  g__law_made : mg "_law_made" = some (.ref a__law_made)
  a__law_mixed : Addr
  d__law_mixed : FuncData
  F__law_mixed : Fun K "_law_mixed" "_law_mixed" s__law_mixed a__law_mixed d__law_mixed
  b__law_mixed : Binds K d__law_mixed ["_law_source_here", "_law_things"] []
  g__law_mixed : mg "_law_mixed" = some (.ref a__law_mixed)
  a__law_of : Addr
  d__law_of : FuncData
  F__law_of : Fun K "_law_of" "_law_of" s__law_of a__law_of d__law_of
  b__law_of : Binds K d__law_of ["_law_source_here", "_law_some"] []
  g__law_of : mg "_law_of" = some (.ref a__law_of)
  a__law_world : Addr
  d__law_world : FuncData
  F__law_world : Fun K "_law_world" "_law_world" s__law_world a__law_world d__law_world
  b__law_world : Binds K d__law_world ["_law_source_here", "_law_most", "_law_far", "_law_parity"] []
  g__law_world : mg "_law_world" = some (.ref a__law_world)
  a__law_at : Addr
  d__law_at : FuncData
  F__law_at : Fun K "_law_at" "_law_at" s__law_at a__law_at d__law_at
  b__law_at : Binds K d__law_at ["_law_world_here", "_law_spots_here"] []
  g__law_at : mg "_law_at" = some (.ref a__law_at)
  a__law_spots : Addr
  d__law_spots : FuncData
  F__law_spots : Fun K "_law_spots" "_law_spots" s__law_spots a__law_spots d__law_spots
  b__law_spots : Binds K d__law_spots ["_law_world_here"] []
  g__law_spots : mg "_law_spots" = some (.ref a__law_spots)
  a__law_crowded : Addr
  d__law_crowded : FuncData
  F__law_crowded : Fun K "_law_crowded" "_law_crowded" s__law_crowded a__law_crowded d__law_crowded
  b__law_crowded : Binds K d__law_crowded ["_law_source_here", "_law_most", "_law_far", "_law_parity"] []
  g__law_crowded : mg "_law_crowded" = some (.ref a__law_crowded)
  a__law_by_turns : Addr
  d__law_by_turns : FuncData
  F__law_by_turns : Fun K "_law_by_turns" "_law_by_turns" s__law_by_turns a__law_by_turns d__law_by_turns
  b__law_by_turns : Binds K d__law_by_turns ["_law_world_here", "_law_spots_here"] []
  g__law_by_turns : mg "_law_by_turns" = some (.ref a__law_by_turns)
  a_Standing_has_name : Addr
  d_Standing_has_name : FuncData
  F_Standing_has_name : Fun K "has_name" "Standing.has_name" s_Standing_has_name a_Standing_has_name d_Standing_has_name
  b_Standing_has_name : Binds K d_Standing_has_name ["self", "value"] []
  m_Standing_has_name : Meth K CS.Standing "has_name" a_Standing_has_name
  a_Standing_person : Addr
  d_Standing_person : FuncData
  F_Standing_person : Fun K "person" "Standing.person" s_Standing_person a_Standing_person d_Standing_person
  b_Standing_person : Binds K d_Standing_person ["self", "name"] []
  m_Standing_person : Meth K CS.Standing "person" a_Standing_person
  a_Standing_place : Addr
  d_Standing_place : FuncData
  F_Standing_place : Fun K "place" "Standing.place" s_Standing_place a_Standing_place d_Standing_place
  b_Standing_place : Binds K d_Standing_place ["self", "name"] []
  m_Standing_place : Meth K CS.Standing "place" a_Standing_place
  a_Standing_names : Addr
  d_Standing_names : FuncData
  F_Standing_names : Fun K "names" "Standing.names" s_Standing_names a_Standing_names d_Standing_names
  b_Standing_names : Binds K d_Standing_names ["self"] []
  m_Standing_names : Meth K CS.Standing "names" a_Standing_names
  a_Standing_line : Addr
  d_Standing_line : FuncData
  F_Standing_line : Fun K "line" "Standing.line" s_Standing_line a_Standing_line d_Standing_line
  b_Standing_line : Binds K d_Standing_line ["self"] []
  m_Standing_line : Meth K CS.Standing "line" a_Standing_line
  a_Standing_voice : Addr
  d_Standing_voice : FuncData
  F_Standing_voice : Fun K "voice" "Standing.voice" s_Standing_voice a_Standing_voice d_Standing_voice
  b_Standing_voice : Binds K d_Standing_voice ["self", "name"] []
  m_Standing_voice : Meth K CS.Standing "voice" a_Standing_voice
  a_with_voice : Addr
  d_with_voice : FuncData
  F_with_voice : Fun K "with_voice" "with_voice" s_with_voice a_with_voice d_with_voice
  b_with_voice : Binds K d_with_voice ["standing"] []
  g_with_voice : mg "with_voice" = some (.ref a_with_voice)
  a_Standing_people : Addr
  d_Standing_people : FuncData
  F_Standing_people : Fun K "people" "Standing.people" s_Standing_people a_Standing_people d_Standing_people
  b_Standing_people : Binds K d_Standing_people ["self"] []
  m_Standing_people : Meth K CS.Standing "people" a_Standing_people
  a_voice_places : Addr
  d_voice_places : FuncData
  F_voice_places : Fun K "voice_places" "voice_places" s_voice_places a_voice_places d_voice_places
  b_voice_places : Binds K d_voice_places ["standing"] []
  g_voice_places : mg "voice_places" = some (.ref a_voice_places)
  a_turn_sum : Addr
  d_turn_sum : FuncData
  F_turn_sum : Fun K "turn_sum" "turn_sum" s_turn_sum a_turn_sum d_turn_sum
  b_turn_sum : Binds K d_turn_sum ["standing"] []
  g_turn_sum : mg "turn_sum" = some (.ref a_turn_sum)
  a_Standing_voices : Addr
  d_Standing_voices : FuncData
  F_Standing_voices : Fun K "voices" "Standing.voices" s_Standing_voices a_Standing_voices d_Standing_voices
  b_Standing_voices : Binds K d_Standing_voices ["self"] []
  m_Standing_voices : Meth K CS.Standing "voices" a_Standing_voices
  a_wished_steps : Addr
  d_wished_steps : FuncData
  F_wished_steps : Fun K "wished_steps" "wished_steps" s_wished_steps a_wished_steps d_wished_steps
  b_wished_steps : Binds K d_wished_steps ["standing", "place"] []
  g_wished_steps : mg "wished_steps" = some (.ref a_wished_steps)
  a_need_odd : Addr
  d_need_odd : FuncData
  F_need_odd : Fun K "need_odd" "need_odd" s_need_odd a_need_odd d_need_odd
  b_need_odd : Binds K d_need_odd ["standing"] []
  g_need_odd : mg "need_odd" = some (.ref a_need_odd)
  a_meeting_place : Addr
  d_meeting_place : FuncData
  F_meeting_place : Fun K "meeting_place" "meeting_place" s_meeting_place a_meeting_place d_meeting_place
  b_meeting_place : Binds K d_meeting_place ["standing"] []
  g_meeting_place : mg "meeting_place" = some (.ref a_meeting_place)
  a__law_turned_voices : Addr
  d__law_turned_voices : FuncData
  F__law_turned_voices : Fun K "_law_turned_voices" "_law_turned_voices" s__law_turned_voices a__law_turned_voices d__law_turned_voices
  b__law_turned_voices : Binds K d__law_turned_voices ["_law_world_here", "_law_names_here"] []
  g__law_turned_voices : mg "_law_turned_voices" = some (.ref a__law_turned_voices)
  a__law_stepped : Addr
  d__law_stepped : FuncData
  F__law_stepped : Fun K "_law_stepped" "_law_stepped" s__law_stepped a__law_stepped d__law_stepped
  b__law_stepped : Binds K d__law_stepped ["_law_world_here", "_law_rows"] []
  g__law_stepped : mg "_law_stepped" = some (.ref a__law_stepped)
  a__law_voices : Addr
  d__law_voices : FuncData
  F__law_voices : Fun K "_law_voices" "_law_voices" s__law_voices a__law_voices d__law_voices
  b__law_voices : Binds K d__law_voices ["_law_world_here"] []
  g__law_voices : mg "_law_voices" = some (.ref a__law_voices)
  a__law_is_whole : Addr
  d__law_is_whole : FuncData
  F__law_is_whole : Fun K "_law_is_whole" "_law_is_whole" s__law_is_whole a__law_is_whole d__law_is_whole
  b__law_is_whole : Binds K d__law_is_whole ["_law_value"] []
  g__law_is_whole : mg "_law_is_whole" = some (.ref a__law_is_whole)
  a__law_verdict : Addr
  d__law_verdict : FuncData
  F__law_verdict : Fun K "_law_verdict" "_law_verdict" s__law_verdict a__law_verdict d__law_verdict
  b__law_verdict : Binds K d__law_verdict ["_law_world_here", "_law_place", "_law_value"] []
  g__law_verdict : mg "_law_verdict" = some (.ref a__law_verdict)
  a_exchanged : Addr
  d_exchanged : FuncData
  F_exchanged : Fun K "exchanged" "exchanged" s_exchanged a_exchanged d_exchanged
  b_exchanged : Binds K d_exchanged ["standing", "person"] []
  g_exchanged : mg "exchanged" = some (.ref a_exchanged)
  a_moved_person : Addr
  d_moved_person : FuncData
  F_moved_person : Fun K "moved_person" "moved_person" s_moved_person a_moved_person d_moved_person
  b_moved_person : Binds K d_moved_person ["standing", "name", "place"] []
  g_moved_person : mg "moved_person" = some (.ref a_moved_person)
  a_voiced : Addr
  d_voiced : FuncData
  F_voiced : Fun K "voiced" "voiced" s_voiced a_voiced d_voiced
  b_voiced : Binds K d_voiced ["standing", "name", "voice"] []
  g_voiced : mg "voiced" = some (.ref a_voiced)
  a_wished : Addr
  d_wished : FuncData
  F_wished : Fun K "wished" "wished" s_wished a_wished d_wished
  b_wished : Binds K d_wished ["standing", "value"] []
  g_wished : mg "wished" = some (.ref a_wished)
  a_is_row_wishes : Addr
  d_is_row_wishes : FuncData
  F_is_row_wishes : Fun K "is_row" "is_row" s_is_row_wishes a_is_row_wishes d_is_row_wishes
  b_is_row_wishes : Binds K d_is_row_wishes ["value"] []
  g_is_row_wishes : mg "is_row" = some (.ref a_is_row_wishes)
  a_has_form : Addr
  d_has_form : FuncData
  F_has_form : Fun K "has_form" "has_form" s_has_form a_has_form d_has_form
  b_has_form : Binds K d_has_form ["value"] []
  g_has_form : mg "has_form" = some (.ref a_has_form)
  a_judge_wish : Addr
  d_judge_wish : FuncData
  F_judge_wish : Fun K "judge_wish" "judge_wish" s_judge_wish a_judge_wish d_judge_wish
  b_judge_wish : Binds K d_judge_wish ["standing", "place", "value"] []
  g_judge_wish : mg "judge_wish" = some (.ref a_judge_wish)
  a_law : Addr
  d_law : FuncData
  F_law : Fun K "law" "law" s_law a_law d_law
  b_law : Binds K d_law ["_law_script"] []
  g_law : mg "law" = some (.ref a_law)
  al_is_row_wishes : mg "is_row_wishes" = some (.ref a_is_row_wishes)
  al_is_row_words : mg "is_row_words" = some (.ref a_is_row)
  bm_Standing_place : BMeth K CS.Standing "place" a_Standing_place
  n_Standing_own_people : NoAttr K CS.Standing "own_people"
  k_LETTERS : ∃ t, mg "LETTERS" = some (.str "abcdefghijklmnopqrstuvwxyz" t)
  k_FIGURES : ∃ t, mg "FIGURES" = some (.str "0123456789" t)
  e_EvenVoices : Err K mg CS.EvenVoices "EvenVoices"
  em_EvenVoices_EvenVoices : PySem.W.exmOne K (.ref CS.EvenVoices) (.ref CS.EvenVoices) = some true
  z_abs : mg "abs" = none
  z_all : mg "all" = none
  z_bool : mg "bool" = none
  z_dict : mg "dict" = none
  z_enumerate : mg "enumerate" = none
  z_int : mg "int" = none
  z_isinstance : mg "isinstance" = none
  z_len : mg "len" = none
  z_list : mg "list" = none
  z_max : mg "max" = none
  z_range : mg "range" = none
  z_repr : mg "repr" = none
  z_sorted : mg "sorted" = none
  z_str : mg "str" = none
  z_sum : mg "sum" = none
  z_tuple : mg "tuple" = none
  z_zip : mg "zip" = none
end VL

set_option Elab.async false
set_option linter.all false
set_option maxRecDepth 100000
set_option maxHeartbeats 4000000
namespace VL
open PySem PySem.Spec PyProof.Rows L2
/-! the changes by sums are the fewest -/
abbrev Can := (Int × Int) × List Str
def runOne (x : Pn) (e : Can) : List Can := [(dpKey x e.1 0, dpVal x e 0), (dpKey x e.1 1, dpVal x e 1)]
/-- all ways, one by one -/
def runsL (p : List Pn) : List Can := p.foldl (fun es x => es.flatMap (runOne x)) [((0, 0), [])]
theorem runs_snoc (p : List Pn) (x : Pn) : runsL (p ++ [x]) = (runsL p).flatMap (runOne x) := by unfold runsL; rw [List.foldl_append]; rfl
theorem dpAt_mem {α κ : Type} [DecidableEq κ] {l : List (κ × α)} {k : κ} {v : α} {p : κ × α} (h : p ∈ putD l k v) : p ∈ l ∨ p = (k, v) := by
  unfold putD at h
  split at h
  · obtain ⟨q, hq, rfl⟩ := List.mem_map.mp h
    split
    · rename_i e; right; rw [e]
    · left; exact hq
  · rcases List.mem_append.mp h with h | h
    · exact .inl h
    · exact .inr (List.mem_singleton.mp h)
theorem dpOne_mem {x : Pn} {e : Can} {m : List Can} {v : Int} {p : Can} (h : p ∈ dpOne x e m v) : p ∈ m ∨ p = (dpKey x e.1 v, dpVal x e v) := by
  unfold dpOne at h
  split at h
  · exact dpAt_mem h
  · split at h
    · exact dpAt_mem h
    · exact .inl h
theorem dpStep_mem (x : Pn) : ∀ (q later : List Can) (p : Can), p ∈ q.foldl (fun later e => [0, 1].foldl (dpOne x e) later) later → p ∈ later ∨ ∃ e ∈ q, p ∈ runOne x e
  | [], later, p, h => .inl h
  | e :: q, later, p, h => by
    rw [List.foldl_cons] at h
    rcases dpStep_mem x q _ p h with h | ⟨e', he, hp⟩
    · have h : p ∈ dpOne x e (dpOne x e later 0) 1 := h
      rcases dpOne_mem h with h | rfl
      · rcases dpOne_mem h with h | rfl
        · exact .inl h
        · exact .inr ⟨e, List.mem_cons_self .., by simp [runOne]⟩
      · exact .inr ⟨e, List.mem_cons_self .., by simp [runOne]⟩
    · exact .inr ⟨e', List.mem_cons_of_mem _ he, hp⟩
theorem dp_mem (p : List Pn) : ∀ e ∈ p.foldl dpStep [((0, 0), [])], e ∈ runsL p := by
  refine rev_ind (P := fun p => ∀ e ∈ p.foldl dpStep [((0, 0), [])], e ∈ runsL p) (fun e h => h) (fun p x ih e h => ?_) p
  rw [List.foldl_append] at h
  have h : e ∈ dpStep (p.foldl dpStep [((0, 0), [])]) x := h
  unfold dpStep at h
  rw [runs_snoc]
  rcases dpStep_mem x _ _ e h with h | ⟨e', he, hp⟩
  · simp at h
  · exact List.mem_flatMap.mpr ⟨e', ih e' he, hp⟩
/-- what is there stays, and gets no longer -/
def Least (m : List Can) (k : Int × Int) (n : Nat) : Prop := ∃ ns, valD m k = some ns ∧ ns.length ≤ n
theorem dpOne_least {x : Pn} {e : Can} {m : List Can} {v : Int} {k : Int × Int} {n : Nat} (h : Least m k n) : Least (dpOne x e m v) k n := by
  obtain ⟨ns, h1, h2⟩ := h
  unfold dpOne
  split
  · rename_i hn
    refine ⟨ns, ?_, h2⟩
    rw [valD_putX, if_neg]
    · exact h1
    · intro z; rw [z] at h1; rw [h1] at hn; cases hn
  · rename_i old ho
    split
    · rename_i hl
      by_cases hk : k = dpKey x e.1 v
      · refine ⟨_, by rw [valD_putX, if_pos hk], ?_⟩
        rw [hk, ho] at h1
        cases h1
        omega
      · exact ⟨ns, by rw [valD_putX, if_neg hk]; exact h1, h2⟩
    · exact ⟨ns, h1, h2⟩
theorem dpOne_new {x : Pn} {e : Can} {m : List Can} {v : Int} : Least (dpOne x e m v) (dpKey x e.1 v) (dpVal x e v).length := by
  unfold dpOne
  split
  · exact ⟨_, by rw [valD_putX, if_pos rfl], Nat.le_refl _⟩
  · rename_i old ho
    split
    · exact ⟨_, by rw [valD_putX, if_pos rfl], Nat.le_refl _⟩
    · exact ⟨old, ho, by omega⟩
theorem dpStep_least (x : Pn) {k : Int × Int} {n : Nat} : ∀ (q later : List Can), Least later k n → Least (q.foldl (fun later e => [0, 1].foldl (dpOne x e) later) later) k n
  | [], later, h => h
  | e :: q, later, h => by
    rw [List.foldl_cons]
    exact dpStep_least x q _ (dpOne_least (dpOne_least h))
theorem dpStep_new (x : Pn) {e : Can} {v : Int} (hv : v = 0 ∨ v = 1) : ∀ (q later : List Can), e ∈ q → Least (q.foldl (fun later e => [0, 1].foldl (dpOne x e) later) later) (dpKey x e.1 v) (dpVal x e v).length
  | [], later, h => nomatch h
  | e' :: q, later, h => by
    rw [List.foldl_cons]
    rcases List.mem_cons.mp h with rfl | h
    · refine dpStep_least x q _ ?_
      show Least (dpOne x e (dpOne x e later 0) 1) _ _
      rcases hv with rfl | rfl
      · exact dpOne_least dpOne_new
      · exact dpOne_new
    · exact dpStep_new x hv q _ h
theorem dp_least (p : List Pn) : ∀ e ∈ runsL p, Least (p.foldl dpStep [((0, 0), [])]) e.1 e.2.length := by
  refine rev_ind (P := fun p => ∀ e ∈ runsL p, Least (p.foldl dpStep [((0, 0), [])]) e.1 e.2.length) (fun e h => ?_) (fun p x ih e h => ?_) p
  · have h : e ∈ [(((0 : Int), (0 : Int)), ([] : List Str))] := h
    rw [List.mem_singleton.mp h]
    exact ⟨[], by rw [List.foldl_nil, valD_cons, if_pos rfl], Nat.le_refl _⟩
  · rw [runs_snoc] at h
    obtain ⟨e', he, hp⟩ := List.mem_flatMap.mp h
    obtain ⟨ns, h1, h2⟩ := ih e' he
    rw [List.foldl_append]
    show Least (dpStep (p.foldl dpStep [((0, 0), [])]) x) _ _
    unfold dpStep
    have hm := valD_mem h1
    have key : ∀ v, v = 0 ∨ v = 1 → e = (dpKey x e'.1 v, dpVal x e' v) → Least ((p.foldl dpStep [((0, 0), [])]).foldl (fun later e => [0, 1].foldl (dpOne x e) later) []) e.1 e.2.length := by
      rintro v hv rfl
      obtain ⟨n2, k1, k2⟩ := dpStep_new x hv _ [] hm
      refine ⟨n2, k1, Nat.le_trans k2 ?_⟩
      show (dpVal x (e'.1, ns) v).length ≤ (dpVal x e' v).length
      unfold dpVal
      split
      · exact h2
      · rw [List.length_append, List.length_append]; simp only at *; omega
    rcases List.mem_cons.mp hp with rfl | hp
    · exact key 0 (.inl rfl) rfl
    · rw [List.mem_singleton.mp hp]
      rw [List.mem_singleton.mp hp] at key
      exact key 1 (.inr rfl) rfl
/-! the ways and the names -/
def voiced' (p : List Pn) (s : List Str) : List Pn := p.filter fun x => (turnV s x).v == 1
theorem key_vo {x : Pn} {s : Int × Int} (hs : s.2 = 0 ∨ s.2 = 1) {v : Int} (hv : v = 0 ∨ v = 1) : dpKey x s v = if v = 1 then stp s x.p else s := by
  rcases hv with rfl | rfl
  · rw [key00 x s hs]; rfl
  · rw [key01]; rfl
theorem stp_bit (ps : List Int) : (ps.foldl stp (0, 0)).2 = 0 ∨ (ps.foldl stp (0, 0)).2 = 1 := by
  rw [stp_run _ _ (.inl rfl)]
  show ((0 : Int) + _) % 2 = 0 ∨ ((0 : Int) + _) % 2 = 1
  omega
theorem runs_ok (p : List Pn) : (p.map (·.n)).Nodup → (∀ x ∈ p, x.v = 0 ∨ x.v = 1) → ∀ e ∈ runsL p, e.2.Sublist (p.map (·.n)) ∧ e.1 = ((voiced' p e.2).map (·.p)).foldl stp (0, 0) := by
  refine rev_ind (P := fun p => (p.map (·.n)).Nodup → (∀ x ∈ p, x.v = 0 ∨ x.v = 1) → ∀ e ∈ runsL p, e.2.Sublist (p.map (·.n)) ∧ e.1 = ((voiced' p e.2).map (·.p)).foldl stp (0, 0)) (fun _ _ e h => ?_) (fun p x ih nd hv e h => ?_) p
  · have h : e ∈ [(((0 : Int), (0 : Int)), ([] : List Str))] := h
    rw [List.mem_singleton.mp h]
    exact ⟨List.nil_sublist _, rfl⟩
  · rw [List.map_append, List.map_cons, List.map_nil, List.nodup_append] at nd
    have hx : x.n ∉ p.map (·.n) := fun hm => nd.2.2 _ hm _ (List.mem_singleton.mpr rfl) rfl
    rw [runs_snoc] at h
    obtain ⟨e', he, hp⟩ := List.mem_flatMap.mp h
    obtain ⟨h1, h2⟩ := ih nd.1 (fun y hy => hv y (List.mem_append_left _ hy)) e' he
    have hxv := hv x (List.mem_append_right _ (List.mem_singleton.mpr rfl))
    have hxe : x.n ∉ e'.2 := fun hm => hx (h1.subset hm)
    have bit := stp_bit ((voiced' p e'.2).map (·.p))
    rw [← h2] at bit
    have key : ∀ v, v = 0 ∨ v = 1 → e = (dpKey x e'.1 v, dpVal x e' v) → e.2.Sublist ((p ++ [x]).map (·.n)) ∧ e.1 = ((voiced' (p ++ [x]) e.2).map (·.p)).foldl stp (0, 0) := by
      rintro v hv2 rfl
      have same : ∀ y ∈ p, (y.n ∈ dpVal x e' v ↔ y.n ∈ e'.2) := by
        intro y hy
        unfold dpVal
        split
        · exact Iff.rfl
        · rw [List.mem_append, List.mem_singleton]
          exact ⟨fun z => z.resolve_right fun z => hx (z ▸ List.mem_map.mpr ⟨y, hy, rfl⟩), .inl⟩
      have hf : voiced' p (dpVal x e' v) = voiced' p e'.2 := by
        unfold voiced'
        refine List.filter_congr fun y hy => ?_
        unfold turnV
        by_cases hm : y.n ∈ e'.2
        · rw [if_pos hm, if_pos ((same y hy).mpr hm)]
        · rw [if_neg hm, if_neg fun z => hm ((same y hy).mp z)]
      have hl : voiced' [x] (dpVal x e' v) = if v = 1 then [x] else [] := by
        have ev : (turnV (dpVal x e' v) x).v = v := by
          unfold turnV dpVal
          by_cases h : v = x.v
          · rw [if_pos h, if_neg hxe, h]
          · rw [if_neg h, if_pos (by simp)]
            show 1 - x.v = v
            omega
        unfold voiced'
        rw [List.filter_cons, ev]
        rcases hv2 with rfl | rfl <;> rfl
      refine ⟨?_, ?_⟩
      · rw [List.map_append]
        show (dpVal x e' v).Sublist _
        unfold dpVal
        split
        · exact h1.trans (List.sublist_append_left _ _)
        · exact h1.append (List.Sublist.refl _)
      · have e1 : voiced' (p ++ [x]) (dpVal x e' v) = voiced' p e'.2 ++ if v = 1 then [x] else [] := by
          rw [← hf, ← hl]; unfold voiced'; rw [List.filter_append]
        show dpKey x e'.1 v = _
        rw [e1, List.map_append, List.foldl_append, ← h2, key_vo bit hv2]
        rcases hv2 with rfl | rfl <;> rfl
    rcases List.mem_cons.mp hp with rfl | hp
    · exact key 0 (.inl rfl) rfl
    · rw [List.mem_singleton.mp hp]
      rw [List.mem_singleton.mp hp] at key
      exact key 1 (.inr rfl) rfl
theorem runs_all (b : Pn → Bool) (p : List Pn) : (∀ x ∈ p, x.v = 0 ∨ x.v = 1) → (((p.filter b).map (·.p)).foldl stp (0, 0), (p.filter fun x => (x.v == 1) != b x).map (·.n)) ∈ runsL p := by
  refine rev_ind (P := fun p => (∀ x ∈ p, x.v = 0 ∨ x.v = 1) → (((p.filter b).map (·.p)).foldl stp (0, 0), (p.filter fun x => (x.v == 1) != b x).map (·.n)) ∈ runsL p) (fun _ => ?_) (fun p x ih hv => ?_) p
  · show _ ∈ [(((0 : Int), (0 : Int)), ([] : List Str))]
    exact List.mem_singleton.mpr rfl
  · have h := ih fun y hy => hv y (List.mem_append_left _ hy)
    have hxv := hv x (List.mem_append_right _ (List.mem_singleton.mpr rfl))
    rw [runs_snoc]
    refine List.mem_flatMap.mpr ⟨_, h, ?_⟩
    have bit := stp_bit ((p.filter b).map (·.p))
    rw [List.filter_append, List.filter_append, List.map_append, List.map_append, List.foldl_append]
    generalize ((p.filter b).map (·.p)).foldl stp (0, 0) = s at bit ⊢
    generalize (p.filter fun x => (x.v == 1) != b x).map (·.n) = ns
    unfold runOne
    cases hb : b x with
    | false =>
      refine List.mem_cons.mpr (.inl ?_)
      rw [key00 x s bit]
      rcases hxv with hxv | hxv <;> simp [hb, hxv, dpVal]
    | true =>
      refine List.mem_cons.mpr (.inr (List.mem_singleton.mpr ?_))
      rw [key01]
      rcases hxv with hxv | hxv <;> simp [hb, hxv, dpVal]
end VL

set_option Elab.async false
set_option linter.all false
set_option maxRecDepth 100000
set_option maxHeartbeats 4000000
namespace VL
open PySem PySem.Spec PyProof.Rows L2
theorem sum_bits' : ∀ {l : List Pn}, (∀ x ∈ l, x.v = 0 ∨ x.v = 1) → (l.map (·.v)).sum = ((l.filter fun x => x.v == 1).length : Nat)
  | [], _ => rfl
  | x :: l, h => by
    have ih := sum_bits' (l := l) fun y hy => h y (List.mem_cons_of_mem _ hy)
    rw [List.map_cons, List.sum_cons, ih, List.filter_cons]
    rcases h x (List.mem_cons_self ..) with e | e
    · rw [e]; simp
    · rw [e]; simp; omega
theorem voiced_perm (l : List Pn) (s : List Str) : (voiced' (lineL l) s).length = (voiced' l s).length := by
  unfold voiced'
  exact ((line_perm l).filter _).length_eq
theorem turned_len (l : List Pn) (s : List Str) : ((l.map (turnV s)).filter fun x => x.v == 1).length = (voiced' l s).length := by
  rw [List.filter_map, List.length_map]; rfl
theorem turned_places (l : List Pn) (s : List Str) : placesV (l.map (turnV s)) = (voiced' (lineL l) s).map (·.p) := by
  rw [places_turn, plc_line]; rfl
theorem run_odd {ps : List Int} {z : Int} : ((z, (1 : Int)) = ps.foldl stp (0, 0)) ↔ ps.length % 2 = 1 ∧ z = altS ps := by
  rw [stp_run _ _ (.inl rfl)]
  constructor
  · intro h
    have h1 : z = 0 + (if (0 : Int) = 0 then 1 else -1) * altS ps := congrArg Prod.fst h
    have h2 : (1 : Int) = (0 + (ps.length : Nat)) % 2 := congrArg Prod.snd h
    exact ⟨by omega, by simpa using h1⟩
  · rintro ⟨h1, h2⟩
    refine Prod.ext ?_ ?_
    · show z = 0 + (if (0 : Int) = 0 then 1 else -1) * altS ps
      simpa using h2
    · show (1 : Int) = (0 + (ps.length : Nat)) % 2
      omega
/-- this list of names leads to this place -/
def Cond (l : List Pn) (s : List Str) (z : Int) : Prop := (placesV (l.map (turnV s))).length % 2 = 1 ∧ altS (placesV (l.map (turnV s))) = z
theorem few_min (l : List Pn) (z : Int) (r : List (List Str)) : (∀ s ∈ r, s.length ≤ l.length) → ∀ m, valD (r.foldl (fewOne l) []) (.inl z) = some m → (∃ s ∈ r, Cond l s z ∧ m = s.length) ∧ ∀ s ∈ r, Cond l s z → m ≤ s.length := by
  refine rev_ind (P := fun r => (∀ s ∈ r, s.length ≤ l.length) → ∀ m, valD (r.foldl (fewOne l) []) (.inl z) = some m → (∃ s ∈ r, Cond l s z ∧ m = s.length) ∧ ∀ s ∈ r, Cond l s z → m ≤ s.length) (fun _ m h => ?_) (fun r s ih hr m h => ?_) r
  · rw [List.foldl_nil, valD_nil] at h; cases h
  · have ih := ih fun s hs => hr s (List.mem_append_left _ hs)
    have hsl := hr s (List.mem_append_right _ (List.mem_singleton.mpr rfl))
    rw [List.foldl_append] at h
    have h : valD (fewOne l (r.foldl (fewOne l) []) s) (.inl z) = some m := h
    have none_of : valD (r.foldl (fewOne l) []) (.inl z) = none → ∀ s ∈ r, ¬ Cond l s z := by
      intro hn s' hs' hc
      have : (.inl z : Key) ∈ (r.foldl (fewOne l) []).map (·.1) := (few_keys l (.inl z) r []).mpr (.inl ⟨s', hs', hc.1, by rw [hc.2]⟩)
      have := valD_in.mpr this
      rw [hn] at this
      cases this
    have old : valD (r.foldl (fewOne l) []) (.inl z) = some m → ¬ Cond l s z → (∃ s' ∈ r ++ [s], Cond l s' z ∧ m = s'.length) ∧ ∀ s' ∈ r ++ [s], Cond l s' z → m ≤ s'.length := by
      intro hm hc
      obtain ⟨⟨s1, h1, h2⟩, h3⟩ := ih m hm
      refine ⟨⟨s1, List.mem_append_left _ h1, h2⟩, fun s' hs' hc' => ?_⟩
      rcases List.mem_append.mp hs' with hs' | hs'
      · exact h3 s' hs' hc'
      · rw [List.mem_singleton.mp hs'] at hc'; exact (hc hc').elim
    generalize r.foldl (fewOne l) [] = M at h old none_of ih
    unfold fewOne at h
    dsimp only at h
    split at h
    · rename_i ho
      rw [valD_putX] at h
      split at h
      · rename_i e
        have ez : z = altS (placesV (l.map (turnV s))) := Sum.inl.inj e
        have hc : Cond l s z := ⟨ho, ez.symm⟩
        rw [← ez] at h
        cases hv : valD M (.inl z) with
        | none =>
          rw [hv] at h
          have hm : m = s.length := by
            have := (Option.some.inj h).symm
            simp only [Option.getD_none] at this
            omega
          refine ⟨⟨s, List.mem_append_right _ (List.mem_singleton.mpr rfl), hc, hm⟩, fun s' hs' hc' => ?_⟩
          rcases List.mem_append.mp hs' with hs' | hs'
          · exact (none_of hv s' hs' hc').elim
          · rw [List.mem_singleton.mp hs']; omega
        | some m0 =>
          rw [hv] at h
          have hm : m = min m0 s.length := (Option.some.inj h).symm
          obtain ⟨⟨s1, h1, h2, h2'⟩, h3⟩ := ih m0 hv
          refine ⟨?_, fun s' hs' hc' => ?_⟩
          · rcases Int.le_total m0 s.length with hle | hle
            · exact ⟨s1, List.mem_append_left _ h1, h2, by omega⟩
            · exact ⟨s, List.mem_append_right _ (List.mem_singleton.mpr rfl), hc, by omega⟩
          · rcases List.mem_append.mp hs' with hs' | hs'
            · have := h3 s' hs' hc'; omega
            · rw [List.mem_singleton.mp hs']; omega
      · rename_i e
        exact old h fun hc => e (by rw [hc.2])
    · rename_i ho
      exact old h fun hc => ho hc.1
theorem line_vo {l : List Pn} (hg : Good l) : ∀ x ∈ lineL l, x.v = 0 ∨ x.v = 1 := fun x hx => hg.vo x ((line_perm l).mem_iff.mp hx)
theorem line_nd {l : List Pn} (hg : Good l) : ((lineL l).map (·.n)).Nodup := (((line_perm l).map (·.n)).nodup_iff).mpr hg.nd
theorem wish_run {l : List Pn} (hg : Good l) {z : Int} {ns : List Str} (h : valD (dpAll l) (z, 1) = some ns) : ns.Sublist ((lineL l).map (·.n)) ∧ (z, (1 : Int)) = ((voiced' (lineL l) ns).map (·.p)).foldl stp (0, 0) :=
  runs_ok (lineL l) (line_nd hg) (line_vo hg) _ (dp_mem (lineL l) _ (valD_mem h))
theorem wish_cond {l : List Pn} {s : List Str} {z : Int} : Cond l s z ↔ (z, (1 : Int)) = ((voiced' (lineL l) s).map (·.p)).foldl stp (0, 0) := by
  rw [run_odd]
  unfold Cond
  rw [turned_places]
  exact ⟨fun h => ⟨h.1, h.2.symm⟩, fun h => ⟨h.1, h.2.symm⟩⟩
theorem wish_right {l : List Pn} (hg : Good l) {z : Int} {ns : List Str} (h : valD (dpAll l) (z, 1) = some ns) : Right l (l.map (turnV ns)) z (vpD ns) := by
  obtain ⟨h1, h2⟩ := wish_run hg h
  have hc := wish_cond.mpr h2
  have hn : Nms l ns := ⟨List.Nodup.sublist h1 (line_nd hg), fun n hn => ((line_perm l).map (·.n)).mem_iff.mp (h1.subset hn)⟩
  refine ⟨.inl ⟨ns, rfl, hn, rfl⟩, ?_, hc.2⟩
  rw [sum_bits' (good_turn' hg ns)]
  have := hc.1
  unfold placesV at this
  rw [(srtI_perm _).length_eq, List.length_map] at this
  omega
where
  good_turn' {l : List Pn} (hg : Good l) (ns : List Str) : ∀ x ∈ l.map (turnV ns), x.v = 0 ∨ x.v = 1 := by
    intro x hx
    obtain ⟨y, hy, rfl⟩ := List.mem_map.mp hx
    have := hg.vo y hy
    unfold turnV
    split
    · show 1 - y.v = 0 ∨ 1 - y.v = 1
      omega
    · exact this
theorem wish_none {l : List Pn} (hg : Good l) (z : Int) : (valD (dpAll l) (z, 1)).isSome = (valD (fewAll l) (.inl z)).isSome := by
  rw [Bool.eq_iff_iff, valD_in, valD_in]
  have h1 : ((z, (1 : Int)) ∈ (dpAll l).map (·.1)) ↔ z ∈ toldL l := by
    rw [told_states]; exact dp_states (lineL l) (z, 1)
  rw [h1, told_tot hg, due_tot hg]
  exact ⟨fun h => ⟨z, rfl, h⟩, fun ⟨t, e, h⟩ => Sum.inl.inj e ▸ h⟩
theorem turn_congr {l : List Pn} {s s' : List Str} (h : ∀ x ∈ l, (x.n ∈ s ↔ x.n ∈ s')) : l.map (turnV s) = l.map (turnV s') := by
  refine List.map_congr_left fun x hx => ?_
  unfold turnV
  by_cases hm : x.n ∈ s
  · rw [if_pos hm, if_pos ((h x hx).mp hm)]
  · rw [if_neg hm, if_neg fun z => hm ((h x hx).mpr z)]
theorem wish_few {l : List Pn} (hg : Good l) {z : Int} {ns : List Str} (h : valD (dpAll l) (z, 1) = some ns) : valD (fewAll l) (.inl z) = some (ns.length : Int) := by
  obtain ⟨h1, h2⟩ := wish_run hg h
  have hs := wish_none hg z
  rw [h] at hs
  obtain ⟨m, hm⟩ := Option.isSome_iff_exists.mp hs.symm
  obtain ⟨⟨s, s1, s2, s3⟩, s4⟩ := few_min l z (subsL (l.map (·.n))) (fun s hs => by have := subs_len' hs; rw [List.length_map] at this; exact this) m (by exact hm)
  rw [hm]
  congr 1
  have nd := List.Nodup.sublist h1 (line_nd hg)
  -- the told names, in the people's order
  have a1 : m ≤ ns.length := by
    let s' := (l.map (·.n)).filter fun n => decide (n ∈ ns)
    have hsub : s'.Sublist (l.map (·.n)) := List.filter_sublist
    have hmem : ∀ x ∈ l, (x.n ∈ s' ↔ x.n ∈ ns) := fun x hx => by
      show x.n ∈ (l.map (·.n)).filter _ ↔ _
      rw [List.mem_filter]
      exact ⟨fun z => by simpa using z.2, fun z => ⟨List.mem_map.mpr ⟨x, hx, rfl⟩, by simpa using z⟩⟩
    have hc : Cond l s' z := by
      have := wish_cond.mpr h2
      unfold Cond at this ⊢
      rw [turn_congr hmem]
      exact this
    have h5 := s4 s' ((subs_mem _ _).mpr hsub) hc
    have h6 : s'.length ≤ ns.length := List.Nodup.length_le_of_subset (List.Nodup.sublist hsub hg.nd) fun n hn => by
      have := (List.mem_filter.mp hn).2
      simpa using this
    omega
  have a2 : (ns.length : Int) ≤ m := by
    have hr := runs_all (fun x => (turnV s x).v == 1) (lineL l) (line_vo hg)
    obtain ⟨n2, k1, k2⟩ := dp_least (lineL l) _ hr
    have es : (((lineL l).filter fun x => (turnV s x).v == 1).map (·.p)).foldl stp (0, 0) = (z, (1 : Int)) := (wish_cond.mp s2).symm
    have k1' : valD (dpAll l) (z, 1) = some n2 := by
      rw [← es]; exact k1
    rw [h] at k1'
    cases k1'
    have h7 : (((lineL l).filter fun x => (x.v == 1) != ((turnV s x).v == 1)).map (·.n)).length ≤ s.length := by
      refine List.Nodup.length_le_of_subset (List.Nodup.sublist (List.Sublist.map _ List.filter_sublist) (line_nd hg)) fun n hn => ?_
      obtain ⟨x, hx, rfl⟩ := List.mem_map.mp hn
      obtain ⟨hx1, hx2⟩ := List.mem_filter.mp hx
      by_cases hms : x.n ∈ s
      · exact hms
      · unfold turnV at hx2
        rw [if_neg hms] at hx2
        simp at hx2
    have : ns.length ≤ s.length := Nat.le_trans k2 h7
    omega
  omega
where
  subs_len' {l s : List Str} (h : s ∈ subsL l) : s.length ≤ l.length := ((subs_mem l s).mp h).length_le
end VL

set_option Elab.async false
set_option linter.all false
set_option maxRecDepth 100000
set_option maxHeartbeats 4000000
namespace VL
open PySem PySem.Spec PyProof.Rows L2
local macro_rules
  | `(tactic| walk_at "vs") => `(tactic| try simp only [wSeq, wNx, wNever, wSet, wDrop, wRet, wRetV, wRetN, wIf, wAsg, wPar, wPar3, wBnil, wBcons, wGname, wGtup, wGcons, wGnil, wFor, wFz, wSh, wVar, wC, wOe, wOv, wOnil, wOcons, wXL, wX2, wX2T, wX1, wTst, wAnd, wOr, wNot, wAndV, wOrV, wUn, dNot, wIfE, wIfD, wNil, wCons, wTup, wTupF, wRaise, wTry, wLst,
  wItK, wItF, wLc, wDc, wipeE, wYes, wCall, wCallB2, wThawL, wMeth, wMake, wFldO, wGet1, wGet2, wVals, wM, wMO, wSub, wDnK, wDnT, wStar, wDspK, wDspT, wSl, wSl3, wPnone, wPsome, wSetS, wSrtM, wSrc, wSrcLen, wSrcPop, wSrcSet, wSrcNew, liftC, liftCI, wPs, gAdd, gSub, gLt, gLe, gGt, gGe, gNeg, gRng, gLen, gInt, gList, gTuple, gIs, gIsN, isNon, anyD,
  startE, List.map_cons, List.map_nil, List.length_cons, List.length_nil, Nat.reduceAdd, Nat.reduceSub, List.replicate_succ, List.replicate_zero, List.cons_append, List.nil_append, List.getElem?_cons_zero, List.getElem?_cons_succ, List.getElem?_nil, List.set_cons_zero, List.set_cons_succ, List.set_nil,
  rs, rss, slD, R.d, R.sl, oL, ob, oD, owD, isLO, tR, Option.bind_some, Option.isSome_some, true_and, and_true, if_true, if_false, Bool.false_eq_true, Bool.not_true, Bool.not_false, ite_true, ite_false, reduceIte, reduceCtorEq])
theorem isi_mk {x : D} {n t : String} {k : R → Prop} (ht : tyD x = some t) (hn : n ∈ tyNames) {b : Bool} (hb : isB t n = b) (h : k (.sh (.bl b))) : gIsi [x, .ty n] k := ⟨t, ht, hn, by rw [hb]; exact h⟩
theorem isi2_mk {x : D} {t : String} {l : List D} {ns : List String} {k : R → Prop} (ht : tyD x = some t) (hl : namesD l = some ns) (hn : ∀ n ∈ ns, n ∈ tyNames) {b : Bool} (hb : ns.any (isB t) = b) (h : k (.sh (.bl b))) : gIsi [x, .tup l] k := ⟨t, ns, ht, hl, hn, by rw [hb]; exact h⟩
theorem eq_ints {i j : Int} {k : R → Prop} (h : k (.sh (.bl (decide (i = j))))) : gEq (.int i) (.int j) k := ⟨.inl rfl, by
  have e : eqD (.int i) (.int j) = decide (i = j) := by unfold eqD; by_cases h : i = j <;> simp [h]
  rw [e]; exact h⟩
theorem h_is_row (C : CS) : ∀ ds (Q : R → Prop) (E : Xn → Prop), c_is_row C ds Q E → bodyC N_is_row 2 (w_is_row C) ds () (fun r _ => Q r) fun x _ => E x := by
  rintro ds Q E ⟨l, n, rfl, q⟩
  refine ⟨rfl, ?_⟩
  unfold w_is_row
  walk_at "vs"
  refine isi_mk (t := "tuple") rfl (by decide) (b := true) (by decide) ?_
  exact eq_ints (q _ rfl)
theorem h_is_integer (C : CS) : ∀ ds (Q : R → Prop) (E : Xn → Prop), c_is_integer C ds Q E → bodyC N_is_integer 1 (w_is_integer C) ds () (fun r _ => Q r) fun x _ => E x := by
  rintro ds Q E ⟨i, rfl, q⟩
  refine ⟨rfl, ?_⟩
  unfold w_is_integer
  walk_at "vs"
  refine isi_mk (t := "int") rfl (by decide) (b := true) (by decide) ?_
  walk_at "vs"
  refine isi_mk (t := "int") rfl (by decide) (b := false) (by decide) ?_
  walk_at "vs"
  exact q
theorem h_is_word (C : CS) : ∀ ds (Q : R → Prop) (E : Xn → Prop), c_is_word C ds Q E → bodyC N_is_word 1 (w_is_word C) ds () (fun r _ => Q r) fun x _ => E x := by
  rintro ds Q E ⟨x, rfl, hw, q⟩
  refine ⟨rfl, ?_⟩
  unfold w_is_word
  walk_at "vs"
  refine isi_mk (t := "str") rfl (by decide) (b := true) (by decide) ?_
  walk_at "vs"
  obtain ⟨w1, w2, w3, w4⟩ := hw
  have hl : x.length = x.cps.toList.length := by rw [Array.length_toList]; rfl
  have hz : x.length ≤ sizeLine := by rw [sizeLine_eq]; omega
  refine ⟨hz, ?_⟩
  have c1 : decide ((1 : Int) ≤ (x.length : Int) ∧ (x.length : Int) < 13) = true := decide_eq_true ⟨by omega, by omega⟩
  simp only [gNotIn, gInB]
  rw [c1]
  walk_at "vs"
  obtain ⟨c, hc⟩ : ∃ c, x.cps.toList[0]? = some c := ⟨_, List.getElem?_eq_getElem (by omega)⟩
  simp only [gIx]
  refine ⟨hz, c, ?_, ?_⟩
  · exact atI_nat (j := 0) hc
  walk_at "vs"
  refine ⟨c, rfl, ?_⟩
  have c2 : decide (c ∈ ("abcdefghijklmnopqrstuvwxyz" : Str).cps.toList) = true := decide_eq_true (w3 c hc)
  rw [c2]
  walk_at "vs"
  refine lc_map (fun _ => .bl true) (by unfold signs; rw [List.length_map]; omega) (fun d hd acc K ha hk => ?_) ?_
  · unfold signs at hd
    obtain ⟨c, hc, rfl⟩ := List.mem_map.mp hd
    walk_at "vs"
    simp only [gIn, gInB]
    refine ⟨c, rfl, ?_⟩
    by_cases h1 : c ∈ lets
    · have h2 : decide (c ∈ ("abcdefghijklmnopqrstuvwxyz" : Str).cps.toList) = true := decide_eq_true h1
      rw [h2]
      walk_at "vs"
      exact ⟨ha, hk⟩
    · have h2 : decide (c ∈ ("abcdefghijklmnopqrstuvwxyz" : Str).cps.toList) = false := decide_eq_false h1
      rw [h2]
      walk_at "vs"
      refine ⟨c, rfl, ?_⟩
      have h3 : decide (c ∈ ("0123456789" : Str).cps.toList) = true := decide_eq_true ((w4 c hc).resolve_left h1)
      rw [h3]
      walk_at "vs"
      exact ⟨ha, hk⟩
  · refine ⟨(signs x).map fun _ => true, by unfold blsD; rw [List.map_map]; rfl, ?_⟩
    have : ((signs x).map fun _ => true).all id = true := by simp
    rw [this]
    exact q
end VL

set_option Elab.async false
set_option linter.all false
set_option maxRecDepth 100000
set_option maxHeartbeats 4000000
namespace VL
open PySem PySem.Spec PyProof.Rows L2
local macro_rules
  | `(tactic| walk_at "vs") => `(tactic| try simp only [wSeq, wNx, wNever, wSet, wDrop, wRet, wRetV, wRetN, wIf, wAsg, wPar, wPar3, wBnil, wBcons, wGname, wGtup, wGcons, wGnil, wFor, wFz, wSh, wVar, wC, wOe, wOv, wOnil, wOcons, wXL, wX2, wX2T, wX1, wTst, wAnd, wOr, wNot, wAndV, wOrV, wUn, dNot, wIfE, wIfD, wNil, wCons, wTup, wTupF, wRaise, wTry, wLst,
  wItK, wItF, wLc, wDc, wipeE, wYes, wCall, wCallB2, wThawL, wMeth, wMake, wFldO, wGet1, wGet2, wVals, wM, wMO, wSub, wDnK, wDnT, wStar, wDspK, wDspT, wSl, wSl3, wPnone, wPsome, wSetS, wSrtM, wSrc, wSrcLen, wSrcPop, wSrcSet, wSrcNew, liftC, liftCI, wPs, gAdd, gSub, gLt, gLe, gGt, gGe, gNeg, gRng, gLen, gInt, gList, gTuple, gIs, gIsN, isNon, anyD,
  startE, List.map_cons, List.map_nil, List.length_cons, List.length_nil, Nat.reduceAdd, Nat.reduceSub, List.replicate_succ, List.replicate_zero, List.cons_append, List.nil_append, List.getElem?_cons_zero, List.getElem?_cons_succ, List.getElem?_nil, List.set_cons_zero, List.set_cons_succ, List.set_nil,
  rs, rss, slD, R.d, R.sl, oL, ob, oD, owD, isLO, tR, Option.bind_some, Option.isSome_some, true_and, and_true, if_true, if_false, Bool.false_eq_true, Bool.not_true, Bool.not_false, ite_true, ite_false, reduceIte, reduceCtorEq])
theorem ix_tup {l : List D} {d : D} {k : R → Prop} (i : Nat) (h : l[i]? = some d) (q : k (.sh d)) : gIx (.tup l) (.int i) k := by
  simp only [gIx]
  rw [atI_nat h]
  exact q
theorem ix_lst {l : List D} {d : D} {k : R → Prop} (i : Nat) (h : l[i]? = some d) (q : k (.sh d)) : gIx (.lst l) (.int i) k := by
  simp only [gIx]
  rw [atI_nat h]
  exact q
theorem ix_dk {l : List (Key × D)} {d kd : D} {key : Key} {k : R → Prop} (hk : toK kd = some key) (h : valD l key = some d) (q : k (.sh d)) : gIx (.dk l) kd k := by
  simp only [gIx, getDk]
  rw [hk]
  dsimp only
  rw [h]
  exact q
theorem in_dk {l : List (Key × D)} {kd : D} {key : Key} {k : R → Prop} {b : Bool} (hk : toK kd = some key) (h : (valD l key).isSome = b) (q : k (.sh (.bl b))) : gIn kd (.dk l) k := by
  simp only [gIn, gInB, getDk]
  rw [hk]
  dsimp only
  rw [h]
  exact q
theorem h_wrong_person (C : CS) : ∀ ds (Q : R → Prop) (E : Xn → Prop), c_wrong_person C ds Q E → bodyC N_wrong_person 2 (w_wrong_person C) ds () (fun r _ => Q r) fun x _ => E x := by
  rintro ds Q E ⟨x, l, rfl, hw, hn, hv, q⟩
  refine ⟨rfl, ?_⟩
  unfold w_wrong_person pD
  walk_at "vs"
  refine ⟨_, _, rfl, fun b hb => ?_⟩
  obtain rfl : b = true := hb.trans rfl
  walk_at "vs"
  refine ix_tup 0 rfl ?_
  walk_at "vs"
  refine ⟨_, rfl, hw, ?_⟩
  walk_at "vs"
  refine ix_tup 0 rfl ?_
  walk_at "vs"
  refine in_dk rfl (b := false) (by rw [hn]; rfl) ?_
  walk_at "vs"
  refine ix_tup 1 rfl ?_
  walk_at "vs"
  refine ⟨_, rfl, ?_⟩
  walk_at "vs"
  refine ix_tup 2 rfl ?_
  walk_at "vs"
  refine ⟨_, rfl, ?_⟩
  walk_at "vs"
  refine ix_tup 2 rfl ?_
  walk_at "vs"
  refine ⟨by rw [sizeLine_eq]; decide, ?_⟩
  simp only [gNotIn, gInB]
  refine ⟨⟨rfl, rfl⟩, ?_⟩
  have e : inD (.int x.v) [.int 0, .int 1] = true := by
    unfold inD
    rcases hv with h | h <;> rw [h] <;> simp [eqD]
  rw [e]
  walk_at "vs"
  exact q
theorem valD_people {l : List Pn} {n : Str} : valD (l.map fun x => ((Sum.inr x.n : Key), pD x)) (.inr n) = (l.find? fun x => decide (x.n = n)).map pD := by
  unfold valD
  rw [List.find?_map, Option.map_map]
  have e : ((fun kv : Key × D => decide (kv.1 = Sum.inr n)) ∘ fun x : Pn => ((Sum.inr x.n : Key), pD x)) = fun x : Pn => decide (x.n = n) := by
    funext x
    simp
  rw [e]
  rfl
theorem find_name : ∀ {l : List Pn} {x : Pn}, (l.map (·.n)).Nodup → x ∈ l → (l.find? fun y => decide (y.n = x.n)) = some x
  | y :: l, x, hn, hx => by
    rw [List.map_cons, List.nodup_cons] at hn
    rw [List.find?_cons]
    rcases List.mem_cons.mp hx with rfl | hx
    · simp
    · have : y.n ≠ x.n := fun e => hn.1 (e ▸ List.mem_map_of_mem hx)
      rw [decide_eq_false this]
      exact find_name hn.2 hx
theorem find_no {l : List Pn} {n : Str} (h : n ∉ l.map (·.n)) : (l.find? fun y => decide (y.n = n)) = none := by
  rw [List.find?_eq_none]
  intro x hx e
  exact h (List.mem_map.mpr ⟨x, hx, by simpa using e⟩)
theorem h_wrong_people (C : CS) : ∀ ds (Q : R → Prop) (E : Xn → Prop), c_wrong_people C ds Q E → bodyC N_wrong_people 1 (w_wrong_people C) ds () (fun r _ => Q r) fun x _ => E x := by
  rintro ds Q E ⟨l, rfl, hg, q⟩
  refine ⟨rfl, ?_⟩
  unfold w_wrong_people
  walk_at "vs"
  refine ⟨by rw [sizeLine_eq]; decide, ?_⟩
  refine isi2_mk (t := "list") rfl rfl (by decide) (b := true) (by decide) ?_
  walk_at "vs"
  simp only [enm]
  rw [enumD_eq]
  refine forL_list l.zipIdx (fun done e t => ∃ s2 s3 s4, e = [.sh (.lst (l.map pD)), .ow (.dk (done.map fun x => ((Sum.inr x.1.n : Key), D.bl true))), s2, s3, s4]) (fun done x todo K e t hl hK h => ?_) (fun e t h => ?_) ⟨_, _, _, rfl⟩
  · obtain ⟨s2, s3, s4, rfl⟩ := h
    obtain ⟨h1, h2⟩ := zipIdx_split hl
    have nd := hg.nd
    rw [h2, List.map_append, List.map_map, List.map_cons, List.nodup_append] at nd
    have hx : x.1 ∈ l := by rw [h2]; simp
    have no : (Sum.inr x.1.n : Key) ∉ (done.map fun x => ((Sum.inr x.1.n : Key), D.bl true)).map (·.1) := by
      intro hm
      rw [List.map_map, List.mem_map] at hm
      obtain ⟨z, hz, e⟩ := hm
      have e' : z.1.n = x.1.n := Sum.inr.inj e
      exact nd.2.2 _ (List.mem_map.mpr ⟨z, hz, rfl⟩) _ (List.mem_cons_self ..) e'
    have hlen : done.length < sizeLine := by
      have := hg.sz
      have h3 : l.length = done.length + (todo.length + 1) := by rw [h2]; simp
      rw [sizeLine_eq]; omega
    walk_at "vs"
    refine ⟨_, rfl, x.1, _, rfl, hg.wd _ hx, valD_none no, hg.vo _ hx, _, rfl, rfl, ?_⟩
    walk_at "vs"
    unfold pD
    refine ix_tup 0 rfl ?_
    walk_at "vs"
    simp only [gPut, toK]
    rw [putD_new no]
    refine ⟨by rw [List.length_map]; exact hlen, ?_⟩
    have e2 : (done.map fun x => ((Sum.inr x.1.n : Key), D.bl true)) ++ [((Sum.inr x.1.n : Key), D.bl true)] = (done ++ [x]).map fun x => ((Sum.inr x.1.n : Key), D.bl true) := by rw [List.map_append]; rfl
    rw [e2]
    exact hK _ _ ⟨_, _, _, rfl⟩
  · obtain ⟨s2, s3, s4, rfl⟩ := h
    walk_at "vs"
    exact q
end VL

set_option Elab.async false
set_option linter.all false
set_option maxRecDepth 100000
set_option maxHeartbeats 4000000
namespace VL
open PySem PySem.Spec PyProof.Rows L2
local macro_rules
  | `(tactic| walk_at "vs") => `(tactic| try simp only [wSeq, wNx, wNever, wSet, wDrop, wRet, wRetV, wRetN, wIf, wAsg, wPar, wPar3, wBnil, wBcons, wGname, wGtup, wGcons, wGnil, wFor, wFz, wSh, wVar, wC, wOe, wOv, wOnil, wOcons, wXL, wX2, wX2T, wX1, wTst, wAnd, wOr, wNot, wAndV, wOrV, wUn, dNot, wIfE, wIfD, wNil, wCons, wTup, wTupF, wRaise, wTry, wLst,
  wItK, wItF, wLc, wDc, wipeE, wYes, wCall, wCallB2, wThawL, wMeth, wMake, wFldO, wGet1, wGet2, wVals, wM, wMO, wSub, wDnK, wDnT, wStar, wDspK, wDspT, wSl, wSl3, wPnone, wPsome, wSetS, wSrtM, wSrc, wSrcLen, wSrcPop, wSrcSet, wSrcNew, liftC, liftCI, wPs, gAdd, gSub, gLt, gLe, gGt, gGe, gNeg, gRng, gLen, gInt, gList, gTuple, gIs, gIsN, isNon, anyD,
  startE, List.map_cons, List.map_nil, List.length_cons, List.length_nil, Nat.reduceAdd, Nat.reduceSub, List.replicate_succ, List.replicate_zero, List.cons_append, List.nil_append, List.getElem?_cons_zero, List.getElem?_cons_succ, List.getElem?_nil, List.set_cons_zero, List.set_cons_succ, List.set_nil,
  rs, rss, slD, R.d, R.sl, oL, ob, oD, owD, isLO, tR, Option.bind_some, Option.isSome_some, true_and, and_true, if_true, if_false, Bool.false_eq_true, Bool.not_true, Bool.not_false, ite_true, ite_false, reduceIte, reduceCtorEq])
theorem fits {n : Nat} (h : n ≤ 1000000) : n ≤ sizeLine := by rw [sizeLine_eq]; omega
theorem fits' {n : Nat} (h : n ≤ 1000000) : n < sizeLine := by rw [sizeLine_eq]; omega
theorem h_Standing_init (C : CS) : ∀ ds (Q : D → Prop) (E : Xn → Prop), c_Standing_init C ds Q E → bodyI C.Standing N_Standing_init 2 (w_Standing_init C) ds () (fun d _ => Q d) fun x _ => E x := by
  rintro ds Q E ⟨l, rfl, hg, q⟩
  refine ⟨rfl, fun p => ?_⟩
  unfold w_Standing_init
  walk_at "vs"
  refine ⟨l, rfl, hg, ?_⟩
  walk_at "vs"
  refine dcL_list l (fun done acc e t => t = ((), []) ∧ acc = (done.map fun x => ((Sum.inr x.n : Key), pD x)) ∧ ∃ s2 s3, e = [.sh (.han p), .sh (.lst (l.map pD)), s2, s3]) (fun done x todo acc K e t hl hK h => ?_) (fun acc e t h => ?_) ⟨rfl, rfl, _, _, rfl⟩
  · obtain ⟨rfl, rfl, s2, s3, rfl⟩ := h
    have nd := hg.nd
    rw [hl, List.map_append, List.map_cons, List.nodup_append] at nd
    have no : (Sum.inr x.n : Key) ∉ (done.map fun x => ((Sum.inr x.n : Key), pD x)).map (·.1) := by
      intro hm
      rw [List.map_map, List.mem_map] at hm
      obtain ⟨z, hz, e⟩ := hm
      exact nd.2.2 _ (List.mem_map.mpr ⟨z, hz, rfl⟩) _ (List.mem_cons_self ..) (Sum.inr.inj e)
    have hlen : done.length < sizeLine := by
      have := hg.sz
      have h3 : l.length = done.length + (todo.length + 1) := by rw [hl]; simp
      rw [sizeLine_eq]; omega
    walk_at "vs"
    unfold pD
    refine ix_tup 0 rfl ?_
    walk_at "vs"
    refine ⟨_, rfl, by rw [List.length_map]; exact hlen, ?_⟩
    have e2 := putD_new (v := pD x) no
    have e3 : (done.map fun x => ((Sum.inr x.n : Key), pD x)) ++ [((Sum.inr x.n : Key), pD x)] = (done ++ [x]).map fun x => ((Sum.inr x.n : Key), pD x) := by rw [List.map_append]; rfl
    rw [e3] at e2
    unfold pD at e2
    rw [e2]
    exact hK _ _ _ ⟨rfl, rfl, _, _, rfl⟩
  · obtain ⟨rfl, rfl, s2, s3, rfl⟩ := h
    walk_at "vs"
    exact ⟨by decide, q⟩
theorem h__law_made (C : CS) : ∀ ds (Q : R → Prop) (E : Xn → Prop), c__law_made C ds Q E → bodyC N__law_made 1 (w__law_made C) ds () (fun r _ => Q r) fun x _ => E x := by
  rintro ds Q E ⟨l, rfl, hg, q⟩
  refine ⟨rfl, ?_⟩
  unfold w__law_made
  walk_at "vs"
  refine lc_list l (fun _ => true) pD (fits (by have := hg.sz; omega)) (fun x hx acc K ha hk => ?_) ?_
  · walk_at "vs"
    unfold pD
    walk_at "vs"
    exact ⟨ha, hk⟩
  · rw [List.filter_eq_self.mpr fun _ _ => rfl]
    walk_at "vs"
    refine ⟨l, rfl, hg, ?_⟩
    walk_at "vs"
    refine ⟨_, rfl, Nat.le_of_ble_eq_true rfl, ?_⟩
    exact q
theorem rd_st {l : List Pn} : (stF l).lookup ("own_people" : Str) = some (D.dk (l.map fun x => (Sum.inr x.n, pD x))) := rfl
theorem strs_in {l : List Pn} {x : Pn} (hx : x ∈ l) : x.n ∈ l.map (·.n) := List.mem_map.mpr ⟨x, hx, rfl⟩
theorem h_Standing_has_name (C : CS) : ∀ ds (Q : R → Prop) (E : Xn → Prop), c_Standing_has_name C ds Q E → bodyC N_Standing_has_name 2 (w_Standing_has_name C) ds () (fun r _ => Q r) fun x _ => E x := by
  rintro ds Q E ⟨l, n, rfl, hg, hn, q⟩
  refine ⟨rfl, ?_⟩
  obtain ⟨x, hx, rfl⟩ := List.mem_map.mp hn
  unfold w_Standing_has_name
  walk_at "vs"
  refine ⟨x.n, rfl, hg.wd x hx, ?_⟩
  walk_at "vs"
  unfold stD
  walk_at "vs"
  rw [rd_st]
  walk_at "vs"
  refine in_dk rfl (b := true) (by rw [valD_people, find_name hg.nd hx]; rfl) ?_
  walk_at "vs"
  exact q
theorem h_Standing_person (C : CS) : ∀ ds (Q : R → Prop) (E : Xn → Prop), c_Standing_person C ds Q E → bodyC N_Standing_person 2 (w_Standing_person C) ds () (fun r _ => Q r) fun x _ => E x := by
  rintro ds Q E ⟨l, x, rfl, hg, hx, q⟩
  refine ⟨rfl, ?_⟩
  unfold w_Standing_person
  walk_at "vs"
  unfold stD
  walk_at "vs"
  refine ⟨rfl, ?_⟩
  refine ⟨l, x.n, rfl, hg, strs_in hx, ?_⟩
  walk_at "vs"
  rw [rd_st]
  walk_at "vs"
  refine ix_dk rfl (by rw [valD_people, find_name hg.nd hx]; rfl) ?_
  exact q
theorem h_Standing_place (C : CS) : ∀ ds (Q : R → Prop) (E : Xn → Prop), c_Standing_place C ds Q E → bodyC N_Standing_place 2 (w_Standing_place C) ds () (fun r _ => Q r) fun x _ => E x := by
  rintro ds Q E ⟨l, x, rfl, hg, hx, q⟩
  refine ⟨rfl, ?_⟩
  unfold w_Standing_place
  walk_at "vs"
  unfold stD
  walk_at "vs"
  refine ⟨rfl, ?_⟩
  refine ⟨l, x, rfl, hg, hx, ?_⟩
  walk_at "vs"
  unfold pD
  exact ix_tup 1 rfl q
theorem h_Standing_voice (C : CS) : ∀ ds (Q : R → Prop) (E : Xn → Prop), c_Standing_voice C ds Q E → bodyC N_Standing_voice 2 (w_Standing_voice C) ds () (fun r _ => Q r) fun x _ => E x := by
  rintro ds Q E ⟨l, x, rfl, hg, hx, q⟩
  refine ⟨rfl, ?_⟩
  unfold w_Standing_voice
  walk_at "vs"
  unfold stD
  walk_at "vs"
  refine ⟨rfl, ?_⟩
  refine ⟨l, x, rfl, hg, hx, ?_⟩
  walk_at "vs"
  unfold pD
  exact ix_tup 2 rfl q
theorem h_Standing_names (C : CS) : ∀ ds (Q : R → Prop) (E : Xn → Prop), c_Standing_names C ds Q E → bodyC N_Standing_names 1 (w_Standing_names C) ds () (fun r _ => Q r) fun x _ => E x := by
  rintro ds Q E ⟨l, rfl, hg, q⟩
  refine ⟨rfl, ?_⟩
  unfold w_Standing_names
  walk_at "vs"
  unfold stD
  walk_at "vs"
  rw [rd_st]
  walk_at "vs"
  rw [List.map_map]
  unfold strsD at q
  rw [List.map_map] at q
  exact q
end VL

set_option Elab.async false
set_option linter.all false
set_option maxRecDepth 100000
set_option maxHeartbeats 4000000
namespace VL
open PySem PySem.Spec PyProof.Rows L2
local macro_rules
  | `(tactic| walk_at "vs") => `(tactic| try simp only [wSeq, wNx, wNever, wSet, wDrop, wRet, wRetV, wRetN, wIf, wAsg, wPar, wPar3, wBnil, wBcons, wGname, wGtup, wGcons, wGnil, wFor, wFz, wSh, wVar, wC, wOe, wOv, wOnil, wOcons, wXL, wX2, wX2T, wX1, wTst, wAnd, wOr, wNot, wAndV, wOrV, wUn, dNot, wIfE, wIfD, wNil, wCons, wTup, wTupF, wRaise, wTry, wLst,
  wItK, wItF, wLc, wDc, wipeE, wYes, wCall, wCallB2, wThawL, wMeth, wMake, wFldO, wGet1, wGet2, wVals, wM, wMO, wSub, wDnK, wDnT, wStar, wDspK, wDspT, wSl, wSl3, wPnone, wPsome, wSetS, wSrtM, wSrc, wSrcLen, wSrcPop, wSrcSet, wSrcNew, liftC, liftCI, wPs, gAdd, gSub, gLt, gLe, gGt, gGe, gNeg, gRng, gLen, gInt, gList, gTuple, gIs, gIsN, isNon, anyD,
  startE, List.map_cons, List.map_nil, List.length_cons, List.length_nil, Nat.reduceAdd, Nat.reduceSub, List.replicate_succ, List.replicate_zero, List.cons_append, List.nil_append, List.getElem?_cons_zero, List.getElem?_cons_succ, List.getElem?_nil, List.set_cons_zero, List.set_cons_succ, List.set_nil,
  rs, rss, slD, R.d, R.sl, oL, ob, oD, owD, isLO, tR, Option.bind_some, Option.isSome_some, true_and, and_true, if_true, if_false, Bool.false_eq_true, Bool.not_true, Bool.not_false, ite_true, ite_false, reduceIte, reduceCtorEq])
theorem line_eq (l : List Pn) : srtK (l.map (·.p)) (strsD (l.map (·.n))) = strsD ((lineL l).map (·.n)) := by
  unfold srtK strsD lineL
  have e : ((l.map (·.n)).map D.str).zip (l.map (·.p)) = l.map fun x => (D.str x.n, x.p) := by
    rw [List.map_map, List.zip_map']
    rfl
  rw [e, ← List.map_mergeSort (r := fun a b : Pn => decide (a.p ≤ b.p)) (fun a _ b _ => rfl), List.map_map, List.map_map]
  rfl
theorem h_Standing_line (C : CS) : ∀ ds (Q : R → Prop) (E : Xn → Prop), c_Standing_line C ds Q E → bodyC N_Standing_line 1 (w_Standing_line C) ds () (fun r _ => Q r) fun x _ => E x := by
  rintro ds Q E ⟨l, rfl, hg, q⟩
  refine ⟨rfl, ?_⟩
  unfold w_Standing_line
  walk_at "vs"
  unfold stD
  walk_at "vs"
  refine ⟨rfl, ?_⟩
  refine ⟨l, rfl, hg, ?_⟩
  walk_at "vs"
  refine ⟨rfl, l.map (·.p), by unfold strsD; simp, fun i x k h1 h2 => ?_, ?_⟩
  · unfold strsD at h1
    rw [List.map_map, List.getElem?_map] at h1
    rw [List.getElem?_map] at h2
    cases h3 : l[i]? with
    | none => rw [h3] at h1; cases h1
    | some y =>
      rw [h3] at h1 h2
      cases h1
      cases h2
      exact ⟨l, y, rfl, hg, List.mem_of_getElem? h3, rfl⟩
  · rw [line_eq]
    exact q
theorem get_people {C : CS} {l : List Pn} {k : R → Prop} (h : k (.sh (.lst (l.map pD)))) : gIx (woD C l) (.str "people") k := ix_dk (key := .inr "people") rfl rfl h
theorem get_standing {C : CS} {l : List Pn} {k : R → Prop} (h : k (.sh (stD C l))) : gIx (woD C l) (.str "standing") k := ix_dk (key := .inr "standing") rfl rfl h
theorem h__law_spots (C : CS) : ∀ ds (Q : R → Prop) (E : Xn → Prop), c__law_spots C ds Q E → bodyC N__law_spots 1 (w__law_spots C) ds () (fun r _ => Q r) fun x _ => E x := by
  rintro ds Q E ⟨l, rfl, hg, q⟩
  refine ⟨rfl, ?_⟩
  unfold w__law_spots
  walk_at "vs"
  refine get_people ?_
  walk_at "vs"
  refine lc_list l (fun _ => true) (fun x => .int x.p) (fits (by have := hg.sz; omega)) (fun x hx acc K ha hk => ?_) ?_
  · walk_at "vs"
    unfold pD
    refine ix_tup 1 rfl ?_
    walk_at "vs"
    exact ⟨ha, hk⟩
  · rw [List.filter_eq_self.mpr fun _ _ => rfl]
    unfold intsD at q
    rw [List.map_map] at q
    walk_at "vs"
    exact q
theorem good_at {l : List Pn} (hg : Good l) {ps : List Int} (hl : ps.length = l.length) : Good (l.zipWith (fun x p => { x with p := p }) ps) := by
  have e1 : (l.zipWith (fun (x : Pn) (p : Int) => { x with p := p }) ps).map (·.n) = l.map (·.n) := by
    apply List.ext_getElem?
    intro i
    rw [List.getElem?_map, List.getElem?_zipWith, List.getElem?_map]
    cases h : l[i]? with
    | none => rfl
    | some x =>
      have hi := (List.getElem?_eq_some_iff.mp h).1
      rw [List.getElem?_eq_getElem (show i < ps.length by omega)]
      rfl
  have mem : ∀ y ∈ l.zipWith (fun (x : Pn) (p : Int) => { x with p := p }) ps, ∃ x ∈ l, y.n = x.n ∧ y.v = x.v := by
    intro y hy
    obtain ⟨i, hi⟩ := List.mem_iff_getElem?.mp hy
    rw [List.getElem?_zipWith] at hi
    cases h : l[i]? with
    | none => rw [h] at hi; cases h2 : ps[i]? <;> (rw [h2] at hi; cases hi)
    | some x =>
      cases h2 : ps[i]? with
      | none => rw [h, h2] at hi; cases hi
      | some z => rw [h, h2] at hi; cases hi; exact ⟨x, List.mem_of_getElem? h, rfl, rfl⟩
  refine ⟨by rw [e1]; exact hg.nd, fun y hy => ?_, fun y hy => ?_, ?_⟩
  · obtain ⟨x, hx, e, _⟩ := mem y hy
    rw [e]; exact hg.wd x hx
  · obtain ⟨x, hx, _, e⟩ := mem y hy
    rw [e]; exact hg.vo x hx
  · rw [List.length_zipWith]
    have := hg.sz
    omega
theorem h__law_at (C : CS) : ∀ ds (Q : R → Prop) (E : Xn → Prop), c__law_at C ds Q E → bodyC N__law_at 2 (w__law_at C) ds () (fun r _ => Q r) fun x _ => E x := by
  rintro ds Q E ⟨l, ps, rfl, hg, hl, q⟩
  refine ⟨rfl, ?_⟩
  unfold w__law_at
  walk_at "vs"
  refine get_people ?_
  walk_at "vs"
  simp only [zpM]
  have e : zipD (l.map pD) (intsD ps) = (l.zip ps).map fun z => D.tup [pD z.1, .int z.2] := by
    unfold zipD intsD List.zip
    rw [List.zipWith_map, List.map_zipWith]
  rw [e]
  refine lc_list (l.zip ps) (fun _ => true) (fun z => pD { z.1 with p := z.2 }) (fits (by have := hg.sz; rw [List.length_zip]; omega)) (fun x hx acc K ha hk => ?_) ?_
  · walk_at "vs"
    unfold pD
    refine ix_tup 0 rfl ?_
    walk_at "vs"
    refine ix_tup 2 rfl ?_
    walk_at "vs"
    exact ⟨by rw [sizeLine_eq]; decide, ha, hk⟩
  · rw [List.filter_eq_self.mpr fun _ _ => rfl]
    walk_at "vs"
    have e2 : ((l.zip ps).map fun z => pD { z.1 with p := z.2 }) = (l.zipWith (fun x p => { x with p := p }) ps).map pD := by
      unfold List.zip
      rw [List.map_zipWith, List.map_zipWith]
    rw [e2]
    refine ⟨_, rfl, good_at hg hl, q⟩
theorem good_turn {l : List Pn} (hg : Good l) (ns : List Str) : Good (l.map (turnV ns)) := by
  have hn : ∀ x, (turnV ns x).n = x.n := fun x => by unfold turnV; split <;> rfl
  refine ⟨?_, fun y hy => ?_, fun y hy => ?_, by rw [List.length_map]; exact hg.sz⟩
  · rw [List.map_map, show ((fun x : Pn => x.n) ∘ turnV ns) = fun x => x.n from funext hn]
    exact hg.nd
  · obtain ⟨x, hx, rfl⟩ := List.mem_map.mp hy
    rw [hn]; exact hg.wd x hx
  · obtain ⟨x, hx, rfl⟩ := List.mem_map.mp hy
    have := hg.vo x hx
    unfold turnV
    split
    · show 1 - x.v = 0 ∨ 1 - x.v = 1
      omega
    · exact this
theorem inD_strs (n : Str) (ns : List Str) : inD (.str n) (strsD ns) = decide (n ∈ ns) := by
  unfold inD strsD
  rw [List.any_map]
  by_cases h : n ∈ ns
  · rw [decide_eq_true h, List.any_eq_true]
    exact ⟨n, h, by simp [eqD]⟩
  · rw [decide_eq_false h, List.any_eq_false]
    intro m hm e
    refine h ?_
    have e' : m = n := by simpa [eqD] using e
    exact e' ▸ hm
theorem in_strs {n : Str} {ns : List Str} {k : R → Prop} (h : k (.sh (.bl (decide (n ∈ ns))))) : gIn (.str n) (.lst (strsD ns)) k := by
  simp only [gIn, gInB]
  refine ⟨.inl ⟨rfl, ?_⟩, ?_⟩
  · unfold strsD
    rw [List.all_map, List.all_eq_true]
    intro _ _
    rfl
  · rw [inD_strs]
    exact h
theorem h__law_turned_voices (C : CS) : ∀ ds (Q : R → Prop) (E : Xn → Prop), c__law_turned_voices C ds Q E → bodyC N__law_turned_voices 2 (w__law_turned_voices C) ds () (fun r _ => Q r) fun x _ => E x := by
  rintro ds Q E ⟨l, ns, rfl, hg, q⟩
  refine ⟨rfl, ?_⟩
  unfold w__law_turned_voices
  walk_at "vs"
  refine get_people ?_
  walk_at "vs"
  refine lc_list l (fun _ => true) (fun x => pD (turnV ns x)) (fits (by have := hg.sz; omega)) (fun x hx acc K ha hk => ?_) ?_
  · walk_at "vs"
    unfold pD
    walk_at "vs"
    refine in_strs ?_
    walk_at "vs"
    unfold pD turnV at hk
    by_cases h : x.n ∈ ns
    · rw [if_pos h] at hk
      rw [decide_eq_true h]
      walk_at "vs"
      exact ⟨by rw [sizeLine_eq]; decide, ha, hk⟩
    · rw [if_neg h] at hk
      rw [decide_eq_false h]
      walk_at "vs"
      exact ⟨by rw [sizeLine_eq]; decide, ha, hk⟩
  · rw [List.filter_eq_self.mpr fun _ _ => rfl]
    walk_at "vs"
    have e2 : (l.map fun x => pD (turnV ns x)) = (l.map (turnV ns)).map pD := by rw [List.map_map]; rfl
    rw [e2]
    exact ⟨_, rfl, good_turn hg ns, q⟩
end VL

set_option Elab.async false
set_option linter.all false
set_option maxRecDepth 100000
set_option maxHeartbeats 4000000
namespace VL
open PySem PySem.Spec PyProof.Rows L2
local macro_rules
  | `(tactic| walk_at "vs") => `(tactic| try simp only [wSeq, wNx, wNever, wSet, wDrop, wRet, wRetV, wRetN, wIf, wAsg, wPar, wPar3, wBnil, wBcons, wGname, wGtup, wGcons, wGnil, wFor, wFz, wSh, wVar, wC, wOe, wOv, wOnil, wOcons, wXL, wX2, wX2T, wX1, wTst, wAnd, wOr, wNot, wAndV, wOrV, wUn, dNot, wIfE, wIfD, wNil, wCons, wTup, wTupF, wRaise, wTry, wLst,
  wItK, wItF, wLc, wDc, wipeE, wYes, wCall, wCallB2, wThawL, wMeth, wMake, wFldO, wGet1, wGet2, wVals, wM, wMO, wSub, wDnK, wDnT, wStar, wDspK, wDspT, wSl, wSl3, wPnone, wPsome, wSetS, wSrtM, wSrc, wSrcLen, wSrcPop, wSrcSet, wSrcNew, liftC, liftCI, wPs, gAdd, gSub, gLt, gLe, gGt, gGe, gNeg, gRng, gLen, gInt, gList, gTuple, gIs, gIsN, isNon, anyD,
  startE, List.map_cons, List.map_nil, List.length_cons, List.length_nil, Nat.reduceAdd, Nat.reduceSub, List.replicate_succ, List.replicate_zero, List.cons_append, List.nil_append, List.getElem?_cons_zero, List.getElem?_cons_succ, List.getElem?_nil, List.set_cons_zero, List.set_cons_succ, List.set_nil,
  rs, rss, slD, R.d, R.sl, oL, ob, oD, owD, isLO, tR, Option.bind_some, Option.isSome_some, true_and, and_true, if_true, if_false, Bool.false_eq_true, Bool.not_true, Bool.not_false, ite_true, ite_false, reduceIte, reduceCtorEq])
theorem pkV_ints {ns : List Int} {a b c : Option Int} : pkV (intsD ns) a b c = intsD (pkV ns a b c) := by
  unfold pkV intsD
  rw [List.length_map, List.map_filterMap]
  congr 1
  funext i
  rw [List.getElem?_map]
theorem pkV_le {α : Type} {l : List α} {lo hi st : Option Int} : (pkV l lo hi st).length ≤ l.length := by
  unfold pkV
  refine Nat.le_trans (List.length_filterMap_le _ _) (sliceRange_length_le _ _ _ _ (fun hc => ?_) fun hc => ?_)
  · have h : st.getD 1 > 0 := hc
    simp only [sliceBounds, h, if_true]
    cases lo <;> cases hi <;> simp only <;> omega
  · have h : ¬ st.getD 1 > 0 := hc
    simp only [sliceBounds, h, if_false]
    cases lo <;> cases hi <;> simp only <;> omega
/-- a statement's end by what is known of it -/
theorem seq_cut {Th : Type} {w rest : WS Th} {n : En Th} {e : Ev} {t : Th} (P : Ev → Th → Prop) (h1 : ∀ e t, P e t → rest n e t) (h2 : ∀ nx : Ev → Th → Prop, (∀ e t, P e t → nx e t) → w { n with nx := nx } e t) : wSeq w rest n e t := h2 _ h1
theorem h__law_source (C : CS) : ∀ ds t Q E, c__law_source C ds t Q E → bodyC N__law_source 1 (w__law_source C) ds t Q E := by
  rintro ds t Q E ⟨ns, rfl, hn, rfl, q⟩
  refine ⟨rfl, ?_⟩
  unfold w__law_source
  walk_at "vs"
  refine forL_list ns (fun done e t => t = none ∧ ∃ i s2, e = [.sh (.kt (intsD ns)), .sh (.int i), s2]) (fun done x todo K e t hl hK h => ?_) (fun e t h => ?_) ⟨rfl, _, _, rfl⟩
  · obtain ⟨rfl, i, s2, rfl⟩ := h
    walk_at "vs"
    simp only [gMul]
    refine ⟨.inl (.inr ⟨by decide, by decide⟩), ?_⟩
    walk_at "vs"
    refine ⟨.inl (.inr ⟨by decide, by decide⟩), ?_⟩
    walk_at "vs"
    simp only [gMod]
    exact ⟨by decide, hK _ _ ⟨rfl, _, _, rfl⟩⟩
  · obtain ⟨rfl, i, s2, rfl⟩ := h
    walk_at "vs"
    refine lcL_list ns (fun done acc e t => t = none ∧ acc = intsD (done.map fun z => if z < 0 then -z else z) ∧ ∃ s2, e = [.sh (.kt (intsD ns)), .sh (.int i), s2]) (fun done x todo acc K e t hl hK h => ?_) (fun acc e t h => ?_) ⟨rfl, rfl, _, rfl⟩
    · obtain ⟨rfl, rfl, s2, rfl⟩ := h
      have h1 : ns.length = done.length + (todo.length + 1) := by rw [hl]; simp
      walk_at "vs"
      simp only [gAbs]
      walk_at "vs"
      refine ⟨fits' (by unfold intsD; rw [List.length_map, List.length_map]; omega), hK _ _ _ ⟨rfl, ?_, _, rfl⟩⟩
      unfold intsD
      rw [List.map_append, List.map_append]
      rfl
    · obtain ⟨rfl, rfl, s2, rfl⟩ := h
      walk_at "vs"
      simp only [gSl3]
      rw [pkV_ints]
      refine ⟨by decide, ?_, ?_⟩
      · unfold intsD
        rw [List.length_map]
        exact fits (Nat.le_trans pkV_le (by rw [List.length_map]; omega))
      · walk_at "vs"
        exact ⟨_, rfl, fun a b => q a _ ⟨_, rfl, rfl⟩⟩
theorem gtL {s : Src} : srcGet s "left" = some s.left := if_pos rfl
theorem gtM {s : Src} : srcGet s "mixed" = some s.mixed := by unfold srcGet; rw [if_neg (by decide), if_pos rfl]
theorem gtT {s : Src} : srcGet s "turn" = some s.turn := by unfold srcGet; rw [if_neg (by decide), if_neg (by decide), if_pos rfl]
theorem ptL {s : Src} {v : Int} : srcPut s "left" v = some { s with left := v } := if_pos rfl
theorem ptM {s : Src} {v : Int} : srcPut s "mixed" v = some { s with mixed := v } := by unfold srcPut; rw [if_neg (by decide), if_pos rfl]
theorem ptT {s : Src} {v : Int} : srcPut s "turn" v = some { s with turn := v } := by unfold srcPut; rw [if_neg (by decide), if_neg (by decide), if_pos rfl]
theorem log_max {m : Int} (h : m.natAbs.log2 < 9000) : (max 1 m).natAbs.log2 < 9000 := by
  rcases Int.le_total 1 m with h1 | h1
  · rw [Int.max_eq_right h1]; exact h
  · rw [Int.max_eq_left h1]; decide
theorem h__law_pick (C : CS) : ∀ ds t Q E, c__law_pick C ds t Q E → bodyC N__law_pick 2 (w__law_pick C) ds t Q E := by
  rintro ds t Q E ⟨p, m, rfl, ⟨s, rfl, rfl⟩, hm, q⟩
  refine ⟨rfl, ?_⟩
  unfold w__law_pick
  refine seq_cut (fun e t => e = [.sh (.han s.a), .sh (.int m), .un, .un] ∧ ∃ s', t = some s' ∧ s'.a = s.a) (fun e t h => ?_) fun nx hnx => ?_
  · obtain ⟨rfl, s', rfl, ha⟩ := h
    walk_at "vs"
    refine ⟨by rw [ha], s'.left, gtL, ?_⟩
    have fin : m < 2 ∨ 1 < s'.left → (gMax [.int 1, .int m] fun r => gDiv (.int s'.left) (match r with | .sh d => d | .ow d => d) fun r => match some s', (match r with | .sh d => d | .ow d => d) with
        | some s1, D.int v => some (Sl.sh (D.han s.a)) = some (Sl.sh (D.han s1.a)) ∧ ∃ s2, srcPut s1 "left" v = some s2 ∧ gMax [.int 1, .int m] fun r => gMod (.int s'.left) (match r with | .sh d => d | .ow d => d) fun r => Q r (some s2)
        | _, _ => False) := by
      intro _
      simp only [gMax]
      walk_at "vs"
      simp only [gDiv]
      walk_at "vs"
      refine ⟨⟨by omega, log_max hm⟩, by rw [ha], _, ptL, ?_⟩
      simp only [gMod]
      refine ⟨by omega, q _ _ ⟨_, rfl, ha⟩ (Int.emod_nonneg _ (by omega)) ?_⟩
      have h := Int.emod_lt_of_pos s'.left (show 0 < max 1 m by omega)
      by_cases h1 : 1 ≤ m
      · rw [Int.max_eq_right h1] at h ⊢; exact .inl h
      · refine .inr ⟨by omega, ?_⟩
        rw [Int.max_eq_left (by omega)]
        exact Int.emod_one _
    by_cases h1 : m < 2
    · rw [decide_eq_true h1]
      exact fin (.inl h1)
    rw [decide_eq_false h1]
    walk_at "vs"
    by_cases h2 : 1 < s'.left
    · rw [decide_eq_true h2]
      exact fin (.inr h2)
    rw [decide_eq_false h2]
    walk_at "vs"
    refine ⟨by rw [ha], _, gtT, by rw [ha], _, ptT, by rw [← ha], _, gtM, by rw [← ha], _, gtT, ?_⟩
    simp only [gMul]
    refine ⟨.inl (.inr ⟨by decide, by decide⟩), ?_⟩
    walk_at "vs"
    simp only [gMod]
    refine ⟨by decide, ?_⟩
    walk_at "vs"
    generalize hx : (s'.mixed + (s'.turn + 1) * 104729) % 998244353 = x
    have x1 : 0 ≤ x := by rw [← hx]; exact Int.emod_nonneg _ (by decide)
    have x2 : x < 998244353 := by rw [← hx]; exact Int.emod_lt_of_pos _ (by decide)
    try simp only [gMul]
    refine ⟨.inl (.inr ⟨by omega, by omega⟩), by rw [← ha], _, gtT, .inl (.inr ⟨by decide, by decide⟩), ?_⟩
    walk_at "vs"
    refine ⟨by decide, ?_⟩
    walk_at "vs"
    refine ⟨by rw [← ha], _, ptM, ?_⟩
    simp only [gDiv]
    refine ⟨⟨by decide, by decide⟩, ?_⟩
    walk_at "vs"
    have hm0 : 0 < m := by omega
    exact ⟨hm0, q _ _ ⟨_, rfl, ha⟩ (Int.emod_nonneg _ (by omega)) (.inl (Int.emod_lt_of_pos _ hm0))⟩
  · walk_at "vs"
    refine ⟨fun k e t => e = [.sh (.han s.a), .sh (.int m), .un, .un] ∧ ∃ s', t = some s' ∧ s'.a = s.a ∧ k = s'.cells.length, ⟨_, rfl, s, rfl, rfl, rfl⟩, fun k e t h => ?_⟩
    obtain ⟨rfl, s', rfl, ha, rfl⟩ := h
    have out : nx [.sh (.han s.a), .sh (.int m), .un, .un] (some s') := hnx _ _ ⟨rfl, s', rfl, ha⟩
    walk_at "vs"
    by_cases h1 : 1 < m
    · rw [decide_eq_true h1]
      walk_at "vs"
      refine ⟨by rw [ha], _, gtL, ?_⟩
      by_cases h2 : s'.left < 2
      · rw [decide_eq_true h2]
        walk_at "vs"
        refine ⟨by rw [ha], ?_⟩
        by_cases h3 : (0 : Int) < s'.cells.length
        · rw [decide_eq_true h3]
          walk_at "vs"
          have h4 : s'.cells ≠ [] := by intro z; rw [z] at h3; exact absurd h3 (by decide)
          refine ⟨by rw [ha], _, List.getLast?_eq_some_getLast h4, by rw [← ha], _, ptL, s'.cells.length - 1, by omega, _, rfl, ha, ?_⟩
          rw [List.length_dropLast]
        · rw [decide_eq_false h3]
          walk_at "vs"
          exact out
      · rw [decide_eq_false h2]
        walk_at "vs"
        exact out
    · rw [decide_eq_false h1]
      walk_at "vs"
      exact out
end VL

set_option Elab.async false
set_option linter.all false
set_option maxRecDepth 100000
set_option maxHeartbeats 4000000
namespace VL
open PySem PySem.Spec PyProof.Rows L2
local macro_rules
  | `(tactic| walk_at "vs") => `(tactic| try simp only [wSeq, wNx, wNever, wSet, wDrop, wRet, wRetV, wRetN, wIf, wAsg, wPar, wPar3, wBnil, wBcons, wGname, wGtup, wGcons, wGnil, wFor, wFz, wSh, wVar, wC, wOe, wOv, wOnil, wOcons, wXL, wX2, wX2T, wX1, wTst, wAnd, wOr, wNot, wAndV, wOrV, wUn, dNot, wIfE, wIfD, wNil, wCons, wTup, wTupF, wRaise, wTry, wLst,
  wItK, wItF, wLc, wDc, wipeE, wYes, wCall, wCallB2, wThawL, wMeth, wMake, wFldO, wGet1, wGet2, wVals, wM, wMO, wSub, wDnK, wDnT, wStar, wDspK, wDspT, wSl, wSl3, wPnone, wPsome, wSetS, wSrtM, wSrc, wSrcLen, wSrcPop, wSrcSet, wSrcNew, liftC, liftCI, wPs, gAdd, gSub, gLt, gLe, gGt, gGe, gNeg, gRng, gLen, gInt, gList, gTuple, gIs, gIsN, isNon, anyD,
  startE, List.map_cons, List.map_nil, List.length_cons, List.length_nil, Nat.reduceAdd, Nat.reduceSub, List.replicate_succ, List.replicate_zero, List.cons_append, List.nil_append, List.getElem?_cons_zero, List.getElem?_cons_succ, List.getElem?_nil, List.set_cons_zero, List.set_cons_succ, List.set_nil,
  rs, rss, slD, R.d, R.sl, oL, ob, oD, owD, isLO, tR, Option.bind_some, Option.isSome_some, true_and, and_true, if_true, if_false, Bool.false_eq_true, Bool.not_true, Bool.not_false, ite_true, ite_false, reduceIte, reduceCtorEq])
theorem log_small {i : Int} (h : i.natAbs ≤ 1000000000000000) : i.natAbs.log2 < 9000 := by
  by_cases h0 : i.natAbs = 0
  · rw [h0]; decide
  · refine Nat.lt_of_lt_of_le ((Nat.log2_lt h0).mpr (show i.natAbs < 2 ^ 64 by omega)) (by decide)
theorem h__law_of (C : CS) : ∀ ds t Q E, c__law_of C ds t Q E → bodyC N__law_of 2 (w__law_of C) ds t Q E := by
  rintro ds t Q E ⟨p, l, rfl, hp, h0, hz, q⟩
  refine ⟨rfl, ?_⟩
  unfold w__law_of
  walk_at "vs"
  refine ⟨p, _, rfl, hp, log_small (by omega), fun t' r hp' r0 r1 => ?_⟩
  walk_at "vs"
  have hr : r.toNat < l.length := by omega
  have e : r = (r.toNat : Int) := by omega
  rw [e]
  exact ix_lst r.toNat (List.getElem?_eq_getElem hr) (q _ _ hp' (List.getElem_mem hr))
theorem erase_perm {α : Type} : ∀ {l : List α} {i : Nat} (h : i < l.length), (l[i] :: l.eraseIdx i).Perm l
  | x :: l, 0, _ => by simp
  | x :: l, i + 1, h => by
    have ih := erase_perm (l := l) (i := i) (by simpa using h)
    simp only [List.getElem_cons_succ, List.eraseIdx_cons_succ]
    exact (List.Perm.swap _ _ _).trans (ih.cons x)
theorem rng_eq (n : Nat) : rngD 0 n = (List.range n).map fun i => D.int (0 + (i : Nat)) := rfl
theorem h__law_mixed (C : CS) : ∀ ds t Q E, c__law_mixed C ds t Q E → bodyC N__law_mixed 2 (w__law_mixed C) ds t Q E := by
  rintro ds t Q E ⟨p, l, rfl, hp, hz, q⟩
  refine ⟨rfl, ?_⟩
  unfold w__law_mixed
  walk_at "vs"
  simp only [rng1]
  refine ⟨⟨by omega, by omega⟩, ?_⟩
  rw [show ((l.length : Int)).toNat = l.length by omega, rng_eq]
  refine lcL_list (List.range l.length) (fun done acc e t => Has p t ∧ ∃ rest s3, e = [.sh (.han p), .sh (.lst l), .ow (.lst rest), s3] ∧ (acc ++ rest).Perm l ∧ acc.length = done.length) (fun done x todo acc K e t hl hK h => ?_) (fun acc e t h => ?_) ⟨hp, l, _, rfl, by simp, rfl⟩
  · obtain ⟨hp', rest, s3, rfl, hpm, hac⟩ := h
    have h1 : l.length = done.length + (todo.length + 1) := by
      have := congrArg List.length hl
      simpa using this
    have h2 := hpm.length_eq
    rw [List.length_append] at h2
    have h3 : 0 < rest.length := by omega
    walk_at "vs"
    refine ⟨p, _, rfl, hp', log_small (by omega), fun t' r hp2 r0 r1 => ?_⟩
    walk_at "vs"
    simp only [gPopAt]
    have hr : r.toNat < rest.length := by omega
    refine ⟨⟨by omega, by omega⟩, r.toNat, seqIndex_of r0 (by omega), ?_⟩
    rw [List.getElem?_eq_getElem hr]
    walk_at "vs"
    refine ⟨fits' (by omega), hK _ _ _ ⟨hp2, _, _, rfl, ?_, by simp [hac]⟩⟩
    refine List.Perm.trans ?_ hpm
    rw [List.append_assoc]
    exact List.Perm.append_left _ (by simpa using erase_perm hr)
  · obtain ⟨hp', rest, s3, rfl, hpm, hac⟩ := h
    rw [List.length_range] at hac
    have h2 := hpm.length_eq
    rw [List.length_append] at h2
    have h3 : rest = [] := List.eq_nil_of_length_eq_zero (by omega)
    rw [h3, List.append_nil] at hpm
    walk_at "vs"
    exact q _ _ hp' hpm
/-- the signs of a name -/
structure NameOf (d : Int) (x : Str) : Prop where
  ex : ∃ (c : Nat) (tl : List Nat), c ∈ lets ∧ tl.length ≤ 9 ∧ (∀ z ∈ tl, z ∈ lets) ∧ x.cps.toList = c :: (48 + (d / 10).toNat) :: (48 + (d % 10).toNat) :: tl
theorem digs : ∀ j : Fin 100, (cutS ((toString (100 + (j.val : Int)) : String) : Str) (some 1) none).cps.toList = [48 + j.val / 10, 48 + j.val % 10] := by decide +kernel
theorem fig_of : ∀ j : Fin 10, 48 + j.val ∈ figs := by decide +kernel
theorem NameOf.word {d : Int} {x : Str} (h0 : 0 ≤ d) (h1 : d < 100) (h : NameOf d x) : Word x := by
  obtain ⟨c, tl, hc, ht, htl, e⟩ := h.ex
  unfold Word
  rw [e]
  have f1 := fig_of ⟨(d / 10).toNat, by omega⟩
  have f2 := fig_of ⟨(d % 10).toNat, by omega⟩
  refine ⟨by simp, by simp; omega, fun z hz => ?_, fun z hz => ?_⟩
  · cases hz; exact hc
  · rcases List.mem_cons.mp hz with rfl | hz
    · exact .inl hc
    rcases List.mem_cons.mp hz with rfl | hz
    · exact .inr f1
    rcases List.mem_cons.mp hz with rfl | hz
    · exact .inr f2
    · exact .inl (htl z hz)
theorem NameOf.inj {d d' : Int} {x : Str} (h0 : 0 ≤ d) (h1 : d < 100) (h0' : 0 ≤ d') (h1' : d' < 100) (h : NameOf d x) (h' : NameOf d' x) : d = d' := by
  obtain ⟨c, tl, _, _, _, e⟩ := h.ex
  obtain ⟨c', tl', _, _, _, e'⟩ := h'.ex
  rw [e] at e'
  injection e' with _ e'
  injection e' with a e'
  injection e' with b _
  omega
theorem Str.app (a b : Str) : (a ++ b).cps.toList = a.cps.toList ++ b.cps.toList := by
  show (a.cps ++ b.cps).toList = _
  simp
theorem Str.len (a : Str) : a.length = a.cps.toList.length := by rw [Array.length_toList]; rfl
def tailL : List Str := ["", "", "", "k", "kkkkkkkkk"]
theorem tails_ok : ∀ x ∈ tailL, x.cps.toList.length ≤ 9 ∧ ∀ z ∈ x.cps.toList, z ∈ lets := by decide +kernel
theorem h__law_names (C : CS) : ∀ ds t Q E, c__law_names C ds t Q E → bodyC N__law_names 2 (w__law_names C) ds t Q E := by
  rintro ds t Q E ⟨p, m, rfl, hp, m0, m1, q⟩
  refine ⟨rfl, ?_⟩
  unfold w__law_names
  walk_at "vs"
  refine ⟨p, _, rfl, hp, by decide, fun t' sh hp' sh0 sh1 => ?_⟩
  walk_at "vs"
  refine ⟨by rw [sizeLine_eq]; omega, by rw [sizeLine_eq]; omega, ?_⟩
  simp only [rng1]
  refine ⟨⟨by omega, by omega⟩, ?_⟩
  rw [rng_eq]
  refine forL_list (List.range m.toNat) (fun done e t => Has p t ∧ done = List.range done.length ∧ ∃ (l : List Str) (s5 s6 : Sl), e = [.sh (.han p), .sh (.int m), .sh (.int sh), .ow (.lst (strsD l)), .ow (.lst (strsD tailL)), s5, s6] ∧ l.length = done.length ∧ ∀ i x, l[i]? = some x → NameOf ((sh + 37 * (i : Nat)) % 100) x) (fun done k todo K e t hl hK h => ?_) (fun e t h => ?_) ⟨hp', rfl, [], _, _, rfl, rfl, fun i x h => by simp at h⟩
  · obtain ⟨hp2, hd, l, s5, s6, rfl, hlen, hin⟩ := h
    have hk : k = done.length := by
      have h1 : (List.range m.toNat)[done.length]? = some k := by rw [hl]; simp
      obtain ⟨h2, h3⟩ := List.getElem?_eq_some_iff.mp h1
      rw [List.getElem_range] at h3
      exact h3.symm
    have hm : done.length < m.toNat := by
      have := congrArg List.length hl
      rw [List.length_range, List.length_append, List.length_cons] at this
      omega
    walk_at "vs"
    refine ⟨p, _, rfl, hp2, by decide, fun t2 r hp3 r0 r1 => ?_⟩
    walk_at "vs"
    simp only [gIx]
    have hr : r.toNat < lets.length := by
      have : lets.length = 26 := by decide +kernel
      omega
    obtain ⟨c, hc, hcm⟩ : ∃ c, atI lets r = some c ∧ c ∈ lets := by
      obtain ⟨n, rfl⟩ : ∃ n : Nat, r = n := ⟨r.toNat, by omega⟩
      exact ⟨_, atI_nat (List.getElem?_eq_getElem (show n < lets.length by omega)), List.getElem_mem _⟩
    refine ⟨by decide, c, hc, ?_⟩
    walk_at "vs"
    simp only [gMul]
    refine ⟨.inl (.inl ⟨by decide, by decide⟩), ?_⟩
    walk_at "vs"
    simp only [gMod]
    refine ⟨by decide, ?_⟩
    walk_at "vs"
    generalize hdv : (sh + 37 * (0 + (k : Nat) : Int)) % 100 = d
    have d0 : 0 ≤ d := by rw [← hdv]; exact Int.emod_nonneg _ (by decide)
    have d1 : d < 100 := by rw [← hdv]; exact Int.emod_lt_of_pos _ (by decide)
    simp only [gStr]
    refine ⟨by
      refine Nat.lt_of_lt_of_le ((Nat.log2_lt (by omega)).mpr (show (100 + d).natAbs < 2 ^ 64 by omega)) (by decide), ?_⟩
    walk_at "vs"
    have dg := digs ⟨d.toNat, by omega⟩
    have de : (100 + ((d.toNat : Nat) : Int)) = 100 + d := by omega
    rw [de] at dg
    have sz : ∀ x : Str, x.cps.toList.length ≤ 100 → x.length ≤ sizeLine := fun x h => by rw [Str.len, sizeLine_eq]; omega
    simp only [gSl]
    refine ⟨?_, ?_⟩
    · have : ∀ j : Fin 100, ((toString (100 + (j.val : Int)) : String) : Str).cps.toList.length ≤ 100 := by decide +kernel
      have h := this ⟨d.toNat, by omega⟩
      rw [de] at h
      exact sz _ h
    walk_at "vs"
    generalize hcut : cutS ((toString (100 + d) : String) : Str) (some 1) none = ct at dg ⊢
    have hct : ct.cps.toList.length = 2 := by rw [dg]; rfl
    refine ⟨by rw [Str.len ct, hct, sizeLine_eq]; exact Nat.le_of_ble_eq_true rfl, p, _, rfl, hp3, by decide, fun t3 r3 hp4 r30 r31 => ?_⟩
    walk_at "vs"
    obtain ⟨tl, htl, htm⟩ : ∃ tl, atI (strsD tailL) r3 = some (.str tl) ∧ tl ∈ tailL := by
      obtain ⟨n, rfl⟩ : ∃ n : Nat, r3 = n := ⟨r3.toNat, by omega⟩
      have hn : n < tailL.length := by show n < 5; omega
      refine ⟨tailL[n], atI_nat ?_, List.getElem_mem _⟩
      unfold strsD
      rw [List.getElem?_map, List.getElem?_eq_getElem hn]
      rfl
    obtain ⟨tz, tlets⟩ := tails_ok tl htm
    rw [htl]
    walk_at "vs"
    have e3 : ((⟨#[c]⟩ : Str) ++ ct ++ tl).cps.toList = c :: (48 + (d / 10).toNat) :: (48 + (d % 10).toNat) :: tl.cps.toList := by
      rw [Str.app, Str.app, dg]
      have a1 : d.toNat / 10 = (d / 10).toNat := by omega
      have a2 : d.toNat % 10 = (d % 10).toNat := by omega
      show c :: (48 + d.toNat / 10) :: (48 + d.toNat % 10) :: tl.cps.toList = _
      rw [a1, a2]
    have hz2 : ((⟨#[c]⟩ : Str) ++ ct).length = 3 := by rw [Str.len, Str.app, dg]; rfl
    simp only [gAppend]
    refine ⟨by rw [hz2, Str.len tl, sizeLine_eq]; omega, by unfold strsD; rw [List.length_map]; exact fits' (by omega), ?_⟩
    have e4 : strsD l ++ [.str ((⟨#[c]⟩ : Str) ++ ct ++ tl)] = strsD (l ++ [(⟨#[c]⟩ : Str) ++ ct ++ tl]) := by unfold strsD; rw [List.map_append]; rfl
    rw [e4]
    refine hK _ _ ⟨hp4, ?_, _, _, _, rfl, by simp [hlen], fun i x hx => ?_⟩
    · rw [List.length_append, List.length_singleton, List.range_succ, ← hd, ← hk]
    · rcases Nat.lt_trichotomy i l.length with h1 | h1 | h1
      · rw [List.getElem?_append_left h1] at hx
        exact hin i x hx
      · rw [h1, List.getElem?_concat_length] at hx
        cases hx
        have : (sh + 37 * ((i : Nat) : Int)) % 100 = d := by rw [← hdv, h1, hlen, hk]; congr 2; omega
        rw [this]
        exact ⟨c, tl.cps.toList, hcm, tz, tlets, e3⟩
      · rw [List.getElem?_eq_none (by rw [List.length_append, List.length_singleton]; omega)] at hx
        cases hx
  · obtain ⟨hp2, hd, l, s5, s6, rfl, hlen, hin⟩ := h
    walk_at "vs"
    rw [List.length_range] at hlen
    have rg : ∀ i : Nat, 0 ≤ (sh + 37 * (i : Int)) % 100 ∧ (sh + 37 * (i : Int)) % 100 < 100 := fun i => ⟨Int.emod_nonneg _ (by decide), Int.emod_lt_of_pos _ (by decide)⟩
    refine q _ _ hp2 hlen (List.pairwise_iff_getElem.mpr fun i j hi hj hij e => ?_) fun x hx => ?_
    · have a := hin i _ (List.getElem?_eq_getElem hi)
      have b := hin j _ (List.getElem?_eq_getElem hj)
      rw [← e] at b
      have := NameOf.inj (rg i).1 (rg i).2 (rg j).1 (rg j).2 a b
      omega
    · obtain ⟨i, hi⟩ := List.mem_iff_getElem?.mp hx
      exact (hin i x hi).word (rg i).1 (rg i).2
end VL

set_option Elab.async false
set_option linter.all false
set_option maxRecDepth 100000
set_option maxHeartbeats 4000000
namespace VL
open PySem PySem.Spec PyProof.Rows L2
local macro_rules
  | `(tactic| walk_at "vs") => `(tactic| try simp only [wSeq, wNx, wNever, wSet, wDrop, wRet, wRetV, wRetN, wIf, wAsg, wPar, wPar3, wBnil, wBcons, wGname, wGtup, wGcons, wGnil, wFor, wFz, wSh, wVar, wC, wOe, wOv, wOnil, wOcons, wXL, wX2, wX2T, wX1, wTst, wAnd, wOr, wNot, wAndV, wOrV, wUn, dNot, wIfE, wIfD, wNil, wCons, wTup, wTupF, wRaise, wTry, wLst,
  wItK, wItF, wLc, wDc, wipeE, wYes, wCall, wCallB2, wThawL, wMeth, wMake, wFldO, wGet1, wGet2, wVals, wM, wMO, wSub, wDnK, wDnT, wStar, wDspK, wDspT, wSl, wSl3, wPnone, wPsome, wSetS, wSrtM, wSrc, wSrcLen, wSrcPop, wSrcSet, wSrcNew, liftC, liftCI, wPs, gAdd, gSub, gLt, gLe, gGt, gGe, gNeg, gRng, gLen, gInt, gList, gTuple, gIs, gIsN, isNon, anyD,
  startE, List.map_cons, List.map_nil, List.length_cons, List.length_nil, Nat.reduceAdd, Nat.reduceSub, List.replicate_succ, List.replicate_zero, List.cons_append, List.nil_append, List.getElem?_cons_zero, List.getElem?_cons_succ, List.getElem?_nil, List.set_cons_zero, List.set_cons_succ, List.set_nil,
  rs, rss, slD, R.d, R.sl, oL, ob, oD, owD, isLO, tR, Option.bind_some, Option.isSome_some, true_and, and_true, if_true, if_false, Bool.false_eq_true, Bool.not_true, Bool.not_false, ite_true, ite_false, reduceIte, reduceCtorEq])
theorem perm_map {α β : Type} {f : α → β} {l' m : List β} (h : l'.Perm m) : ∀ l : List α, m = l.map f → ∃ l2 : List α, l2.Perm l ∧ l' = l2.map f := by
  induction h with
  | nil =>
    intro l e
    cases l with
    | nil => exact ⟨[], .refl _, rfl⟩
    | cons x l => cases e
  | cons x _ ih =>
    intro l e
    cases l with
    | nil => cases e
    | cons y l =>
      rw [List.map_cons] at e
      injection e with e1 e2
      obtain ⟨l2, h1, h2⟩ := ih l e2
      exact ⟨y :: l2, h1.cons y, by rw [List.map_cons, e1, h2]⟩
  | swap x y l1 =>
    intro l e
    match l, e with
    | a :: b :: l, e =>
      rw [List.map_cons, List.map_cons] at e
      injection e with e1 e2
      injection e2 with e2 e3
      exact ⟨b :: a :: l, List.Perm.swap _ _ _, by rw [List.map_cons, List.map_cons, e1, e2, e3]⟩
    | [_], e => cases e
    | [], e => cases e
  | trans _ _ ih1 ih2 =>
    intro l e
    obtain ⟨l2, h1, h2⟩ := ih2 l e
    obtain ⟨l3, h3, h4⟩ := ih1 l2 h2
    exact ⟨l3, h3.trans h1, h4⟩
theorem Good.perm {l l' : List Pn} (hg : Good l) (h : l'.Perm l) : Good l' :=
  ⟨(h.map _).nodup_iff.mpr hg.nd, fun x hx => hg.wd x (h.mem_iff.mp hx), fun x hx => hg.vo x (h.mem_iff.mp hx), by rw [h.length_eq]; exact hg.sz⟩
theorem sum_perm {l l' : List Int} (h : l'.Perm l) : l'.sum = l.sum := by
  induction h with
  | nil => rfl
  | cons x _ ih => rw [List.sum_cons, List.sum_cons, ih]
  | swap x y l => rw [List.sum_cons, List.sum_cons, List.sum_cons, List.sum_cons]; omega
  | trans _ _ a b => exact a.trans b
theorem ixN_last {n : Nat} : ixN (n + 1) (-1) = some n := by
  unfold ixN
  rw [if_neg (by decide), if_pos (by omega)]
  congr 1
  omega
theorem ix_last {l : List D} {d : D} {k : R → Prop} (q : k (.sh d)) : gIx (.lst (l ++ [d])) (.int (-1)) k := by
  simp only [gIx]
  have e : atI (l ++ [d]) (-1) = some d := by
    unfold atI
    rw [List.length_append, List.length_singleton, ixN_last]
    simp
  rw [e]
  exact q
theorem lits : (strsD = fun l : List Str => l.map D.str) := rfl
theorem h__law_world (C : CS) : ∀ ds t Q E, c__law_world C ds t Q E → bodyC N__law_world 4 (w__law_world C) ds t Q E := by
  rintro ds t Q E ⟨p, m, f, pr, rfl, hp, m1, m2, f1, f2, hr, q⟩
  refine ⟨rfl, ?_⟩
  unfold w__law_world
  walk_at "vs"
  refine ⟨p, _, rfl, hp, by decide, fun t1 here hp1 h0 h1 => ?_⟩
  walk_at "vs"
  refine ⟨by rw [sizeLine_eq]; omega, ?_⟩
  refine ⟨p, _, rfl, hp1, log_small (by omega), fun t2 many hp2 g0 g1 => ?_⟩
  walk_at "vs"
  refine ⟨p, _, rfl, hp2, by omega, by omega, fun t3 names hp3 hlen hnd hwd => ?_⟩
  walk_at "vs"
  unfold strsD
  refine forL_list names (fun done e t => Has p t ∧ ∃ (l : List Pn) (hr2 : Int) (s6 : Sl), e = [.sh (.han p), .sh (.int m), .sh (.int f), .sh (.int pr), .sh (.int hr2), .ow (.lst (l.map pD)), s6, .un] ∧ (∀ d, s6 ≠ .ow d) ∧ l.map (·.n) = done ∧ -10 ≤ hr2 ∧ hr2 ≤ 10 + 101 * done.length ∧ (∀ x ∈ l, (x.v = 0 ∨ x.v = 1) ∧ -10 ≤ x.p ∧ x.p ≤ 10 + 101 * done.length)) (fun done n todo K e t hl hK h => ?_) (fun e t h => ?_) ⟨hp3, [], _, _, rfl, fun _ z => (by cases z), rfl, by omega, by simp; omega, fun x hx => by simp at hx⟩
  · obtain ⟨hp', l, hr2, s6, rfl, hs6, hn, b0, b1, hx⟩ := h
    have hlen2 : l.length = done.length := by rw [← hn, List.length_map]
    have hle : done.length < names.length := by rw [hl]; simp
    walk_at "vs"
    refine ⟨p, _, rfl, hp', by decide, fun t4 r hp4 r0 r1 => ?_⟩
    walk_at "vs"
    refine ⟨by rw [sizeLine_eq]; decide, ?_⟩
    simp only [gAppend]
    refine ⟨by rw [List.length_map]; exact fits' (by omega), ?_⟩
    walk_at "vs"
    refine ⟨p, _, rfl, hp4, log_small (by omega), fun t5 r2 hp5 r20 r21 => ?_⟩
    walk_at "vs"
    refine ⟨by rw [sizeLine_eq]; decide, p, _, rfl, hp5, Nat.lt_of_lt_of_le (by decide) (Nat.le_refl 5), by show 5 ≤ 1000000; decide, fun t6 d hp6 hd => ?_⟩
    obtain ⟨st, rfl, st0, st1⟩ : ∃ st : Int, d = .int st ∧ 0 ≤ st ∧ st ≤ 100 := by
      simp only [List.mem_cons, List.not_mem_nil, or_false] at hd
      rcases hd with rfl | rfl | rfl | rfl | rfl
      · exact ⟨_, rfl, by omega, by omega⟩
      · exact ⟨_, rfl, by omega, by omega⟩
      · exact ⟨_, rfl, by omega, by omega⟩
      · exact ⟨_, rfl, by omega, by omega⟩
      · exact ⟨_, rfl, by omega, by omega⟩
    walk_at "vs"
    have e1 : l.map pD ++ [.tup [.str n, .int hr2, .int (if decide (0 < r) = true then 1 else 0)]] = (l ++ [(⟨n, hr2, if decide (0 < r) = true then 1 else 0⟩ : Pn)]).map pD := by rw [List.map_append]; rfl
    rw [e1]
    refine hK _ _ ⟨hp6, _, _, _, rfl, fun _ z => (by cases z), by rw [List.map_append, hn]; rfl, by omega, by rw [List.length_append, List.length_singleton]; omega, fun x hx' => ?_⟩
    rw [List.length_append, List.length_singleton]
    rcases List.mem_append.mp hx' with h | h
    · have := hx x h
      exact ⟨this.1, by omega, by omega⟩
    · rw [List.mem_singleton.mp h]
      refine ⟨?_, b0, by show hr2 ≤ _; omega⟩
      show (if decide (0 < r) = true then (1 : Int) else 0) = 0 ∨ (if decide (0 < r) = true then (1 : Int) else 0) = 1
      split
      · exact .inr rfl
      · exact .inl rfl
  · obtain ⟨hp', l, hr2, s6, rfl, hs6, hn, b0, b1, hx⟩ := h
    have e1 : l.length = names.length := by rw [← hn, List.length_map]
    have hg : Good l := ⟨by rw [hn]; exact hnd, fun x hx' => hwd _ (by rw [← hn]; exact List.mem_map.mpr ⟨x, hx', rfl⟩), fun x hx' => (hx x hx').1, by omega⟩
    have hpl : ∀ x ∈ l, -2000 ≤ x.p ∧ x.p ≤ 2000 := fun x hx' => by
      have := (hx x hx').2
      have : (names.length : Int) ≤ 12 := by omega
      omega
    have l1 : 1 ≤ l.length := by omega
    have l2 : (l.length : Int) ≤ m := by omega
    clear hx b0 b1 hn
    dsimp only
    refine seq_cut (fun e t => Has p t ∧ ∃ (l : List Pn) (hr2 : Int) (s6 : Sl), e = [.sh (.han p), .sh (.int m), .sh (.int f), .sh (.int pr), .sh (.int hr2), .ow (.lst (l.map pD)), s6, .un] ∧ Good l ∧ 1 ≤ l.length ∧ (l.length : Int) ≤ m ∧ (∀ x ∈ l, -2000 ≤ x.p ∧ x.p ≤ 2000) ∧ (pr < 2 → (l.map (·.v)).sum % 2 = pr)) (fun e t h => ?_) fun nx hnx => ?_
    · obtain ⟨hp', l, hr2, s6, rfl, hg, l1, l2, hpl, hsum⟩ := h
      walk_at "vs"
      refine ⟨p, _, rfl, hp', by rw [List.length_map]; omega, fun t4 l' hp4 hpm => ?_⟩
      obtain ⟨l3, h3, rfl⟩ := perm_map hpm l rfl
      walk_at "vs"
      refine ⟨l3, rfl, hg.perm h3, q _ l3 hp4 (hg.perm h3) (by rw [h3.length_eq]; exact l1) (by rw [h3.length_eq]; exact l2) (fun x hx => hpl x (h3.mem_iff.mp hx)) fun h => ?_⟩
      rw [sum_perm (h3.map (·.v))]
      exact hsum h
    · walk_at "vs"
      by_cases hpr : pr < 2
      · rw [decide_eq_true hpr]
        walk_at "vs"
        have noOw : ∀ (j : Nat) (d : D), j ≠ 5 → ([.sh (.han p), .sh (.int m), .sh (.int f), .sh (.int pr), .sh (.int hr2), .ow (.lst (l.map pD)), s6, .un] : List Sl)[j]? ≠ some (.ow d) := by
          intro j d hj
          match j with
          | 0 | 1 | 2 | 3 | 4 | 7 => exact fun z => by cases z
          | 6 => exact fun z => hs6 d (Option.some.inj z)
          | 5 => exact absurd rfl hj
          | n + 8 => exact fun z => by cases z
        refine ⟨_, rfl, noOw, ?_⟩
        walk_at "vs"
        refine lc_list l (fun _ => true) (fun x => .int x.v) (fits (by have := hg.sz; omega)) (fun x hx acc K ha hk => ?_) ?_
        · walk_at "vs"
          unfold pD
          refine ix_tup 2 rfl ?_
          walk_at "vs"
          exact ⟨ha, hk⟩
        rw [List.filter_eq_self.mpr fun _ _ => rfl]
        walk_at "vs"
        simp only [gSum]
        refine ⟨l.map (·.v), by unfold intsD; rw [List.map_map]; rfl, ?_⟩
        walk_at "vs"
        refine ⟨rfl, ?_⟩
        try simp only [gMod]
        refine ⟨by decide, ?_⟩
        walk_at "vs"
        generalize hs : (l.map (·.v)).sum % 2 = sm
        have s0 : 0 ≤ sm := by rw [← hs]; exact Int.emod_nonneg _ (by decide)
        have s1 : sm < 2 := by rw [← hs]; exact Int.emod_lt_of_pos _ (by decide)
        try simp only [gNe]
        refine ⟨.inl rfl, ?_⟩
        have e3 : eqD (.int sm) (.int pr) = decide (sm = pr) := by unfold eqD; by_cases h : sm = pr <;> simp [h]
        rw [e3]
        by_cases hc : sm = pr
        · rw [decide_eq_true hc]
          walk_at "vs"
          exact hnx _ _ ⟨hp', l, _, _, rfl, hg, l1, l2, hpl, fun _ => hc ▸ hs⟩
        · rw [decide_eq_false hc]
          walk_at "vs"
          obtain ⟨ini, x, rfl⟩ : ∃ ini x, l = ini ++ [x] := ⟨l.dropLast, l.getLast (by intro z; subst z; exact absurd l1 (by decide)), (List.dropLast_concat_getLast _).symm⟩
          have mp : (ini ++ [x]).map pD = ini.map pD ++ [pD x] := by rw [List.map_append]; rfl
          rw [mp]
          refine ix_last ?_
          walk_at "vs"
          refine ix_tup 0 rfl ?_
          walk_at "vs"
          refine ix_last ?_
          walk_at "vs"
          refine ix_tup 1 rfl ?_
          walk_at "vs"
          refine ix_last ?_
          walk_at "vs"
          refine ix_tup 2 rfl ?_
          walk_at "vs"
          refine ⟨by rw [sizeLine_eq]; decide, ?_⟩
          simp only [gPut]
          refine ⟨ini.length, ?_, ?_⟩
          · rw [List.length_append, List.length_map]
            exact ixN_last
          have e4 : (ini.map pD ++ [pD x]).set ini.length (.tup [.str x.n, .int x.p, .int (1 - x.v)]) = (ini ++ [{ x with v := 1 - x.v }]).map pD := by
            rw [List.map_append, ← List.length_map (f := pD), List.set_append_right _ _ (Nat.le_refl _), Nat.sub_self]
            rfl
          rw [e4]
          have vx := hg.vo x (by simp)
          refine hnx _ _ ⟨hp', _, _, _, rfl, ⟨?_, fun y hy => ?_, fun y hy => ?_, ?_⟩, by simp, by simpa using l2, fun y hy => ?_, fun _ => ?_⟩
          · have := hg.nd
            rw [List.map_append] at this ⊢
            exact this
          · rcases List.mem_append.mp hy with h | h
            · exact hg.wd y (List.mem_append_left _ h)
            · rw [List.mem_singleton.mp h]; exact hg.wd x (by simp)
          · rcases List.mem_append.mp hy with h | h
            · exact hg.vo y (List.mem_append_left _ h)
            · rw [List.mem_singleton.mp h]
              show 1 - x.v = 0 ∨ 1 - x.v = 1
              omega
          · have := hg.sz
            simpa using this
          · rcases List.mem_append.mp hy with h | h
            · exact hpl y (List.mem_append_left _ h)
            · rw [List.mem_singleton.mp h]; exact hpl x (by simp)
          · rw [List.map_append, List.sum_append] at hs ⊢
            simp only [List.map_cons, List.map_nil, List.sum_cons, List.sum_nil] at hs ⊢
            omega
      · rw [decide_eq_false hpr]
        walk_at "vs"
        exact hnx _ _ ⟨hp', l, _, _, rfl, hg, l1, l2, hpl, fun h => absurd h hpr⟩
end VL

set_option Elab.async false
set_option linter.all false
set_option maxRecDepth 100000
set_option maxHeartbeats 4000000
namespace VL
open PySem PySem.Spec PyProof.Rows L2
local macro_rules
  | `(tactic| walk_at "vs") => `(tactic| try simp only [wSeq, wNx, wNever, wSet, wDrop, wRet, wRetV, wRetN, wIf, wAsg, wPar, wPar3, wBnil, wBcons, wGname, wGtup, wGcons, wGnil, wFor, wFz, wSh, wVar, wC, wOe, wOv, wOnil, wOcons, wXL, wX2, wX2T, wX1, wTst, wAnd, wOr, wNot, wAndV, wOrV, wUn, dNot, wIfE, wIfD, wNil, wCons, wTup, wTupF, wRaise, wTry, wLst,
  wItK, wItF, wLc, wDc, wipeE, wYes, wCall, wCallB2, wThawL, wMeth, wMake, wFldO, wGet1, wGet2, wVals, wM, wMO, wSub, wDnK, wDnT, wStar, wDspK, wDspT, wSl, wSl3, wPnone, wPsome, wSetS, wSrtM, wSrc, wSrcLen, wSrcPop, wSrcSet, wSrcNew, liftC, liftCI, wPs, gAdd, gSub, gLt, gLe, gGt, gGe, gNeg, gRng, gLen, gInt, gList, gTuple, gIs, gIsN, isNon, anyD,
  startE, List.map_cons, List.map_nil, List.length_cons, List.length_nil, Nat.reduceAdd, Nat.reduceSub, List.replicate_succ, List.replicate_zero, List.cons_append, List.nil_append, List.getElem?_cons_zero, List.getElem?_cons_succ, List.getElem?_nil, List.set_cons_zero, List.set_cons_succ, List.set_nil,
  rs, rss, slD, R.d, R.sl, oL, ob, oD, owD, isLO, tR, Option.bind_some, Option.isSome_some, true_and, and_true, if_true, if_false, Bool.false_eq_true, Bool.not_true, Bool.not_false, ite_true, ite_false, reduceIte, reduceCtorEq])
theorem dpK_inj : ∀ a b : Int × Int, dpK a = dpK b → a = b := by
  rintro ⟨a, b⟩ ⟨c, d⟩ h
  unfold dpK at h
  injection h with h1 h2
  injection h2 with h2 _
  have h1 : a = c := Sum.inl.inj h1
  have h2 : b = d := Sum.inl.inj h2
  rw [h1, h2]
theorem lsD (z : List Str) : (strsD z).length = z.length := by unfold strsD; rw [List.length_map]
abbrev DpL := List ((Int × Int) × List Str)
theorem dp_val (m : DpL) (s : Int × Int) : valD (dpMap m) (dpK s) = (valD m s).map fun v => .tup (strsD v) := valD_mapX dpK dpK_inj (fun v => D.tup (strsD v)) m s
theorem dp_put (m : DpL) (s : Int × Int) (v : List Str) : putD (dpMap m) (dpK s) (.tup (strsD v)) = dpMap (putD m s v) := putD_mapX dpK dpK_inj (fun v => D.tup (strsD v)) m s v
theorem dpOne_none {x : Pn} {e : (Int × Int) × List Str} {m : DpL} {v : Int} (h : valD m (dpKey x e.1 v) = none) : dpOne x e m v = putD m (dpKey x e.1 v) (dpVal x e v) := by
  unfold dpOne
  rw [h]
theorem dpOne_lt {x : Pn} {e : (Int × Int) × List Str} {m : DpL} {v : Int} {old : List Str} (h : valD m (dpKey x e.1 v) = some old) (hl : (dpVal x e v).length < old.length) : dpOne x e m v = putD m (dpKey x e.1 v) (dpVal x e v) := by
  unfold dpOne
  rw [h]
  exact if_pos hl
theorem dpOne_ge {x : Pn} {e : (Int × Int) × List Str} {m : DpL} {v : Int} {old : List Str} (h : valD m (dpKey x e.1 v) = some old) (hl : ¬ (dpVal x e v).length < old.length) : dpOne x e m v = m := by
  unfold dpOne
  rw [h]
  exact if_neg hl
theorem dpOne_len (x : Pn) (e : (Int × Int) × List Str) (m : DpL) (v : Int) : (dpOne x e m v).length ≤ m.length + 1 := by
  unfold dpOne
  split
  · exact putD_len
  · split
    · exact putD_len
    · omega
theorem putD_all {κ α : Type} [DecidableEq κ] {P : κ × α → Prop} {l : List (κ × α)} {k : κ} {v : α} (h : ∀ p ∈ l, P p) (hn : P (k, v)) : ∀ p ∈ putD l k v, P p := by
  unfold putD
  split
  · intro p hp
    obtain ⟨q, hq, rfl⟩ := List.mem_map.mp hp
    split
    · rename_i e
      rw [e]; exact hn
    · exact h q hq
  · intro p hp
    rcases List.mem_append.mp hp with hp | hp
    · exact h p hp
    · rw [List.mem_singleton.mp hp]; exact hn
theorem dpOne_all {P : (Int × Int) × List Str → Prop} {x : Pn} {e : (Int × Int) × List Str} {m : DpL} {v : Int} (h : ∀ p ∈ m, P p) (hn : P (dpKey x e.1 v, dpVal x e v)) : ∀ p ∈ dpOne x e m v, P p := by
  unfold dpOne
  split
  · exact putD_all h hn
  · split
    · exact putD_all h hn
    · exact h
theorem dpVal_len (x : Pn) (e : (Int × Int) × List Str) (v : Int) : (dpVal x e v).length ≤ e.2.length + 1 := by
  unfold dpVal
  split
  · omega
  · rw [List.length_append]; simp
theorem dpTwo_len (x : Pn) (e : (Int × Int) × List Str) (m : DpL) : ([0, 1].foldl (dpOne x e) m).length ≤ m.length + 2 := by
  have h1 := dpOne_len x e m 0
  have h2 := dpOne_len x e (dpOne x e m 0) 1
  show (dpOne x e (dpOne x e m 0) 1).length ≤ _
  omega
theorem h_changes_by_sums (C : CS) : ∀ ds (Q : R → Prop) (E : Xn → Prop), c_changes_by_sums C ds Q E → bodyC N_changes_by_sums 1 (w_changes_by_sums C) ds () (fun r _ => Q r) fun x _ => E x := by
  rintro ds Q E ⟨l, rfl, hg, hl12, q⟩
  refine ⟨rfl, ?_⟩
  unfold w_changes_by_sums
  walk_at "vs"
  unfold stD
  walk_at "vs"
  refine ⟨by rw [sizeLine_eq]; omega, by rw [sizeLine_eq]; omega, _, rfl, Nat.le_of_ble_eq_true rfl, ?_⟩
  walk_at "vs"
  refine ⟨rfl, l, rfl, hg, ?_⟩
  walk_at "vs"
  have lp : (lineL l).Perm l := List.mergeSort_perm ..
  have e0 : strsD ((lineL l).map (·.n)) = (lineL l).map fun x => D.str x.n := by unfold strsD; rw [List.map_map]; rfl
  rw [e0]
  refine forL_list (lineL l) (fun done e t => ∃ s2 s3 s4 s5 s6 s7 s8 s9 s10 s11 s12, e = [.sh (.ins C.Standing (stF l)), .sh (.dt (dpMap (done.foldl dpStep [((0, 0), [])]))), s2, s3, s4, s5, s6, s7, s8, s9, s10, s11, s12] ∧ (done.foldl dpStep [((0, 0), [])]).length ≤ 2 ^ done.length ∧ ∀ e ∈ done.foldl dpStep [((0, 0), [])], e.2.length ≤ done.length) (fun done x todo K e t hl hK h => ?_) (fun e t h => ?_) ⟨_, _, _, _, _, _, _, _, _, _, _, rfl, by simp, fun e he => by simp at he; simp [he]⟩
  · obtain ⟨s2, s3, s4, s5, s6, s7, s8, s9, s10, s11, s12, rfl, hm1, hm2⟩ := h
    have hx : x ∈ l := lp.mem_iff.mp (by rw [hl]; simp)
    have hd : done.length ≤ 11 := by
      have h1 := congrArg List.length hl
      rw [lp.length_eq] at h1
      simp at h1
      omega
    generalize hm : done.foldl dpStep [((0, 0), [])] = m at hm1 hm2
    have hm3 : m.length ≤ 2048 := Nat.le_trans hm1 (Nat.pow_le_pow_right (n := 2) (by decide) hd)
    walk_at "vs"
    refine ⟨rfl, l, x, rfl, hg, hx, ?_⟩
    walk_at "vs"
    refine ⟨rfl, l, x, rfl, hg, hx, ?_⟩
    walk_at "vs"
    simp only [itemsA]
    have e1 : ((dpMap m).map fun p => D.tup [.tup (p.1.map keyD), p.2]) = m.map fun e => .tup [.tup [.int e.1.1, .int e.1.2], .tup (strsD e.2)] := by
      unfold dpMap
      rw [List.map_map]
      rfl
    rw [e1]
    refine forL_list m (fun dn e t => ∃ s6 s7 s8 s9 s10 s11 s12, e = [.sh (.ins C.Standing (stF l)), .sh (.dt (dpMap m)), .sh (.str x.n), .sh (.int x.p), .sh (.int x.v), .ow (.dt (dpMap (dn.foldl (fun later e => [0, 1].foldl (dpOne x e) later) []))), s6, s7, s8, s9, s10, s11, s12] ∧ (dn.foldl (fun later e => [0, 1].foldl (dpOne x e) later) ([] : DpL)).length ≤ 2 * dn.length ∧ ∀ e ∈ dn.foldl (fun later e => [0, 1].foldl (dpOne x e) later) ([] : DpL), e.2.length ≤ done.length + 1) (fun dn en td K2 e t hl2 hK2 h => ?_) (fun e t h => ?_) ⟨_, _, _, _, _, _, _, rfl, by simp, fun e he => by simp at he⟩
    · obtain ⟨s6, s7, s8, s9, s10, s11, s12, rfl, hq1, hq2⟩ := h
      have hen : en ∈ m := by rw [hl2]; simp
      have hdn : dn.length < m.length := by rw [hl2]; simp
      walk_at "vs"
      refine ⟨by rw [sizeLine_eq]; omega, ?_⟩
      generalize hlat : dn.foldl (fun later e => [0, 1].foldl (dpOne x e) later) ([] : DpL) = lat at hq1 hq2 ⊢
      show wForL _ _ _ (([0, 1] : List Int).map D.int) _ _
      refine forL_list ([0, 1] : List Int) (fun vd e t => ∃ s9 s10 s11 s12, e = [.sh (.ins C.Standing (stF l)), .sh (.dt (dpMap m)), .sh (.str x.n), .sh (.int x.p), .sh (.int x.v), .ow (.dt (dpMap (vd.foldl (dpOne x en) lat))), .sh (.int en.1.1), .sh (.int en.1.2), .sh (.tup (strsD en.2)), s9, s10, s11, s12] ∧ (vd.foldl (dpOne x en) lat).length ≤ lat.length + vd.length ∧ ∀ e ∈ vd.foldl (dpOne x en) lat, e.2.length ≤ done.length + 1) (fun vd v vt K3 e t hl3 hK3 h => ?_) (fun e t h => ?_) ⟨_, _, _, _, rfl, by simp, hq2⟩
      · obtain ⟨s9, s10, s11, s12, rfl, hr1, hr2⟩ := h
        have hvd2 : vd.length < 2 := by
          have := congrArg List.length hl3
          simp at this
          omega
        generalize hlt2 : vd.foldl (dpOne x en) lat = lt2 at hr1 hr2 ⊢
        have hsm : lt2.length ≤ 100000 := by omega
        have fin3 : ∀ s9 s10 s11 s12, K3 [.sh (.ins C.Standing (stF l)), .sh (.dt (dpMap m)), .sh (.str x.n), .sh (.int x.p), .sh (.int x.v), .ow (.dt (dpMap (dpOne x en lt2 v))), .sh (.int en.1.1), .sh (.int en.1.2), .sh (.tup (strsD en.2)), s9, s10, s11, s12] t := fun s9 s10 s11 s12 => by
          refine hK3 _ _ ⟨s9, s10, s11, s12, ?_, ?_, ?_⟩
          · rw [List.foldl_append, hlt2]; rfl
          · rw [List.foldl_append, hlt2, List.length_append]
            have := dpOne_len x en lt2 v
            show (dpOne x en lt2 v).length ≤ _
            simp
            omega
          · rw [List.foldl_append, hlt2]
            have h1 := hm2 en hen
            have h2 := dpVal_len x en v
            exact dpOne_all hr2 (by show (dpVal x en v).length ≤ _; omega)
        walk_at "vs"
        refine eq_ints ?_
        walk_at "vs"
        by_cases hodd : en.1.2 = 0
        · rw [decide_eq_true hodd]
          walk_at "vs"
          simp only [gMul]
          refine ⟨.inl (.inl ⟨by decide, by decide⟩), ?_⟩
          walk_at "vs"
          have hv2 : v = 0 ∨ v = 1 := by
            have : v ∈ [0, 1] := by rw [hl3]; simp
            simpa using this
          refine ⟨.inl (.inl ⟨by omega, by omega⟩), ?_⟩
          walk_at "vs"
          try simp only [gMod]
          refine ⟨by decide, ?_⟩
          walk_at "vs"
          refine ⟨by rw [sizeLine_eq]; decide, ?_⟩
          refine eq_ints ?_
          walk_at "vs"
          by_cases hc : v = x.v
          · rw [decide_eq_true hc]
            walk_at "vs"
            have hval : dpVal x en v = en.2 := by unfold dpVal; rw [if_pos hc]
            have hkey : dpKey x en.1 v = (en.1.1 + 1 * v * x.p, (en.1.2 + v) % 2) := by unfold dpKey; rw [if_pos hodd]
            simp only [gNotIn, gInB, getDk, toKs, toK]
            have hval2 := dp_val lt2 (en.1.1 + 1 * v * x.p, (en.1.2 + v) % 2)
            unfold dpK at hval2
            have hput := dp_put lt2 (en.1.1 + 1 * v * x.p, (en.1.2 + v) % 2) en.2
            unfold dpK at hput
            cases hvd : valD lt2 (en.1.1 + 1 * v * x.p, (en.1.2 + v) % 2) with
            | none =>
              rw [hvd] at hval2
              rw [hval2]
              walk_at "vs"
              simp only [gPut, toKs, toK, Option.map_none, Option.isSome_none, Bool.not_false, if_true]
              refine ⟨by unfold dpMap; rw [List.length_map]; exact fits' (by omega), ?_⟩
              have hone := dpOne_none (x := x) (e := en) (m := lt2) (v := v) (by rw [hkey]; exact hvd)
              rw [hkey, hval] at hone
              rw [hput, ← hone]
              exact fin3 _ _ _ _
            | some old =>
              rw [hvd] at hval2
              rw [hval2]
              walk_at "vs"
              simp only [Option.map_some, Option.isSome_some, Bool.not_true, gIx, getDk, toKs, toK]
              rw [hval2]
              walk_at "vs"
              simp only [Option.map_some, oD, lsD]
              walk_at "vs"
              have ed : decide (((en.2.length : Nat) : Int) < ((old.length : Nat) : Int)) = decide (en.2.length < old.length) := by rw [decide_eq_decide]; exact Int.ofNat_lt
              rw [ed]
              by_cases h9 : en.2.length < old.length
              · rw [decide_eq_true h9]
                walk_at "vs"
                simp only [gPut, toKs, toK]
                refine ⟨by unfold dpMap; rw [List.length_map]; exact fits' (by omega), ?_⟩
                have hone2 := dpOne_lt (x := x) (e := en) (m := lt2) (v := v) (by rw [hkey]; exact hvd) (by rw [hval]; exact h9)
                rw [hkey, hval] at hone2
                rw [hput, ← hone2]
                exact fin3 _ _ _ _
              · rw [decide_eq_false h9]
                walk_at "vs"
                have hone2 := dpOne_ge (x := x) (e := en) (m := lt2) (v := v) (by rw [hkey]; exact hvd) (by rw [hval]; exact h9)
                have f := fin3
                rw [hone2] at f
                exact f _ _ _ _
          · rw [decide_eq_false hc]
            walk_at "vs"
            simp only [seqD]
            have hcl : (strsD en.2 ++ [D.str x.n]).length ≤ 1000000 := by unfold strsD; rw [List.length_append, List.length_map]; have := hm2 en hen; simp; omega
            refine ⟨fits hcl, ?_⟩
            have ec : strsD en.2 ++ [D.str x.n] = strsD (en.2 ++ [x.n]) := by unfold strsD; rw [List.map_append]; rfl
            rw [ec]
            have hval : dpVal x en v = (en.2 ++ [x.n]) := by unfold dpVal; rw [if_neg hc]
            have hkey : dpKey x en.1 v = (en.1.1 + 1 * v * x.p, (en.1.2 + v) % 2) := by unfold dpKey; rw [if_pos hodd]
            simp only [gNotIn, gInB, getDk, toKs, toK]
            have hval2 := dp_val lt2 (en.1.1 + 1 * v * x.p, (en.1.2 + v) % 2)
            unfold dpK at hval2
            have hput := dp_put lt2 (en.1.1 + 1 * v * x.p, (en.1.2 + v) % 2) (en.2 ++ [x.n])
            unfold dpK at hput
            cases hvd : valD lt2 (en.1.1 + 1 * v * x.p, (en.1.2 + v) % 2) with
            | none =>
              rw [hvd] at hval2
              rw [hval2]
              walk_at "vs"
              simp only [gPut, toKs, toK, Option.map_none, Option.isSome_none, Bool.not_false, if_true]
              refine ⟨by unfold dpMap; rw [List.length_map]; exact fits' (by omega), ?_⟩
              have hone := dpOne_none (x := x) (e := en) (m := lt2) (v := v) (by rw [hkey]; exact hvd)
              rw [hkey, hval] at hone
              rw [hput, ← hone]
              exact fin3 _ _ _ _
            | some old =>
              rw [hvd] at hval2
              rw [hval2]
              walk_at "vs"
              simp only [Option.map_some, Option.isSome_some, Bool.not_true, gIx, getDk, toKs, toK]
              rw [hval2]
              walk_at "vs"
              simp only [Option.map_some, oD, lsD]
              walk_at "vs"
              have ed : decide ((((en.2 ++ [x.n]).length : Nat) : Int) < ((old.length : Nat) : Int)) = decide ((en.2 ++ [x.n]).length < old.length) := by rw [decide_eq_decide]; exact Int.ofNat_lt
              rw [ed]
              by_cases h9 : (en.2 ++ [x.n]).length < old.length
              · rw [decide_eq_true h9]
                walk_at "vs"
                simp only [gPut, toKs, toK]
                refine ⟨by unfold dpMap; rw [List.length_map]; exact fits' (by omega), ?_⟩
                have hone2 := dpOne_lt (x := x) (e := en) (m := lt2) (v := v) (by rw [hkey]; exact hvd) (by rw [hval]; exact h9)
                rw [hkey, hval] at hone2
                rw [hput, ← hone2]
                exact fin3 _ _ _ _
              · rw [decide_eq_false h9]
                walk_at "vs"
                have hone2 := dpOne_ge (x := x) (e := en) (m := lt2) (v := v) (by rw [hkey]; exact hvd) (by rw [hval]; exact h9)
                have f := fin3
                rw [hone2] at f
                exact f _ _ _ _
        · rw [decide_eq_false hodd]
          walk_at "vs"
          simp only [gMul]
          refine ⟨.inl (.inl ⟨by decide, by decide⟩), ?_⟩
          walk_at "vs"
          have hv2 : v = 0 ∨ v = 1 := by
            have : v ∈ [0, 1] := by rw [hl3]; simp
            simpa using this
          refine ⟨.inl (.inl ⟨by omega, by omega⟩), ?_⟩
          walk_at "vs"
          try simp only [gMod]
          refine ⟨by decide, ?_⟩
          walk_at "vs"
          refine ⟨by rw [sizeLine_eq]; decide, ?_⟩
          refine eq_ints ?_
          walk_at "vs"
          by_cases hc : v = x.v
          · rw [decide_eq_true hc]
            walk_at "vs"
            have hval : dpVal x en v = en.2 := by unfold dpVal; rw [if_pos hc]
            have hkey : dpKey x en.1 v = (en.1.1 + -1 * v * x.p, (en.1.2 + v) % 2) := by unfold dpKey; rw [if_neg hodd]
            simp only [gNotIn, gInB, getDk, toKs, toK]
            have hval2 := dp_val lt2 (en.1.1 + -1 * v * x.p, (en.1.2 + v) % 2)
            unfold dpK at hval2
            have hput := dp_put lt2 (en.1.1 + -1 * v * x.p, (en.1.2 + v) % 2) en.2
            unfold dpK at hput
            cases hvd : valD lt2 (en.1.1 + -1 * v * x.p, (en.1.2 + v) % 2) with
            | none =>
              rw [hvd] at hval2
              rw [hval2]
              walk_at "vs"
              simp only [gPut, toKs, toK, Option.map_none, Option.isSome_none, Bool.not_false, if_true]
              refine ⟨by unfold dpMap; rw [List.length_map]; exact fits' (by omega), ?_⟩
              have hone := dpOne_none (x := x) (e := en) (m := lt2) (v := v) (by rw [hkey]; exact hvd)
              rw [hkey, hval] at hone
              rw [hput, ← hone]
              exact fin3 _ _ _ _
            | some old =>
              rw [hvd] at hval2
              rw [hval2]
              walk_at "vs"
              simp only [Option.map_some, Option.isSome_some, Bool.not_true, gIx, getDk, toKs, toK]
              rw [hval2]
              walk_at "vs"
              simp only [Option.map_some, oD, lsD]
              walk_at "vs"
              have ed : decide (((en.2.length : Nat) : Int) < ((old.length : Nat) : Int)) = decide (en.2.length < old.length) := by rw [decide_eq_decide]; exact Int.ofNat_lt
              rw [ed]
              by_cases h9 : en.2.length < old.length
              · rw [decide_eq_true h9]
                walk_at "vs"
                simp only [gPut, toKs, toK]
                refine ⟨by unfold dpMap; rw [List.length_map]; exact fits' (by omega), ?_⟩
                have hone2 := dpOne_lt (x := x) (e := en) (m := lt2) (v := v) (by rw [hkey]; exact hvd) (by rw [hval]; exact h9)
                rw [hkey, hval] at hone2
                rw [hput, ← hone2]
                exact fin3 _ _ _ _
              · rw [decide_eq_false h9]
                walk_at "vs"
                have hone2 := dpOne_ge (x := x) (e := en) (m := lt2) (v := v) (by rw [hkey]; exact hvd) (by rw [hval]; exact h9)
                have f := fin3
                rw [hone2] at f
                exact f _ _ _ _
          · rw [decide_eq_false hc]
            walk_at "vs"
            simp only [seqD]
            have hcl : (strsD en.2 ++ [D.str x.n]).length ≤ 1000000 := by unfold strsD; rw [List.length_append, List.length_map]; have := hm2 en hen; simp; omega
            refine ⟨fits hcl, ?_⟩
            have ec : strsD en.2 ++ [D.str x.n] = strsD (en.2 ++ [x.n]) := by unfold strsD; rw [List.map_append]; rfl
            rw [ec]
            have hval : dpVal x en v = (en.2 ++ [x.n]) := by unfold dpVal; rw [if_neg hc]
            have hkey : dpKey x en.1 v = (en.1.1 + -1 * v * x.p, (en.1.2 + v) % 2) := by unfold dpKey; rw [if_neg hodd]
            simp only [gNotIn, gInB, getDk, toKs, toK]
            have hval2 := dp_val lt2 (en.1.1 + -1 * v * x.p, (en.1.2 + v) % 2)
            unfold dpK at hval2
            have hput := dp_put lt2 (en.1.1 + -1 * v * x.p, (en.1.2 + v) % 2) (en.2 ++ [x.n])
            unfold dpK at hput
            cases hvd : valD lt2 (en.1.1 + -1 * v * x.p, (en.1.2 + v) % 2) with
            | none =>
              rw [hvd] at hval2
              rw [hval2]
              walk_at "vs"
              simp only [gPut, toKs, toK, Option.map_none, Option.isSome_none, Bool.not_false, if_true]
              refine ⟨by unfold dpMap; rw [List.length_map]; exact fits' (by omega), ?_⟩
              have hone := dpOne_none (x := x) (e := en) (m := lt2) (v := v) (by rw [hkey]; exact hvd)
              rw [hkey, hval] at hone
              rw [hput, ← hone]
              exact fin3 _ _ _ _
            | some old =>
              rw [hvd] at hval2
              rw [hval2]
              walk_at "vs"
              simp only [Option.map_some, Option.isSome_some, Bool.not_true, gIx, getDk, toKs, toK]
              rw [hval2]
              walk_at "vs"
              simp only [Option.map_some, oD, lsD]
              walk_at "vs"
              have ed : decide ((((en.2 ++ [x.n]).length : Nat) : Int) < ((old.length : Nat) : Int)) = decide ((en.2 ++ [x.n]).length < old.length) := by rw [decide_eq_decide]; exact Int.ofNat_lt
              rw [ed]
              by_cases h9 : (en.2 ++ [x.n]).length < old.length
              · rw [decide_eq_true h9]
                walk_at "vs"
                simp only [gPut, toKs, toK]
                refine ⟨by unfold dpMap; rw [List.length_map]; exact fits' (by omega), ?_⟩
                have hone2 := dpOne_lt (x := x) (e := en) (m := lt2) (v := v) (by rw [hkey]; exact hvd) (by rw [hval]; exact h9)
                rw [hkey, hval] at hone2
                rw [hput, ← hone2]
                exact fin3 _ _ _ _
              · rw [decide_eq_false h9]
                walk_at "vs"
                have hone2 := dpOne_ge (x := x) (e := en) (m := lt2) (v := v) (by rw [hkey]; exact hvd) (by rw [hval]; exact h9)
                have f := fin3
                rw [hone2] at f
                exact f _ _ _ _
      · obtain ⟨s9, s10, s11, s12, rfl, hr1, hr2⟩ := h
        have e6 : (dn ++ [en]).foldl (fun later e => [0, 1].foldl (dpOne x e) later) ([] : DpL) = ([0, 1] : List Int).foldl (dpOne x en) lat := by rw [List.foldl_append, hlat]; rfl
        refine hK2 _ _ ?_
        rw [e6]
        refine ⟨_, _, _, _, _, _, _, rfl, ?_, hr2⟩
        rw [List.length_append]
        simp only [List.length_cons, List.length_nil] at hr1 ⊢
        omega
    · obtain ⟨s6, s7, s8, s9, s10, s11, s12, rfl, hq1, hq2⟩ := h
      walk_at "vs"
      have e5 : (done ++ [x]).foldl dpStep [((0, 0), [])] = m.foldl (fun later e => [0, 1].foldl (dpOne x e) later) [] := by rw [List.foldl_append, hm]; rfl
      rw [← e5]
      refine hK _ _ ⟨_, _, _, _, _, _, _, _, _, _, _, rfl, ?_, ?_⟩
      · rw [e5, List.length_append, List.length_singleton, Nat.pow_succ]
        omega
      · rw [e5, List.length_append, List.length_singleton]
        exact hq2
  · obtain ⟨s2, s3, s4, s5, s6, s7, s8, s9, s10, s11, s12, rfl, hm1, hm2⟩ := h
    walk_at "vs"
    exact q
end VL

set_option Elab.async false
set_option linter.all false
set_option maxRecDepth 100000
set_option maxHeartbeats 4000000
namespace VL
open PySem PySem.Spec PyProof.Rows L2
local macro_rules
  | `(tactic| walk_at "vs") => `(tactic| try simp only [wSeq, wNx, wNever, wSet, wDrop, wRet, wRetV, wRetN, wIf, wAsg, wPar, wPar3, wBnil, wBcons, wGname, wGtup, wGcons, wGnil, wFor, wFz, wSh, wVar, wC, wOe, wOv, wOnil, wOcons, wXL, wX2, wX2T, wX1, wTst, wAnd, wOr, wNot, wAndV, wOrV, wUn, dNot, wIfE, wIfD, wNil, wCons, wTup, wTupF, wRaise, wTry, wLst,
  wItK, wItF, wLc, wDc, wipeE, wYes, wCall, wCallB2, wThawL, wMeth, wMake, wFldO, wGet1, wGet2, wVals, wM, wMO, wSub, wDnK, wDnT, wStar, wDspK, wDspT, wSl, wSl3, wPnone, wPsome, wSetS, wSrtM, wSrc, wSrcLen, wSrcPop, wSrcSet, wSrcNew, liftC, liftCI, wPs, gAdd, gSub, gLt, gLe, gGt, gGe, gNeg, gRng, gLen, gInt, gList, gTuple, gIs, gIsN, isNon, anyD,
  startE, List.map_cons, List.map_nil, List.length_cons, List.length_nil, Nat.reduceAdd, Nat.reduceSub, List.replicate_succ, List.replicate_zero, List.cons_append, List.nil_append, List.getElem?_cons_zero, List.getElem?_cons_succ, List.getElem?_nil, List.set_cons_zero, List.set_cons_succ, List.set_nil,
  rs, rss, slD, R.d, R.sl, oL, ob, oD, owD, isLO, tR, Option.bind_some, Option.isSome_some, true_and, and_true, if_true, if_false, Bool.false_eq_true, Bool.not_true, Bool.not_false, ite_true, ite_false, reduceIte, reduceCtorEq])
theorem dpLen {l : List Pn} : ∀ (r : List Pn) (m : DpL), (r.foldl dpStep m).length ≤ 2 ^ r.length * m.length
  | [], m => by simp
  | x :: r, m => by
    have two : ∀ (q : DpL) (a : DpL), (q.foldl (fun later e => [0, 1].foldl (dpOne x e) later) a).length ≤ a.length + 2 * q.length := by
      intro q
      induction q with
      | nil => intro a; simp
      | cons e q ih =>
        intro a
        rw [List.foldl_cons]
        have h1 := ih ([0, 1].foldl (dpOne x e) a)
        have h2 := dpTwo_len x e a
        rw [List.length_cons]
        omega
    have h1 := dpLen (l := l) r (dpStep m x)
    have h2 : (dpStep m x).length ≤ 2 * m.length := by
      have := two m []
      unfold dpStep
      simpa using this
    rw [List.foldl_cons, List.length_cons, Nat.pow_succ]
    refine Nat.le_trans h1 ?_
    rw [Nat.mul_assoc]
    exact Nat.mul_le_mul_left _ h2
theorem dpAll_len {l : List Pn} (h : l.length ≤ 12) : (dpAll l).length ≤ 4096 := by
  unfold dpAll
  refine Nat.le_trans (dpLen (l := l) _ _) ?_
  have e : (lineL l).length = l.length := (List.mergeSort_perm l _).length_eq
  rw [e]
  have := Nat.pow_le_pow_right (n := 2) (by decide) h
  simp
  omega
theorem h_places_by_voices (C : CS) : ∀ ds (Q : R → Prop) (E : Xn → Prop), c_places_by_voices C ds Q E → bodyC N_places_by_voices 1 (w_places_by_voices C) ds () (fun r _ => Q r) fun x _ => E x := by
  rintro ds Q E ⟨l, rfl, hg, hz, q⟩
  refine ⟨rfl, ?_⟩
  unfold w_places_by_voices
  walk_at "vs"
  refine ⟨l, rfl, hg, hz, ?_⟩
  walk_at "vs"
  have e1 : ((dpMap (dpAll l)).map fun p => D.tup (p.1.map keyD)) = (dpAll l).map fun e => .tup [.int e.1.1, .int e.1.2] := by
    unfold dpMap
    rw [List.map_map]
    rfl
  rw [e1]
  refine lc_list (dpAll l) (fun e => e.1.2 == 1) (fun e => .int e.1.1) (fits (by have := dpAll_len hz; omega)) (fun e he acc K ha hk => ?_) ?_
  · walk_at "vs"
    refine eq_ints ?_
    walk_at "vs"
    by_cases h : e.1.2 = 1
    · rw [if_pos (by simpa using h)] at hk
      rw [decide_eq_true h]
      walk_at "vs"
      exact ⟨ha, hk⟩
    · rw [if_neg (by simpa using h)] at hk
      rw [decide_eq_false h]
      walk_at "vs"
      exact hk
  · walk_at "vs"
    simp only [gSorted]
    exact ⟨((dpAll l).filter fun e => e.1.2 == 1).map (·.1.1), by unfold intsD; rw [List.map_map]; rfl, q⟩
theorem h_wished_voices (C : CS) : ∀ ds (Q : R → Prop) (E : Xn → Prop), c_wished_voices C ds Q E → bodyC N_wished_voices 2 (w_wished_voices C) ds () (fun r _ => Q r) fun x _ => E x := by
  rintro ds Q E ⟨l, z, rfl, hg, hz, q⟩
  refine ⟨rfl, ?_⟩
  unfold w_wished_voices
  walk_at "vs"
  refine ⟨l, rfl, hg, hz, ?_⟩
  walk_at "vs"
  refine ⟨rfl, by rw [sizeLine_eq]; decide, ?_⟩
  simp only [getDk, toKs, toK]
  have h1 := dp_val (dpAll l) (z, 1)
  unfold dpK at h1
  rw [h1]
  cases hv : valD (dpAll l) (z, 1) with
  | none =>
    rw [hv] at q
    walk_at "vs"
    exact q
  | some ns =>
    rw [hv] at q
    walk_at "vs"
    exact ⟨by rw [sizeLine_eq]; decide, q⟩
end VL

set_option Elab.async false
set_option linter.all false
set_option maxRecDepth 100000
set_option maxHeartbeats 4000000
namespace VL
open PySem PySem.Spec PyProof.Rows L2
local macro_rules
  | `(tactic| walk_at "vs") => `(tactic| try simp only [wSeq, wNx, wNever, wSet, wDrop, wRet, wRetV, wRetN, wIf, wAsg, wPar, wPar3, wBnil, wBcons, wGname, wGtup, wGcons, wGnil, wFor, wFz, wSh, wVar, wC, wOe, wOv, wOnil, wOcons, wXL, wX2, wX2T, wX1, wTst, wAnd, wOr, wNot, wAndV, wOrV, wUn, dNot, wIfE, wIfD, wNil, wCons, wTup, wTupF, wRaise, wTry, wLst,
  wItK, wItF, wLc, wDc, wipeE, wYes, wCall, wCallB2, wThawL, wMeth, wMake, wFldO, wGet1, wGet2, wVals, wM, wMO, wSub, wDnK, wDnT, wStar, wDspK, wDspT, wSl, wSl3, wPnone, wPsome, wSetS, wSrtM, wSrc, wSrcLen, wSrcPop, wSrcSet, wSrcNew, liftC, liftCI, wPs, gAdd, gSub, gLt, gLe, gGt, gGe, gNeg, gRng, gLen, gInt, gList, gTuple, gIs, gIsN, isNon, anyD,
  startE, List.map_cons, List.map_nil, List.length_cons, List.length_nil, Nat.reduceAdd, Nat.reduceSub, List.replicate_succ, List.replicate_zero, List.cons_append, List.nil_append, List.getElem?_cons_zero, List.getElem?_cons_succ, List.getElem?_nil, List.set_cons_zero, List.set_cons_succ, List.set_nil,
  rs, rss, slD, R.d, R.sl, oL, ob, oD, owD, isLO, tR, Option.bind_some, Option.isSome_some, true_and, and_true, if_true, if_false, Bool.false_eq_true, Bool.not_true, Bool.not_false, ite_true, ite_false, reduceIte, reduceCtorEq])
/-! every other member -/
def evs : List Int → List Int
  | [] => []
  | [a] => [a]
  | a :: _ :: r => a :: evs r
theorem evs_cons (a : Int) (r : List Int) : evs (a :: r) = a :: evs r.tail := by
  cases r with
  | nil => rfl
  | cons b r => rfl
theorem evs_alt : ∀ xs : List Int, (evs xs).sum - (evs xs.tail).sum = altS xs
  | [] => rfl
  | a :: r => by
    have ih := evs_alt r
    rw [evs_cons, List.sum_cons, List.tail_cons]
    unfold altS
    omega
theorem evs_pick : ∀ xs : List Int, ((List.range ((xs.length + 1) / 2)).map (2 * ·)).filterMap (xs[·]?) = evs xs
  | [] => rfl
  | [a] => by simp [evs, List.range_succ]
  | a :: b :: r => by
    have ih := evs_pick r
    have e : ((a :: b :: r).length + 1) / 2 = (r.length + 1) / 2 + 1 := by simp only [List.length_cons]; omega
    rw [e, List.range_succ_eq_map, List.map_cons, List.map_map, List.filterMap_cons]
    show a :: _ = a :: evs r
    congr 1
    rw [← ih, List.filterMap_map, List.filterMap_map]
    congr 1
theorem pick_even (xs : List Int) : pkV xs none none (some 2) = evs xs := by
  rw [← evs_pick]
  unfold pkV
  congr 1
  show sliceRange 0 xs.length 2 = _
  unfold sliceRange
  by_cases h : xs.length = 0
  · rw [h]; rfl
  · have h1 : (0 : Int) < xs.length := by omega
    simp only [show (2 : Int) > 0 by decide, if_true, h1]
    have e : (((xs.length : Int) - 0 + 2 - 1) / 2).toNat = (xs.length + 1) / 2 := by omega
    rw [e]
    apply List.map_congr_left
    intro k _
    omega
theorem pick_odd (xs : List Int) : pkV xs (some 1) none (some 2) = evs xs.tail := by
  rw [← evs_pick]
  unfold pkV
  cases xs with
  | nil => rfl
  | cons a r =>
    have e1 : sliceBounds (some 1) none (some 2) (a :: r).length = ((1 : Int), (((a :: r).length : Nat) : Int), (2 : Int)) := by
      unfold sliceBounds
      simp only [Option.getD_some, show (2 : Int) > 0 by decide, if_true, show ¬ (1 : Int) < 0 by decide, if_false, List.length_cons]
      congr 1
      omega
    rw [e1]
    have e2 : sliceRange 1 ((a :: r).length : Nat) 2 = ((List.range ((r.length + 1) / 2)).map (2 * ·)).map (· + 1) := by
      unfold sliceRange
      rw [List.map_map]
      by_cases h : r.length = 0
      · rw [List.length_cons, h]; rfl
      · have h1 : (1 : Int) < ((a :: r).length : Nat) := by rw [List.length_cons]; omega
        simp only [show (2 : Int) > 0 by decide, if_true, h1]
        have e : ((((a :: r).length : Nat) : Int) - 1 + 2 - 1) / 2 = (((r.length + 1) / 2 : Nat) : Int) := by rw [List.length_cons]; omega
        rw [e, Int.toNat_natCast]
        apply List.map_congr_left
        intro k _
        show (1 + 2 * (k : Int)).toNat = 2 * k + 1
        omega
    rw [e2, List.filterMap_map]
    rfl
theorem subs_len (l : List Str) : ∀ (r : List Str) (ls : List (List Str)), (r.foldl (fun ls n => ls ++ ls.map fun s => s ++ [n]) ls).length = 2 ^ r.length * ls.length
  | [], ls => by simp
  | n :: r, ls => by
    rw [List.foldl_cons, subs_len l r, List.length_append, List.length_map, List.length_cons, Nat.pow_succ, Nat.mul_assoc]
    congr 1
    omega
theorem subs_small : ∀ (r : List Str) (ls : List (List Str)) (k : Nat), (∀ s ∈ ls, s.length ≤ k) → ∀ s ∈ r.foldl (fun ls n => ls ++ ls.map fun s => s ++ [n]) ls, s.length ≤ k + r.length
  | [], ls, k, h, s, hs => h s hs
  | n :: r, ls, k, h, s, hs => by
    have := subs_small r (ls ++ ls.map fun s => s ++ [n]) (k + 1) (fun s hs => by
      rcases List.mem_append.mp hs with hs | hs
      · have := h s hs; omega
      · obtain ⟨z, hz, rfl⟩ := List.mem_map.mp hs
        have := h z hz
        rw [List.length_append, List.length_singleton]; omega) s hs
    rw [List.length_cons]
    omega
theorem subsL_snoc (l : List Str) (n : Str) : subsL (l ++ [n]) = subsL l ++ (subsL l).map fun s => s ++ [n] := by
  unfold subsL
  rw [List.foldl_append]
  rfl
theorem subsL_len (l : List Str) : (subsL l).length = 2 ^ l.length := by
  unfold subsL
  rw [subs_len l]
  simp
theorem subsL_small {l s : List Str} (h : s ∈ subsL l) : s.length ≤ l.length := by
  have := subs_small l [[]] 0 (fun s hs => by rw [List.mem_singleton.mp hs]; simp) s h
  omega
theorem h__law_fewest (C : CS) : ∀ ds (Q : R → Prop) (E : Xn → Prop), c__law_fewest C ds Q E → bodyC N__law_fewest 1 (w__law_fewest C) ds () (fun r _ => Q r) fun x _ => E x := by
  rintro ds Q E ⟨l, rfl, hg, hz, q⟩
  refine ⟨rfl, ?_⟩
  unfold w__law_fewest
  walk_at "vs"
  refine get_people ?_
  walk_at "vs"
  refine lc_list l (fun _ => true) (fun x => .str x.n) (fits (by omega)) (fun x hx acc K ha hk => ?_) ?_
  · walk_at "vs"
    unfold pD
    refine ix_tup 0 rfl ?_
    walk_at "vs"
    exact ⟨ha, hk⟩
  rw [List.filter_eq_self.mpr fun _ _ => rfl]
  walk_at "vs"
  refine ⟨by rw [sizeLine_eq]; omega, by rw [sizeLine_eq]; omega, ?_⟩
  have en : (l.map fun x => D.str x.n) = (l.map (·.n)).map D.str := by rw [List.map_map]; rfl
  rw [en]
  refine forL_list (l.map (·.n)) (fun done e t => ∃ s3 s4 s5, e = [.sh (woD C l), .ow (.dk []), .sh (.lst ((l.map (·.n)).map D.str)), s3, s4, s5, .un, .un, .un, .un, .un, .un] ∧ s3 = .ow (.lst ((subsL done).map fun s => .lst (strsD s)))) (fun done n todo K e t hl hK h => ?_) (fun e t h => ?_) ⟨_, _, _, rfl, rfl⟩
  · obtain ⟨s3, s4, s5, rfl, rfl⟩ := h
    have hdl : done.length ≤ 11 := by
      have := congrArg List.length hl
      simp at this
      omega
    have hsl : (subsL done).length ≤ 2048 := by
      rw [subsL_len]
      exact Nat.le_trans (Nat.pow_le_pow_right (n := 2) (by decide) hdl) (by decide)
    walk_at "vs"
    refine lc_listW (subsL done) (fun _ => true) (fun s => .lst (strsD (s ++ [n]))) (fits (by omega)) (fun s hs acc K2 ha hk => ?_) fun e he => ?_
    · have h1 := subsL_small hs
      walk_at "vs"
      refine ⟨by rw [sizeLine_eq]; omega, ?_⟩
      refine ⟨by rw [lsD, sizeLine_eq]; omega, ?_⟩
      have e5 : strsD s ++ [D.str n] = strsD (s ++ [n]) := by unfold strsD; rw [List.map_append]; rfl
      rw [e5]
      exact ⟨ha, hk⟩
    · rw [List.filter_eq_self.mpr fun _ _ => rfl]
      have e6 : ((subsL done).map fun s => D.lst (strsD s)) ++ (subsL done).map (fun s => D.lst (strsD (s ++ [n]))) = (subsL (done ++ [n])).map fun s => .lst (strsD s) := by
        rw [subsL_snoc, List.map_append, List.map_map]
        rfl
      have hz2 : ((subsL done).map fun s => D.lst (strsD s)).length + ((subsL done).map fun s => D.lst (strsD (s ++ [n]))).length ≤ sizeLine := by
        rw [List.length_map, List.length_map, sizeLine_eq]; omega
      rcases he with rfl | rfl
      · walk_at "vs"
        rw [e6]
        exact ⟨hz2, hK _ _ ⟨_, _, _, rfl, rfl⟩⟩
      · walk_at "vs"
        rw [e6]
        exact ⟨hz2, hK _ _ ⟨_, _, _, rfl, rfl⟩⟩
  · obtain ⟨s3, s4, s5, rfl, rfl⟩ := h
    have hsl : (subsL (l.map (·.n))).length ≤ 4096 := by
      rw [subsL_len, List.length_map]
      exact Nat.le_trans (Nat.pow_le_pow_right (n := 2) (by decide) hz) (by decide)
    walk_at "vs"
    refine forL_list (subsL (l.map (·.n))) (fun done e t => ∃ s4 s5 s6 s7 s8 s9 s10 s11, e = [.sh (woD C l), .ow (.dk ((done.foldl (fewOne l) []).map fun e => (e.1, .int e.2))), .sh (.lst ((l.map (·.n)).map D.str)), .sh (.lst ((subsL (l.map (·.n))).map fun s => .lst (strsD s))), s4, s5, s6, s7, s8, s9, s10, s11] ∧ (done.foldl (fewOne l) []).length ≤ done.length) (fun done s todo K e t hl hK h => ?_) (fun e t h => ?_) ⟨_, _, _, _, _, _, _, _, rfl, by simp⟩
    · obtain ⟨s4, s5, s6, s7, s8, s9, s10, s11, rfl, hml⟩ := h
      generalize hm : done.foldl (fewOne l) [] = m at hml ⊢
      have hdl : done.length < 4096 := by
        have := congrArg List.length hl
        rw [List.length_append, List.length_cons] at this
        omega
      have hs : s.length ≤ 12 := by
        have := subsL_small (l := l.map (·.n)) (s := s) (by rw [hl]; simp)
        rw [List.length_map] at this
        omega
      have fin3 : ∀ s4 s5 s6 s7 s8 s9 s10 s11, K [.sh (woD C l), .ow (.dk ((fewOne l m s).map fun e => (e.1, .int e.2))), .sh (.lst ((l.map (·.n)).map D.str)), .sh (.lst ((subsL (l.map (·.n))).map fun s => .lst (strsD s))), s4, s5, s6, s7, s8, s9, s10, s11] t := fun s4 s5 s6 s7 s8 s9 s10 s11 => by
        refine hK _ _ ⟨s4, s5, s6, s7, s8, s9, s10, s11, ?_, ?_⟩
        · rw [List.foldl_append, hm]; rfl
        · rw [List.foldl_append, hm, List.length_append, List.length_singleton]
          show (fewOne l m s).length ≤ _
          unfold fewOne
          dsimp only
          split
          · exact Nat.le_trans putD_len (by omega)
          · omega
      walk_at "vs"
      refine get_people ?_
      walk_at "vs"
      refine lc_listW l (fun _ => true) (fun x => .tup [.int x.p, .int (turnV s x).v]) (fits (by omega)) (fun x hx acc K2 ha hk => ?_) fun e he => ?_
      · walk_at "vs"
        unfold pD
        walk_at "vs"
        refine in_strs ?_
        walk_at "vs"
        unfold turnV at hk
        by_cases h : x.n ∈ s
        · rw [if_pos h] at hk
          rw [decide_eq_true h]
          walk_at "vs"
          exact ⟨by rw [sizeLine_eq]; decide, ha, hk⟩
        · rw [if_neg h] at hk
          rw [decide_eq_false h]
          walk_at "vs"
          exact ⟨by rw [sizeLine_eq]; decide, ha, hk⟩
      · rw [List.filter_eq_self.mpr fun _ _ => rfl]
        have he2 : ∃ s4 s10 s11, e = [.sh (woD C l), .ow (.dk (m.map fun e => (e.1, .int e.2))), .sh (.lst ((l.map (·.n)).map D.str)), .sh (.lst ((subsL (l.map (·.n))).map fun s => .lst (strsD s))), s4, .sh (.lst (strsD s)), s6, s7, s8, s9, s10, s11] := by
          rcases he with rfl | rfl
          · exact ⟨_, _, _, rfl⟩
          · exact ⟨_, _, _, rfl⟩
        obtain ⟨s4, s10, s11, rfl⟩ := he2
        clear he
        walk_at "vs"
        refine lc_listW l (fun x => (turnV s x).v == 1) (fun x => .int x.p) (fits (by omega)) (fun x hx acc K2 ha hk => ?_) fun e he => ?_
        · walk_at "vs"
          refine eq_ints ?_
          walk_at "vs"
          by_cases h : (turnV s x).v = 1
          · rw [if_pos (by simpa using h)] at hk
            rw [decide_eq_true h]
            walk_at "vs"
            exact ⟨ha, hk⟩
          · rw [if_neg (by simpa using h)] at hk
            rw [decide_eq_false h]
            walk_at "vs"
            exact hk
        · have he2 : ∃ s10 s11, e = [.sh (woD C l), .ow (.dk (m.map fun e => (e.1, .int e.2))), .sh (.lst ((l.map (·.n)).map D.str)), .sh (.lst ((subsL (l.map (·.n))).map fun s => .lst (strsD s))), s4, .sh (.lst (strsD s)), .sh (.lst (l.map fun x => .tup [.int x.p, .int (turnV s x).v])), s7, s8, s9, s10, s11] := by
            rcases he with rfl | rfl
            · exact ⟨_, _, rfl⟩
            · exact ⟨_, _, rfl⟩
          obtain ⟨s10, s11, rfl⟩ := he2
          clear he
          walk_at "vs"
          simp only [gSorted]
          have ep : ((l.filter fun x => (turnV s x).v == 1).map fun x => D.int x.p) = intsD (((l.map (turnV s)).filter fun x => x.v == 1).map (·.p)) := by
            unfold intsD
            rw [List.filter_map, List.map_map, List.map_map]
            apply List.map_congr_left
            intro x _
            show D.int x.p = D.int (turnV s x).p
            unfold turnV
            split <;> rfl
          refine ⟨_, ep, ?_⟩
          walk_at "vs"
          have hp : srtI (((l.map (turnV s)).filter fun x => x.v == 1).map (·.p)) = placesV (l.map (turnV s)) := rfl
          rw [hp]
          have hps0 : (placesV (l.map (turnV s))).length ≤ 12 := by
            unfold placesV srtI
            rw [List.length_mergeSort, List.length_map]
            exact Nat.le_trans (List.length_filter_le _ _) (by rw [List.length_map]; exact hz)
          have hone : fewOne l m s = (if (placesV (l.map (turnV s))).length % 2 = 1 then putD m (.inl (altS (placesV (l.map (turnV s))))) (min ((valD m (.inl (altS (placesV (l.map (turnV s)))))).getD l.length) s.length) else m) := rfl
          generalize placesV (l.map (turnV s)) = ps at hps0 hone ⊢
          have il : (intsD ps).length = ps.length := by unfold intsD; rw [List.length_map]
          try simp only [gMod]
          refine ⟨by decide, eq_ints ?_⟩
          rw [il]
          walk_at "vs"
          by_cases ho : ps.length % 2 = 1
          · have ho2 : ((ps.length : Nat) : Int) % 2 = 1 := by omega
            rw [decide_eq_true ho2]
            walk_at "vs"
            simp only [gSl3]
            rw [pkV_ints, pkV_ints]
            refine ⟨by decide, by unfold intsD; rw [List.length_map]; exact fits (Nat.le_trans pkV_le (by omega)), ?_⟩
            walk_at "vs"
            simp only [gSum]
            refine ⟨_, rfl, ?_⟩
            walk_at "vs"
            refine ⟨by decide, by unfold intsD; rw [List.length_map]; exact fits (Nat.le_trans pkV_le (by omega)), ?_⟩
            refine ⟨_, rfl, ?_⟩
            walk_at "vs"
            rw [pick_even, pick_odd, evs_alt]
            refine ⟨rfl, ?_⟩
            simp only [getDk, toK]
            have hv := valD_mapX (id : Key → Key) (fun _ _ h => h) (fun z : Int => D.int z) m (.inl (altS ps))
            have hv2 : valD (m.map fun e => (e.1, D.int e.2)) (.inl (altS ps)) = (valD m (.inl (altS ps))).map D.int := hv
            rw [hv2]
            have hg2 : ((valD m (.inl (altS ps))).map D.int).getD (.int (((l.map (·.n)).map D.str).length : Nat)) = .int ((valD m (.inl (altS ps))).getD (l.length : Nat)) := by
              rw [List.length_map, List.length_map]
              cases valD m (.inl (altS ps)) <;> rfl
            rw [hg2, lsD]
            simp only [gMin]
            walk_at "vs"
            simp only [gPut, toK]
            have hput := putD_mapX (id : Key → Key) (fun _ _ h => h) (fun z : Int => D.int z) m (.inl (altS ps)) (min ((valD m (.inl (altS ps))).getD (l.length : Nat)) (s.length : Nat))
            have hput2 : putD (m.map fun e => (e.1, D.int e.2)) (.inl (altS ps)) (.int (min ((valD m (.inl (altS ps))).getD (l.length : Nat)) (s.length : Nat))) = (putD m (.inl (altS ps)) (min ((valD m (.inl (altS ps))).getD (l.length : Nat)) (s.length : Nat))).map fun e => (e.1, D.int e.2) := hput
            rw [hput2]
            refine ⟨by rw [List.length_map]; exact fits' (by omega), ?_⟩
            rw [if_pos ho] at hone
            rw [← hone]
            exact fin3 _ _ _ _ _ _ _ _
          · have ho2 : ¬ ((ps.length : Nat) : Int) % 2 = 1 := by omega
            rw [decide_eq_false ho2]
            walk_at "vs"
            rw [if_neg ho] at hone
            rw [hone] at fin3
            exact fin3 _ _ _ _ _ _ _ _
    · obtain ⟨s4, s5, s6, s7, s8, s9, s10, s11, rfl, hml⟩ := h
      walk_at "vs"
      exact q
end VL

set_option Elab.async false
set_option linter.all false
namespace VL
open PySem PySem.Spec PyProof.Rows L2
end VL

set_option Elab.async false
set_option linter.all false
set_option maxRecDepth 100000
set_option maxHeartbeats 4000000
namespace VL
open PySem PySem.Spec PyProof.Rows L2
local macro_rules
  | `(tactic| walk_at "vs") => `(tactic| try simp only [wSeq, wNx, wNever, wSet, wDrop, wRet, wRetV, wRetN, wIf, wAsg, wPar, wPar3, wBnil, wBcons, wGname, wGtup, wGcons, wGnil, wFor, wFz, wSh, wVar, wC, wOe, wOv, wOnil, wOcons, wXL, wX2, wX2T, wX1, wTst, wAnd, wOr, wNot, wAndV, wOrV, wUn, dNot, wIfE, wIfD, wNil, wCons, wTup, wTupF, wRaise, wTry, wLst,
  wItK, wItF, wLc, wDc, wipeE, wYes, wCall, wCallB2, wThawL, wMeth, wMake, wFldO, wGet1, wGet2, wVals, wM, wMO, wSub, wDnK, wDnT, wStar, wDspK, wDspT, wSl, wSl3, wPnone, wPsome, wSetS, wSrtM, wSrc, wSrcLen, wSrcPop, wSrcSet, wSrcNew, liftC, liftCI, wPs, gAdd, gSub, gLt, gLe, gGt, gGe, gNeg, gRng, gLen, gInt, gList, gTuple, gIs, gIsN, isNon, anyD,
  startE, List.map_cons, List.map_nil, List.length_cons, List.length_nil, Nat.reduceAdd, Nat.reduceSub, List.replicate_succ, List.replicate_zero, List.cons_append, List.nil_append, List.getElem?_cons_zero, List.getElem?_cons_succ, List.getElem?_nil, List.set_cons_zero, List.set_cons_succ, List.set_nil,
  rs, rss, slD, R.d, R.sl, oL, ob, oD, owD, isLO, tR, Option.bind_some, Option.isSome_some, true_and, and_true, if_true, if_false, Bool.false_eq_true, Bool.not_true, Bool.not_false, ite_true, ite_false, reduceIte, reduceCtorEq])
local macro_rules
  | `(tactic| walk_at "vd") => `(tactic| simp (decide := true) only [ne_eq, decide_true, decide_false, Int.cast_ofNat_Int, not_true_eq_false, not_false_eq_true, Bool.not_true, Bool.not_false, if_true, if_false, ite_true, ite_false, reduceIte, reduceCtorEq, Bool.false_eq_true])
local macro_rules
  | `(tactic| walk_at "vx") => `(tactic| first | refine VL.ix_tup 0 rfl ?_ | refine VL.ix_tup 1 rfl ?_ | refine VL.ix_tup 2 rfl ?_ | refine VL.ix_tup 3 rfl ?_)
theorem ne_ints {i j : Int} {k : R → Prop} (h : k (.sh (.bl (decide (i ≠ j))))) : gNe (.int i) (.int j) k := ⟨.inl rfl, by
  have e : (!eqD (.int i) (.int j)) = decide (i ≠ j) := by unfold eqD; by_cases h : i = j <;> simp [h]
  rw [e]; exact h⟩
theorem eq_str {x y : Str} {k : R → Prop} (h : k (.sh (.bl (decide (x = y))))) : gEq (.str x) (.str y) k := ⟨.inl rfl, by
  have e : eqD (.str x) (.str y) = decide (x = y) := by unfold eqD; by_cases h : x = y <;> simp [h]
  rw [e]; exact h⟩
theorem ne_str {x y : Str} {k : R → Prop} (h : k (.sh (.bl (decide (x ≠ y))))) : gNe (.str x) (.str y) k := ⟨.inl rfl, by
  have e : (!eqD (.str x) (.str y)) = decide (x ≠ y) := by unfold eqD; by_cases h : x = y <;> simp [h]
  rw [e]; exact h⟩
theorem eq_bl {x y : Bool} {k : R → Prop} (h : k (.sh (.bl (x == y)))) : gEq (.bl x) (.bl y) k := ⟨.inl rfl, by
  have e : eqD (.bl x) (.bl y) = (x == y) := by unfold eqD; rfl
  rw [e]; exact h⟩
theorem ne_bl {x y : Bool} {k : R → Prop} (h : k (.sh (.bl (x != y)))) : gNe (.bl x) (.bl y) k := ⟨.inl rfl, by
  have e : (!eqD (.bl x) (.bl y)) = (x != y) := by unfold eqD; rfl
  rw [e]; exact h⟩
theorem inD_lits (n : Str) (ns : List Str) : inD (.str n) (ns.map .str) = decide (n ∈ ns) := inD_strs n ns
theorem in_lst_strs {n : Str} {l : List D} (ns : List Str) {k : R → Prop} (e : l = ns.map .str) (h : k (.sh (.bl (decide (n ∈ ns))))) : gIn (.str n) (.lst l) k := by subst e; exact in_strs h
theorem in_tup_strs {n : Str} {l : List D} (ns : List Str) {k : R → Prop} (e : l = ns.map .str) (h : k (.sh (.bl (decide (n ∈ ns))))) : gIn (.str n) (.tup l) k := by
  subst e
  simp only [gIn, gInB]
  refine ⟨⟨rfl, by rw [List.all_map, List.all_eq_true]; intro _ _; rfl⟩, ?_⟩
  rw [inD_lits]; exact h
theorem notin_lst_strs {n : Str} {l : List D} (ns : List Str) {k : R → Prop} (e : l = ns.map .str) (h : k (.sh (.bl (!decide (n ∈ ns))))) : gNotIn (.str n) (.lst l) k := by
  subst e
  simp only [gNotIn, gInB]
  refine ⟨.inl ⟨rfl, by rw [List.all_map, List.all_eq_true]; intro _ _; rfl⟩, ?_⟩
  rw [inD_lits]; exact h
theorem notin_tup_strs {n : Str} {l : List D} (ns : List Str) {k : R → Prop} (e : l = ns.map .str) (h : k (.sh (.bl (!decide (n ∈ ns))))) : gNotIn (.str n) (.tup l) k := by
  subst e
  simp only [gNotIn, gInB]
  refine ⟨⟨rfl, by rw [List.all_map, List.all_eq_true]; intro _ _; rfl⟩, ?_⟩
  rw [inD_lits]; exact h
theorem h_Standing_people (C : CS) : ∀ ds (Q : R → Prop) (E : Xn → Prop), c_Standing_people C ds Q E → bodyC N_Standing_people 1 (w_Standing_people C) ds () (fun r _ => Q r) fun x _ => E x := by
  rintro ds Q E ⟨l, rfl, hg, q⟩
  refine ⟨rfl, ?_⟩
  unfold w_Standing_people
  walk_at "vs"
  unfold stD
  walk_at "vs"
  rw [rd_st]
  walk_at "vs"
  simp only [gVals]
  rw [List.map_map]
  exact q
theorem h_Standing_voices (C : CS) : ∀ ds (Q : R → Prop) (E : Xn → Prop), c_Standing_voices C ds Q E → bodyC N_Standing_voices 1 (w_Standing_voices C) ds () (fun r _ => Q r) fun x _ => E x := by
  rintro ds Q E ⟨l, rfl, hg, q⟩
  refine ⟨rfl, ?_⟩
  unfold w_Standing_voices
  walk_at "vs"
  unfold stD
  walk_at "vs"
  refine ⟨rfl, l, rfl, hg, ?_⟩
  walk_at "vs"
  refine lc_list l (fun _ => true) (fun x => .int x.v) (fits (by have := hg.sz; omega)) (fun x hx acc K ha hk => ?_) ?_
  · unfold pD
    walk_at "vs"
    exact ⟨ha, hk⟩
  · rw [List.filter_eq_self.mpr fun _ _ => rfl]
    walk_at "vs"
    exact ⟨l.map (·.v), by simp [intsD, Function.comp_def], q⟩
theorem h_voice_places (C : CS) : ∀ ds (Q : R → Prop) (E : Xn → Prop), c_voice_places C ds Q E → bodyC N_voice_places 1 (w_voice_places C) ds () (fun r _ => Q r) fun x _ => E x := by
  rintro ds Q E ⟨l, rfl, hg, q⟩
  refine ⟨rfl, ?_⟩
  unfold w_voice_places
  walk_at "vs"
  unfold stD
  walk_at "vs"
  refine ⟨rfl, l, rfl, hg, ?_⟩
  walk_at "vs"
  refine lc_list l (fun x => x.v == 1) (fun x => .int x.p) (fits (by have := hg.sz; omega)) (fun x hx acc K ha hk => ?_) ?_
  · unfold pD
    walk_at "vs"
    refine eq_ints ?_
    walk_at "vs"
    by_cases h : x.v = 1
    · rw [if_pos (by simpa using h)] at hk
      rw [decide_eq_true h]
      walk_at "vs"
      exact ⟨ha, hk⟩
    · rw [if_neg (by simpa using h)] at hk
      rw [decide_eq_false h]
      walk_at "vs"
      exact hk
  · walk_at "vs"
    refine ⟨(l.filter fun x => x.v == 1).map (·.p), by simp [intsD, Function.comp_def], ?_⟩
    exact q
theorem placesV_len (l : List Pn) : (placesV l).length ≤ l.length := by
  unfold placesV srtI
  rw [List.length_mergeSort, List.length_map]
  exact List.length_filter_le _ _
theorem h_turn_sum (C : CS) : ∀ ds (Q : R → Prop) (E : Xn → Prop), c_turn_sum C ds Q E → bodyC N_turn_sum 1 (w_turn_sum C) ds () (fun r _ => Q r) fun x _ => E x := by
  rintro ds Q E ⟨l, rfl, hg, q⟩
  have hps := Nat.le_trans (placesV_len l) hg.sz
  refine ⟨rfl, ?_⟩
  unfold w_turn_sum
  walk_at "vs"
  refine ⟨l, rfl, hg, ?_⟩
  walk_at "vs"
  simp only [gSl3]
  rw [pkV_ints, pkV_ints]
  refine ⟨by decide, by unfold intsD; rw [List.length_map]; exact fits (Nat.le_trans pkV_le (by omega)), ?_⟩
  walk_at "vs"
  simp only [gSum]
  refine ⟨_, rfl, ?_⟩
  walk_at "vs"
  refine ⟨by decide, by unfold intsD; rw [List.length_map]; exact fits (Nat.le_trans pkV_le (by omega)), ?_⟩
  refine ⟨_, rfl, ?_⟩
  walk_at "vs"
  rw [pick_even, pick_odd, evs_alt]
  exact q
theorem h__law_is_whole (C : CS) : ∀ ds (Q : R → Prop) (E : Xn → Prop), c__law_is_whole C ds Q E → bodyC N__law_is_whole 1 (w__law_is_whole C) ds () (fun r _ => Q r) fun x _ => E x := by
  rintro ds Q E ⟨i, rfl, q⟩
  refine ⟨rfl, ?_⟩
  unfold w__law_is_whole
  walk_at "vs"
  refine isi_mk (t := "int") rfl (by decide) (b := true) (by decide) ?_
  walk_at "vs"
  refine isi_mk (t := "int") rfl (by decide) (b := false) (by decide) ?_
  walk_at "vs"
  exact q
theorem h_is_row_wishes (C : CS) : ∀ ds (Q : R → Prop) (E : Xn → Prop), c_is_row_wishes C ds Q E → bodyC N_is_row_wishes 1 (w_is_row_wishes C) ds () (fun r _ => Q r) fun x _ => E x := by
  rintro ds Q E ⟨r, rfl, hr, q⟩
  refine ⟨rfl, ?_⟩
  unfold w_is_row_wishes rowD
  walk_at "vs"
  refine isi_mk (t := "tuple") rfl (by decide) (b := true) (by decide) ?_
  walk_at "vs"
  refine eq_ints ?_
  walk_at "vs"
  refine ix_tup 1 rfl ?_
  walk_at "vs"
  refine ⟨_, rfl, ?_⟩
  walk_at "vs"
  refine ix_tup 1 rfl ?_
  walk_at "vs"
  refine ⟨.inl rfl, ?_⟩
  have e : eqD (.int r.2) (.int 0) = false := by unfold eqD; simpa using hr
  rw [e]
  exact q
theorem h_has_form (C : CS) : ∀ ds (Q : R → Prop) (E : Xn → Prop), c_has_form C ds Q E → bodyC N_has_form 1 (w_has_form C) ds () (fun r _ => Q r) fun x _ => E x := by
  rintro ds Q E ⟨(⟨ns, rfl⟩ | ⟨rows, rfl, hz, hnz⟩), q⟩
  all_goals
    refine ⟨rfl, ?_⟩
    unfold w_has_form
  · unfold vpD
    walk_at "vs"
    refine isi_mk (t := "tuple") rfl (by decide) (b := true) (by decide) ?_
    walk_at "vs"
    refine ne_ints ?_
    walk_at "vs"
    walk_at "vd"
    walk_at "vx"
    walk_at "vs"
    refine isi_mk (t := "tuple") rfl (by decide) (b := true) (by decide) ?_
    walk_at "vs"
    walk_at "vx"
    walk_at "vs"
    refine isi_mk (t := "str") rfl (by decide) (b := true) (by decide) ?_
    walk_at "vs"
    walk_at "vx"
    walk_at "vs"
    refine notin_tup_strs ["steps", "voices"] rfl ?_
    walk_at "vd"
    walk_at "vs"
    walk_at "vx"
    walk_at "vs"
    refine eq_str ?_
    walk_at "vd"
    exact q
  · unfold spapD
    walk_at "vs"
    refine isi_mk (t := "tuple") rfl (by decide) (b := true) (by decide) ?_
    walk_at "vs"
    refine ne_ints ?_
    walk_at "vd"
    walk_at "vs"
    walk_at "vx"
    walk_at "vs"
    refine isi_mk (t := "tuple") rfl (by decide) (b := true) (by decide) ?_
    walk_at "vs"
    walk_at "vx"
    walk_at "vs"
    refine isi_mk (t := "str") rfl (by decide) (b := true) (by decide) ?_
    walk_at "vs"
    walk_at "vx"
    walk_at "vs"
    refine notin_tup_strs ["steps", "voices"] rfl ?_
    walk_at "vd"
    walk_at "vs"
    walk_at "vx"
    walk_at "vs"
    refine eq_str ?_
    walk_at "vd"
    walk_at "vs"
    walk_at "vx"
    walk_at "vs"
    refine lc_list rows (fun _ => true) (fun _ => .bl true) (fits (by omega)) (fun x hx acc K ha hk => ?_) ?_
    · walk_at "vs"
      refine ⟨x, rfl, hnz x hx, ?_⟩
      walk_at "vs"
      exact ⟨ha, hk⟩
    · rw [List.filter_eq_self.mpr fun _ _ => rfl]
      walk_at "vs"
      refine ⟨rows.map fun _ => true, by simp [blsD], ?_⟩
      simp only [List.all_map]
      rw [show (rows.all (id ∘ fun _ => true)) = true by simp]
      exact q
end VL

set_option Elab.async false
set_option linter.all false
set_option maxRecDepth 100000
set_option maxHeartbeats 4000000
namespace VL
open PySem PySem.Spec PyProof.Rows L2
local macro_rules
  | `(tactic| walk_at "vs") => `(tactic| try simp only [wSeq, wNx, wNever, wSet, wDrop, wRet, wRetV, wRetN, wIf, wAsg, wPar, wPar3, wBnil, wBcons, wGname, wGtup, wGcons, wGnil, wFor, wFz, wSh, wVar, wC, wOe, wOv, wOnil, wOcons, wXL, wX2, wX2T, wX1, wTst, wAnd, wOr, wNot, wAndV, wOrV, wUn, dNot, wIfE, wIfD, wNil, wCons, wTup, wTupF, wRaise, wTry, wLst,
  wItK, wItF, wLc, wDc, wipeE, wYes, wCall, wCallB2, wThawL, wMeth, wMake, wFldO, wGet1, wGet2, wVals, wM, wMO, wSub, wDnK, wDnT, wStar, wDspK, wDspT, wSl, wSl3, wPnone, wPsome, wSetS, wSrtM, wSrc, wSrcLen, wSrcPop, wSrcSet, wSrcNew, liftC, liftCI, wPs, gAdd, gSub, gLt, gLe, gGt, gGe, gNeg, gRng, gLen, gInt, gList, gTuple, gIs, gIsN, isNon, anyD,
  startE, List.map_cons, List.map_nil, List.length_cons, List.length_nil, Nat.reduceAdd, Nat.reduceSub, List.replicate_succ, List.replicate_zero, List.cons_append, List.nil_append, List.getElem?_cons_zero, List.getElem?_cons_succ, List.getElem?_nil, List.set_cons_zero, List.set_cons_succ, List.set_nil,
  rs, rss, slD, R.d, R.sl, oL, ob, oD, owD, isLO, tR, Option.bind_some, Option.isSome_some, true_and, and_true, if_true, if_false, Bool.false_eq_true, Bool.not_true, Bool.not_false, ite_true, ite_false, reduceIte, reduceCtorEq])
local macro_rules
  | `(tactic| walk_at "vx") => `(tactic| first | refine VL.ix_tup 0 rfl ?_ | refine VL.ix_tup 1 rfl ?_ | refine VL.ix_tup 2 rfl ?_ | refine VL.ix_tup 3 rfl ?_)
instance : DecidableEq Pn := fun x y => decidable_of_iff (x.n = y.n ∧ x.p = y.p ∧ x.v = y.v) ⟨fun ⟨a, b, c⟩ => by cases x; cases y; subst a b c; rfl, fun e => e ▸ ⟨rfl, rfl, rfl⟩⟩
theorem sign_ok : (∀ c ∈ lets, c < 0x110000) ∧ ∀ c ∈ figs, c < 0x110000 := by decide +kernel
theorem Word.ok {x : Str} (h : Word x) : PyData.strOk x = true := by
  unfold PyData.strOk
  rw [← Array.all_toList, List.all_eq_true]
  intro c hc
  rcases h.2.2.2 c hc with h | h
  · exact decide_eq_true (sign_ok.1 c h)
  · exact decide_eq_true (sign_ok.2 c h)
theorem okN_pD {x : Pn} (h : Word x.n) (n : Nat) : okN (n + 1) (pD x) = true := by
  unfold pD okN okNs
  simp [okN, okNs, h.ok]
theorem eqD_pD (x y : Pn) : eqD (pD x) (pD y) = decide (x = y) := by
  obtain ⟨a, b, c⟩ := x
  obtain ⟨a', b', c'⟩ := y
  unfold pD
  by_cases h1 : a = a' <;> by_cases h2 : b = b' <;> by_cases h3 : c = c' <;> simp [eqD, eqDs, h1, h2, h3]
theorem eq_pD {x y : Pn} {k : R → Prop} (hx : Word x.n) (hy : Word y.n) (h : k (.sh (.bl (decide (x = y))))) : gEq (pD x) (pD y) k :=
  ⟨.inr ⟨okN_pD hx 59, okN_pD hy 59⟩, by rw [eqD_pD]; exact h⟩
theorem good_map {l : List Pn} (hg : Good l) {f : Pn → Pn} (hn : ∀ x ∈ l, (f x).n = x.n) (hv : ∀ x ∈ l, (f x).v = 0 ∨ (f x).v = 1) : Good (l.map f) := by
  have e : (l.map f).map (·.n) = l.map (·.n) := by rw [List.map_map]; exact List.map_congr_left hn
  refine ⟨by rw [e]; exact hg.nd, fun y hy => ?_, fun y hy => ?_, by rw [List.length_map]; exact hg.sz⟩
  · obtain ⟨x, hx, rfl⟩ := List.mem_map.mp hy
    rw [hn x hx]; exact hg.wd x hx
  · obtain ⟨x, hx, rfl⟩ := List.mem_map.mp hy
    exact hv x hx
theorem h_exchanged (C : CS) : ∀ ds (Q : R → Prop) (E : Xn → Prop), c_exchanged C ds Q E → bodyC N_exchanged 2 (w_exchanged C) ds () (fun r _ => Q r) fun x _ => E x := by
  rintro ds Q E ⟨l, y, rfl, hg, hy, hv, q⟩
  obtain ⟨o, ho, hon⟩ := List.mem_map.mp hy
  refine ⟨rfl, ?_⟩
  unfold w_exchanged
  refine seq_step fun K hK => ?_
  walk_at "vs"
  unfold stD pD
  walk_at "vs"
  refine ⟨rfl, ?_⟩
  walk_at "vx"
  walk_at "vs"
  rw [← hon]
  refine ⟨l, o, rfl, hg, ho, ?_⟩
  refine hK _ _ ?_
  walk_at "vs"
  refine ⟨rfl, l, rfl, hg, ?_⟩
  walk_at "vs"
  have hwy : Word y.n := by rw [← hon]; exact hg.wd o ho
  refine lc_list l (fun _ => true) (fun x => pD (if x.n = y.n then y else x)) (fits (by have := hg.sz; omega)) (fun x hx acc K ha hk => ?_) ?_
  · walk_at "vs"
    refine eq_pD (hg.wd x hx) (hg.wd o ho) ?_
    have e : x = o ↔ x.n = y.n := by
      exact ⟨fun e => by rw [e, hon], fun e => name_inj hg.nd hx ho (e.trans hon.symm)⟩
    by_cases h : x.n = y.n
    · rw [decide_eq_true (e.mpr h)]
      walk_at "vs"
      rw [if_pos h, if_pos rfl] at hk
      have ey : pD y = D.tup [D.str o.n, D.int y.p, D.int y.v] := by rw [hon]; rfl
      rw [ey] at hk
      exact ⟨ha, hk⟩
    · rw [decide_eq_false fun z => h (e.mp z)]
      walk_at "vs"
      rw [if_neg h] at hk
      exact ⟨ha, hk⟩
  · rw [List.filter_eq_self.mpr fun _ _ => rfl]
    walk_at "vs"
    have e : (l.map fun x => pD (if x.n = y.n then y else x)) = (l.map fun x => if x.n = y.n then y else x).map pD := by rw [List.map_map]; rfl
    rw [e]
    refine ⟨_, rfl, good_map hg (fun x hx => ?_) (fun x hx => ?_), q⟩
    · split
      · rename_i h; exact h.symm
      · rfl
    · split
      · exact hv
      · exact hg.vo x hx
theorem h_moved_person (C : CS) : ∀ ds (Q : R → Prop) (E : Xn → Prop), c_moved_person C ds Q E → bodyC N_moved_person 3 (w_moved_person C) ds () (fun r _ => Q r) fun x _ => E x := by
  rintro ds Q E ⟨l, n, p, rfl, hg, hn, q⟩
  obtain ⟨o, ho, rfl⟩ := List.mem_map.mp hn
  refine ⟨rfl, ?_⟩
  unfold w_moved_person
  walk_at "vs"
  unfold stD
  walk_at "vs"
  refine ⟨rfl, l, o, rfl, hg, ho, ?_⟩
  walk_at "vs"
  refine ⟨fits (by decide), l, { o with p := p }, rfl, hg, hn, hg.vo o ho, ?_⟩
  have e : (l.map fun x => if x.n = o.n then { o with p := p } else x) = l.map (setP o.n p) := by
    refine List.map_congr_left fun x hx => ?_
    unfold setP
    by_cases h : x.n = o.n
    · rw [if_pos h, if_pos h, name_inj hg.nd hx ho h]
    · rw [if_neg h, if_neg h]
  rw [← e] at q
  exact q
theorem h_voiced (C : CS) : ∀ ds (Q : R → Prop) (E : Xn → Prop), c_voiced C ds Q E → bodyC N_voiced 3 (w_voiced C) ds () (fun r _ => Q r) fun x _ => E x := by
  rintro ds Q E ⟨l, n, v, rfl, hg, hn, hv, q⟩
  obtain ⟨o, ho, rfl⟩ := List.mem_map.mp hn
  refine ⟨rfl, ?_⟩
  unfold w_voiced
  walk_at "vs"
  unfold stD
  walk_at "vs"
  refine ⟨rfl, l, o, rfl, hg, ho, ?_⟩
  walk_at "vs"
  refine ⟨fits (by decide), l, { o with v := v }, rfl, hg, hn, hv, ?_⟩
  have e : (l.map fun x => if x.n = o.n then { o with v := v } else x) = l.map (setV o.n v) := by
    refine List.map_congr_left fun x hx => ?_
    unfold setV
    by_cases h : x.n = o.n
    · rw [if_pos h, if_pos h, name_inj hg.nd hx ho h]
    · rw [if_neg h, if_neg h]
  rw [← e] at q
  exact q
theorem h__law_voices (C : CS) : ∀ ds (Q : R → Prop) (E : Xn → Prop), c__law_voices C ds Q E → bodyC N__law_voices 1 (w__law_voices C) ds () (fun r _ => Q r) fun x _ => E x := by
  rintro ds Q E ⟨l, rfl, hg, q⟩
  refine ⟨rfl, ?_⟩
  unfold w__law_voices
  walk_at "vs"
  refine get_people ?_
  walk_at "vs"
  refine lc_list l (fun _ => true) (fun x => .int x.v) (fits (by have := hg.sz; omega)) (fun x hx acc K ha hk => ?_) ?_
  · walk_at "vs"
    unfold pD
    walk_at "vx"
    walk_at "vs"
    exact ⟨ha, hk⟩
  · rw [List.filter_eq_self.mpr fun _ _ => rfl]
    walk_at "vs"
    exact ⟨l.map (·.v), by simp [intsD, Function.comp_def], q⟩
end VL

set_option Elab.async false
set_option linter.all false
set_option maxRecDepth 100000
set_option maxHeartbeats 4000000
namespace VL
open PySem PySem.Spec PyProof.Rows L2
local macro_rules
  | `(tactic| walk_at "vs") => `(tactic| try simp only [wSeq, wNx, wNever, wSet, wDrop, wRet, wRetV, wRetN, wIf, wAsg, wPar, wPar3, wBnil, wBcons, wGname, wGtup, wGcons, wGnil, wFor, wFz, wSh, wVar, wC, wOe, wOv, wOnil, wOcons, wXL, wX2, wX2T, wX1, wTst, wAnd, wOr, wNot, wAndV, wOrV, wUn, dNot, wIfE, wIfD, wNil, wCons, wTup, wTupF, wRaise, wTry, wLst,
  wItK, wItF, wLc, wDc, wipeE, wYes, wCall, wCallB2, wThawL, wMeth, wMake, wFldO, wGet1, wGet2, wVals, wM, wMO, wSub, wDnK, wDnT, wStar, wDspK, wDspT, wSl, wSl3, wPnone, wPsome, wSetS, wSrtM, wSrc, wSrcLen, wSrcPop, wSrcSet, wSrcNew, liftC, liftCI, wPs, gAdd, gSub, gLt, gLe, gGt, gGe, gNeg, gRng, gLen, gInt, gList, gTuple, gIs, gIsN, isNon, anyD,
  startE, List.map_cons, List.map_nil, List.length_cons, List.length_nil, Nat.reduceAdd, Nat.reduceSub, List.replicate_succ, List.replicate_zero, List.cons_append, List.nil_append, List.getElem?_cons_zero, List.getElem?_cons_succ, List.getElem?_nil, List.set_cons_zero, List.set_cons_succ, List.set_nil,
  rs, rss, slD, R.d, R.sl, oL, ob, oD, owD, isLO, tR, Option.bind_some, Option.isSome_some, true_and, and_true, if_true, if_false, Bool.false_eq_true, Bool.not_true, Bool.not_false, ite_true, ite_false, reduceIte, reduceCtorEq])
local macro_rules
  | `(tactic| walk_at "vd") => `(tactic| simp (decide := true) only [ne_eq, decide_true, decide_false, Int.cast_ofNat_Int, not_true_eq_false, not_false_eq_true, Bool.not_true, Bool.not_false, if_true, if_false, ite_true, ite_false, reduceIte, reduceCtorEq, Bool.false_eq_true])
local macro_rules
  | `(tactic| walk_at "vx") => `(tactic| first | refine VL.ix_tup 0 rfl ?_ | refine VL.ix_tup 1 rfl ?_ | refine VL.ix_tup 2 rfl ?_ | refine VL.ix_tup 3 rfl ?_)
theorem turn_step {l : List Pn} (hg : Good l) {done : List Str} {o : Pn} (ho : o ∈ l) (hn : o.n ∉ done) : (l.map (turnV done)).map (setV o.n (1 - o.v)) = l.map (turnV (done ++ [o.n])) := by
  rw [List.map_map]
  refine List.map_congr_left fun x hx => ?_
  show setV o.n (1 - o.v) (turnV done x) = _
  unfold setV
  rw [turn_n]
  by_cases h : x.n = o.n
  · have : x = o := name_inj hg.nd hx ho h
    subst this
    rw [if_pos rfl]
    unfold turnV
    rw [if_neg hn, if_pos (by simp)]
  · rw [if_neg h]
    unfold turnV
    by_cases h2 : x.n ∈ done
    · rw [if_pos h2, if_pos (by simp [h2])]
    · rw [if_neg h2, if_neg (by simp [h2, h])]
theorem turn_nil (l : List Pn) : l.map (turnV []) = l := by
  refine Eq.trans (List.map_congr_left fun x _ => ?_) (List.map_id l)
  unfold turnV; rw [if_neg (by simp)]; rfl
theorem stepR_nil (l : List Pn) : l.map (stepR []) = l := by
  refine Eq.trans (List.map_congr_left fun x _ => ?_) (List.map_id l)
  unfold stepR; rw [valD_nil]
  obtain ⟨n, p, v⟩ := x
  simp
theorem stepR_n (rows : List (Str × Int)) (x : Pn) : (stepR rows x).n = x.n := rfl
theorem stepR_v (rows : List (Str × Int)) (x : Pn) : (stepR rows x).v = x.v := rfl
theorem good_step {l : List Pn} (hg : Good l) (rows : List (Str × Int)) : Good (l.map (stepR rows)) := good_map hg (fun _ _ => rfl) fun x hx => hg.vo x hx
theorem step_step {l : List Pn} (hg : Good l) {done : List (Str × Int)} {o : Pn} {b : Int} (ho : o ∈ l) (hn : o.n ∉ done.map (·.1)) : (l.map (stepR done)).map (setP o.n (o.p + b)) = l.map (stepR (done ++ [(o.n, b)])) := by
  have hv : valD done o.n = none := by
    cases h : valD done o.n with
    | none => rfl
    | some z => exact absurd (valD_in.mp (by rw [h]; rfl)) hn
  rw [List.map_map]
  refine List.map_congr_left fun x hx => ?_
  show setP o.n (o.p + b) (stepR done x) = _
  unfold setP
  rw [stepR_n]
  by_cases h : x.n = o.n
  · have : x = o := name_inj hg.nd hx ho h
    subst this
    rw [if_pos rfl]
    unfold stepR
    rw [valD_append_new _ _ _ _ hv, if_pos rfl]
    rfl
  · rw [if_neg h]
    unfold stepR
    rw [valD_append_new _ _ _ _ hv, if_neg h]
theorem names_turn (l : List Pn) (ns : List Str) : (l.map (turnV ns)).map (·.n) = l.map (·.n) := by
  rw [List.map_map]; exact List.map_congr_left fun x _ => turn_n ns x
theorem names_step (l : List Pn) (rows : List (Str × Int)) : (l.map (stepR rows)).map (·.n) = l.map (·.n) := by
  rw [List.map_map]; rfl
theorem st_slot {C : CS} {l : List Pn} {s : Sl} (h : s = .sh (stD C l) ∨ s = .ow (stD C l)) : ∃ d, d = stD C l ∧ (s = .sh d ∨ s = .ow d) := ⟨_, rfl, h⟩
theorem nodup_mid {α : Type} {l done todo : List α} {x : α} (nd : l.Nodup) (h : l = done ++ x :: todo) : x ∉ done := by
  rw [h, List.nodup_append] at nd
  exact fun hx => nd.2.2 x hx x (List.mem_cons_self ..) rfl
theorem h_wished (C : CS) : ∀ ds (Q : R → Prop) (E : Xn → Prop), c_wished C ds Q E → bodyC N_wished 2 (w_wished C) ds () (fun r _ => Q r) fun x _ => E x := by
  rintro ds Q E ⟨l, l2, hg, (⟨ns, rfl, hns, rfl⟩ | ⟨rows, rfl, hr, rfl⟩), q⟩
  · refine ⟨rfl, ?_⟩
    unfold w_wished
    refine seq_step fun K hK => ?_
    walk_at "vs"
    unfold vpD
    walk_at "vx"
    walk_at "vs"
    unfold strsD
    refine forL_list ns (fun done e _ => ∃ s0 s2, e = [s0, .sh (vpD ns), s2] ∧ (s0 = .sh (stD C (l.map (turnV done))) ∨ s0 = .ow (stD C (l.map (turnV done))))) (fun done n todo K2 e t hl hK2 h => ?_) (fun e t h => ?_) ⟨_, _, rfl, .inl (by rw [turn_nil])⟩
    · obtain ⟨s0, s2, rfl, h⟩ := h
      obtain ⟨o, ho, rfl⟩ := List.mem_map.mp (hns.mem n (by rw [hl]; simp))
      have hnd : o.n ∉ done := nodup_mid hns.nd hl
      have hg2 := good_turn hg done
      have hm : turnV done o ∈ l.map (turnV done) := List.mem_map.mpr ⟨o, ho, rfl⟩
      have ht : turnV done o = o := by unfold turnV; rw [if_neg hnd]
      rcases h with rfl | rfl
      all_goals
        walk_at "vs"
        unfold vpD
        walk_at "vx"
        walk_at "vs"
        refine eq_str ?_
        walk_at "vd"
        walk_at "vs"
        unfold stD
        walk_at "vs"
        refine ⟨rfl, l.map (turnV done), o, rfl, hg2, by rw [ht] at hm; exact hm, ?_⟩
        walk_at "vs"
        refine ⟨l.map (turnV done), o.n, 1 - o.v, rfl, hg2, by rw [names_turn]; exact strs_in ho, by have := hg.vo o ho; omega, ?_⟩
        rw [turn_step hg ho hnd]
        exact hK2 _ _ ⟨_, _, rfl, .inr rfl⟩
    · obtain ⟨s0, s2, rfl, h⟩ := h
      refine hK _ _ ?_
      rcases h with rfl | rfl
      all_goals
        walk_at "vs"
        exact q _ rfl
  · refine ⟨rfl, ?_⟩
    unfold w_wished
    refine seq_step fun K hK => ?_
    walk_at "vs"
    unfold spapD
    walk_at "vx"
    walk_at "vs"
    refine forL_list rows (fun done e _ => ∃ s0 s2, e = [s0, .sh (spapD rows), s2] ∧ (s0 = .sh (stD C (l.map (stepR done))) ∨ s0 = .ow (stD C (l.map (stepR done))))) (fun done r todo K2 e t hl hK2 h => ?_) (fun e t h => ?_) ⟨_, _, rfl, .inl (by rw [stepR_nil])⟩
    · obtain ⟨s0, s2, rfl, h⟩ := h
      obtain ⟨o, ho, hon⟩ := List.mem_map.mp (hr.mem r (by rw [hl]; simp))
      obtain ⟨rn, rb⟩ := r
      have hon' : o.n = rn := hon
      subst hon'
      have hnd : o.n ∉ done.map (·.1) := nodup_mid hr.nd (by rw [hl, List.map_append, List.map_cons])
      have hg2 := good_step hg done
      have hm : stepR done o ∈ l.map (stepR done) := List.mem_map.mpr ⟨o, ho, rfl⟩
      have hv : valD done o.n = none := by
        cases h : valD done o.n with
        | none => rfl
        | some z => exact absurd (valD_in.mp (by rw [h]; rfl)) hnd
      have hp : (stepR done o).p = o.p := by unfold stepR; rw [hv]; simp
      rcases h with rfl | rfl
      all_goals
        walk_at "vs"
        unfold spapD
        walk_at "vx"
        walk_at "vs"
        refine eq_str ?_
        walk_at "vd"
        walk_at "vs"
        unfold rowD
        walk_at "vx"
        walk_at "vs"
        unfold stD
        walk_at "vs"
        refine ⟨rfl, ?_⟩
        walk_at "vx"
        walk_at "vs"
        refine ⟨l.map (stepR done), stepR done o, rfl, hg2, hm, ?_⟩
        walk_at "vs"
        walk_at "vx"
        walk_at "vs"
        refine ⟨l.map (stepR done), o.n, (stepR done o).p + rb, rfl, hg2, by rw [names_step]; exact strs_in ho, ?_⟩
        rw [hp, step_step hg ho hnd]
        exact hK2 _ _ ⟨_, _, rfl, .inr rfl⟩
    · obtain ⟨s0, s2, rfl, h⟩ := h
      refine hK _ _ ?_
      rcases h with rfl | rfl
      all_goals
        walk_at "vs"
        exact q _ rfl
end VL

set_option Elab.async false
set_option linter.all false
set_option maxRecDepth 100000
set_option maxHeartbeats 4000000
namespace VL
open PySem PySem.Spec PyProof.Rows L2
/-! one number more in an ascending row -/
def insI (a : Int) : List Int → List Int
  | [] => [a]
  | x :: r => if a ≤ x then a :: x :: r else x :: insI a r
theorem insI_perm (a : Int) : ∀ r, (insI a r).Perm (a :: r)
  | [] => .refl _
  | x :: r => by
    unfold insI
    split
    · exact .refl _
    · exact ((insI_perm a r).cons x).trans (.swap a x r)
theorem insI_asc {a : Int} : ∀ {r : List Int}, Asc r → Asc (insI a r)
  | [], _ => by unfold insI Asc; simp
  | x :: r, h => by
    have h' := List.pairwise_cons.mp h
    unfold insI
    split
    · rename_i hax
      refine List.pairwise_cons.mpr ⟨fun y hy => ?_, h⟩
      rcases List.mem_cons.mp hy with rfl | hy
      · exact hax
      · have := h'.1 y hy; omega
    · rename_i hax
      refine List.pairwise_cons.mpr ⟨fun y hy => ?_, insI_asc h'.2⟩
      rcases List.mem_cons.mp ((insI_perm a r).mem_iff.mp hy) with rfl | hy
      · omega
      · exact h'.1 y hy
theorem insI_le {a : Int} {r : List Int} (h : ∀ y ∈ r, a ≤ y) : insI a r = a :: r := by
  cases r with
  | nil => rfl
  | cons x r => unfold insI; rw [if_pos (h x (List.mem_cons_self ..))]
theorem ins_step : ∀ (r : List Int), Asc r → ∀ a b : Int, a ≤ b → -(b - a) ≤ altS (insI a r) - altS (insI b r) ∧ altS (insI a r) - altS (insI b r) ≤ b - a
  | [], _, a, b, h => by unfold insI; simp only [altS]; omega
  | x :: r, hr, a, b, h => by
    have h' := List.pairwise_cons.mp hr
    unfold insI
    by_cases h1 : a ≤ x
    · by_cases h2 : b ≤ x
      · rw [if_pos h1, if_pos h2]
        simp only [altS]
        omega
      · rw [if_pos h1, if_neg h2]
        have ih := ins_step r h'.2 x b (by omega)
        rw [insI_le h'.1] at ih
        simp only [altS] at ih ⊢
        omega
    · rw [if_neg h1, if_neg (by omega)]
      have ih := ins_step r h'.2 a b h
      simp only [altS]
      omega
theorem srt_ins (a : Int) (r : List Int) : srtI (a :: r) = insI a (srtI r) :=
  asc_perm (srtI_asc _) (insI_asc (srtI_asc _)) ((srtI_perm _).trans ((((srtI_perm r).symm).cons a).trans (insI_perm a _).symm))
theorem altS_par : ∀ xs : List Int, (altS xs - xs.sum) % 2 = 0
  | [] => rfl
  | a :: r => by
    have ih := altS_par r
    simp only [altS, List.sum_cons]
    omega
theorem sum_permI {l l' : List Int} (h : l.Perm l') : l.sum = l'.sum := by
  induction h with
  | nil => rfl
  | cons x _ ih => rw [List.sum_cons, List.sum_cons, ih]
  | swap x y l => rw [List.sum_cons, List.sum_cons, List.sum_cons, List.sum_cons]; omega
  | trans _ _ a b => exact a.trans b
/-- one number by b elsewhere -/
theorem alt_move (a b : Int) (r : List Int) : (let g := altS (srtI ((a + b) :: r)) - altS (srtI (a :: r)); g ≤ (if b < 0 then -b else b) ∧ -g ≤ (if b < 0 then -b else b) ∧ (g - b) % 2 = 0) := by
  have p1 := altS_par (srtI ((a + b) :: r))
  have p2 := altS_par (srtI (a :: r))
  rw [sum_permI (srtI_perm _), List.sum_cons] at p1 p2
  have key : ∀ x y : Int, x ≤ y → -(y - x) ≤ altS (srtI (x :: r)) - altS (srtI (y :: r)) ∧ altS (srtI (x :: r)) - altS (srtI (y :: r)) ≤ y - x := by
    intro x y hxy
    rw [srt_ins, srt_ins]
    exact ins_step _ (srtI_asc r) x y hxy
  dsimp only
  by_cases hb : b < 0
  · rw [if_pos hb]
    have := key (a + b) a (by omega)
    omega
  · rw [if_neg hb]
    have := key a (a + b) (by omega)
    omega
/-! one person elsewhere -/
def others (l : List Pn) (o : Pn) : List Int := (l.filter fun x => x.v == 1 && decide (x.n ≠ o.n)).map (·.p)
theorem filter_out {l : List Pn} (hnd : (l.map (·.n)).Nodup) {o : Pn} (ho : o ∈ l) (f : Pn → Int) (hf : ∀ x ∈ l, x.n ≠ o.n → f x = x.p) (hv : o.v = 1) : ((l.filter fun x => x.v == 1).map f).Perm (f o :: others l o) := by
  induction l with
  | nil => cases ho
  | cons x l ih =>
    rw [List.map_cons, List.nodup_cons] at hnd
    rcases List.mem_cons.mp ho with rfl | ho'
    · have hx : ∀ y ∈ l, y.n ≠ o.n := fun y hy e => hnd.1 (e ▸ List.mem_map.mpr ⟨y, hy, rfl⟩)
      rw [List.filter_cons_of_pos (by simp [hv]), List.map_cons]
      refine List.Perm.cons _ ?_
      unfold others
      rw [List.filter_cons_of_neg (by simp)]
      have e1 : (l.filter fun x => x.v == 1 && decide (x.n ≠ o.n)) = l.filter fun x => x.v == 1 := List.filter_congr fun y hy => by simp [hx y hy]
      rw [e1]
      rw [List.map_congr_left fun y hy => hf y (List.mem_cons_of_mem _ (List.mem_filter.mp hy).1) (hx y (List.mem_filter.mp hy).1)]
    · have hxo : x.n ≠ o.n := fun e => hnd.1 (e ▸ List.mem_map.mpr ⟨o, ho', rfl⟩)
      have ih := ih hnd.2 ho' fun y hy => hf y (List.mem_cons_of_mem _ hy)
      unfold others at ih ⊢
      by_cases hxv : x.v = 1
      · rw [List.filter_cons_of_pos (by simp [hxv]), List.filter_cons_of_pos (by simp [hxv, hxo]), List.map_cons, List.map_cons, hf x (List.mem_cons_self ..) hxo]
        exact (ih.cons x.p).trans (.swap _ _ _)
      · rw [List.filter_cons_of_neg (by simp [hxv]), List.filter_cons_of_neg (by simp [hxv])]
        exact ih
theorem stepR_one (n : Str) (b : Int) (x : Pn) : (stepR [(n, b)] x).p = if x.n = n then x.p + b else x.p := by
  unfold stepR
  rw [valD_cons, valD_nil]
  by_cases h : x.n = n
  · rw [if_pos h.symm, if_pos h]; rfl
  · rw [if_neg fun z => h z.symm, if_neg h]; simp
theorem placesV_step {l : List Pn} (hg : Good l) {o : Pn} (ho : o ∈ l) (hv : o.v = 1) (b : Int) : placesV (l.map (stepR [(o.n, b)])) = srtI ((o.p + b) :: others l o) := by
  unfold placesV
  have e : ((l.map (stepR [(o.n, b)])).filter fun x => x.v == 1).map (·.p) = (l.filter fun x => x.v == 1).map fun x => (stepR [(o.n, b)] x).p := by
    rw [List.filter_map, List.map_map]; rfl
  rw [e]
  refine asc_perm (srtI_asc _) (srtI_asc _) ((srtI_perm _).trans (List.Perm.trans ?_ (srtI_perm _).symm))
  have := filter_out hg.nd ho (fun x => (stepR [(o.n, b)] x).p) (fun x hx hne => by rw [stepR_one, if_neg hne]) hv
  rw [stepR_one, if_pos rfl] at this
  exact this
theorem placesV_here {l : List Pn} (hg : Good l) {o : Pn} (ho : o ∈ l) (hv : o.v = 1) : placesV l = srtI (o.p :: others l o) := by
  unfold placesV
  exact asc_perm (srtI_asc _) (srtI_asc _) ((srtI_perm _).trans ((filter_out hg.nd ho (·.p) (fun _ _ _ => rfl) hv).trans (srtI_perm _).symm))
theorem placesV_mute {l : List Pn} {o : Pn} (hg : Good l) (ho : o ∈ l) (hv : o.v = 0) (b : Int) : placesV (l.map (stepR [(o.n, b)])) = placesV l := by
  unfold placesV
  congr 1
  rw [List.filter_map, List.map_map]
  refine List.map_congr_left fun x hx => ?_
  obtain ⟨hx1, hx2⟩ := List.mem_filter.mp hx
  have hx2 : x.v = 1 := by simpa [stepR] using hx2
  show (stepR [(o.n, b)] x).p = x.p
  rw [stepR_one, if_neg]
  intro e
  have := name_inj hg.nd hx1 ho e
  rw [this] at hx2
  omega
theorem step_gone {l : List Pn} (hg : Good l) {o : Pn} (ho : o ∈ l) (b : Int) :
    (let g := turnS (l.map (stepR [(o.n, b)])) - turnS l; g ≤ (if b < 0 then -b else b) * o.v ∧ -g ≤ (if b < 0 then -b else b) * o.v ∧ (g - b * o.v) % 2 = 0) := by
  unfold turnS
  rcases hg.vo o ho with hv | hv
  · rw [placesV_mute hg ho hv, hv]
    dsimp only
    omega
  · rw [placesV_step hg ho hv, placesV_here hg ho hv, hv]
    have := alt_move o.p b (others l o)
    dsimp only at this ⊢
    rw [Int.mul_one, Int.mul_one]
    exact this
/-! the last and the first voice -/
theorem vLine_places (l : List Pn) : placesV l = (vLine l).map (·.p) := by
  unfold placesV vLine
  exact plc_line (fun x => x.v == 1) l
theorem vLine_len {l : List Pn} (hg : Good l) : ((vLine l).length : Int) = vSum l := by
  unfold vSum vLine
  rw [sum_bits' hg.vo, ((line_perm l).filter _).length_eq]
theorem vLine_mem {l : List Pn} {o : Pn} (h : o ∈ vLine l) : o ∈ l ∧ o.v = 1 := by
  obtain ⟨h1, h2⟩ := List.mem_filter.mp h
  exact ⟨(line_perm l).mem_iff.mp h1, by simpa using h2⟩
theorem asc_snoc {r : List Int} {a : Int} (h : Asc (r ++ [a])) {b : Int} (hb : a ≤ b) : Asc (r ++ [b]) := by
  unfold Asc at h ⊢
  rw [List.pairwise_append] at h ⊢
  exact ⟨h.1, by simp, fun x hx y hy => by
    have := h.2.2 x hx a (by simp)
    rw [List.mem_singleton.mp hy]; omega⟩
theorem wish_rows {l : List Pn} (hg : Good l) (hodd : vSum l % 2 = 1) (z : Int) : Right l (l.map (stepR (wishRows l z))) z (spapD (wishRows l z)) ∧ ((wishRows l z).map fun r => if r.2 < 0 then -r.2 else r.2).sum = (if z - turnS l < 0 then -(z - turnS l) else z - turnS l) ∧ (wishRows l z).length ≤ 1 := by
  have hlen := vLine_len hg
  have hne : vLine l ≠ [] := by
    intro e
    rw [e] at hlen
    simp at hlen
    omega
  have hsum : ∀ rows, ((l.map (stepR rows)).map (·.v)).sum % 2 = 1 := fun rows => by
    rw [List.map_map]; exact hodd
  by_cases h0 : z - turnS l = 0
  · have e : wishRows l z = [] := by unfold wishRows; rw [if_pos h0]
    rw [e, h0]
    refine ⟨⟨.inr ⟨[], rfl, ⟨by simp, by simp, by simp⟩, rfl⟩, hsum [], ?_⟩, rfl, by simp⟩
    rw [stepR_nil]
    unfold turnS at h0
    omega
  · have one : ∀ o ∈ vLine l, wishRows l z = [(o.n, z - turnS l)] → turnS (l.map (stepR [(o.n, z - turnS l)])) = z → Right l (l.map (stepR (wishRows l z))) z (spapD (wishRows l z)) ∧ ((wishRows l z).map fun r => if r.2 < 0 then -r.2 else r.2).sum = (if z - turnS l < 0 then -(z - turnS l) else z - turnS l) ∧ (wishRows l z).length ≤ 1 := by
      intro o ho e ht
      rw [e]
      refine ⟨⟨.inr ⟨_, rfl, ⟨by simp, fun r hr => ?_, fun r hr => ?_⟩, rfl⟩, hsum _, ht⟩, by simp, by simp⟩
      · rw [List.mem_singleton.mp hr]
        exact List.mem_map.mpr ⟨o, (vLine_mem ho).1, rfl⟩
      · rw [List.mem_singleton.mp hr]
        exact h0
    have hpl := vLine_places l
    by_cases hpos : 0 < z - turnS l
    · obtain ⟨r, o, er⟩ : ∃ r o, vLine l = r ++ [o] := ⟨_, _, (List.dropLast_concat_getLast hne).symm⟩
      have ho : o ∈ vLine l := by rw [er]; simp
      refine one o ho ?_ ?_
      · unfold wishRows
        rw [if_neg h0, if_pos hpos, er]
        simp
      · have h1 := placesV_here hg (vLine_mem ho).1 (vLine_mem ho).2
        have h2 := placesV_step hg (vLine_mem ho).1 (vLine_mem ho).2 (z - turnS l)
        have ha : Asc (r.map (·.p) ++ [o.p]) := by
          have := srtI_asc (((l.filter fun x => x.v == 1).map (·.p)))
          have h3 : Asc (placesV l) := this
          rw [hpl, er, List.map_append] at h3
          exact h3
        have pr : (others l o).Perm (r.map (·.p)) := by
          have h4 : (o.p :: others l o).Perm (o.p :: r.map (·.p)) := by
            refine (srtI_perm _).symm.trans ?_
            rw [← h1, hpl, er, List.map_append]
            exact List.perm_append_comm
          exact h4.cons_inv
        have e2 : placesV (l.map (stepR [(o.n, z - turnS l)])) = r.map (·.p) ++ [o.p + (z - turnS l)] := by
          rw [h2]
          refine asc_perm (srtI_asc _) (asc_snoc ha (by omega)) ((srtI_perm _).trans ?_)
          exact (pr.cons _).trans (List.perm_append_comm (l₁ := [_]))
        have ev : (r.map (·.p)).length % 2 = 0 := by
          have := congrArg List.length er
          rw [List.length_append, List.length_singleton] at this
          rw [List.length_map]
          omega
        have t1 : turnS l = altS (r.map (·.p)) + o.p := by
          unfold turnS
          rw [hpl, er, List.map_append]
          show altS (r.map (·.p) ++ [o.p]) = _
          rw [altS_snoc, if_pos ev]
        show altS (placesV _) = z
        rw [e2, altS_snoc, if_pos ev]
        omega
    · obtain ⟨o, r, er⟩ : ∃ o r, vLine l = o :: r := by
        cases h : vLine l with
        | nil => exact absurd h hne
        | cons o r => exact ⟨o, r, rfl⟩
      have ho : o ∈ vLine l := by rw [er]; simp
      refine one o ho ?_ ?_
      · unfold wishRows
        rw [if_neg h0, if_neg hpos, er]
        simp
      · have h1 := placesV_here hg (vLine_mem ho).1 (vLine_mem ho).2
        have h2 := placesV_step hg (vLine_mem ho).1 (vLine_mem ho).2 (z - turnS l)
        have ha : Asc (o.p :: r.map (·.p)) := by
          have h3 : Asc (placesV l) := srtI_asc _
          rw [hpl, er, List.map_cons] at h3
          exact h3
        have pr : (others l o).Perm (r.map (·.p)) := by
          have h4 : (o.p :: others l o).Perm (o.p :: r.map (·.p)) := by
            refine (srtI_perm _).symm.trans ?_
            rw [← h1, hpl, er, List.map_cons]
          exact h4.cons_inv
        have e2 : placesV (l.map (stepR [(o.n, z - turnS l)])) = (o.p + (z - turnS l)) :: r.map (·.p) := by
          rw [h2]
          refine asc_perm (srtI_asc _) (List.pairwise_cons.mpr ⟨fun y hy => ?_, (List.pairwise_cons.mp ha).2⟩) ((srtI_perm _).trans (pr.cons _))
          have := (List.pairwise_cons.mp ha).1 y hy
          omega
        have t1 : turnS l = o.p - altS (r.map (·.p)) := by
          unfold turnS
          rw [hpl, er, List.map_cons]; rfl
        show altS (placesV _) = z
        rw [e2]
        simp only [altS]
        omega
theorem turn_bound {l : List Pn} {B : Int} (hB : 0 ≤ B) (h : ∀ x ∈ l, -B ≤ x.p ∧ x.p ≤ B) : -(B * l.length) ≤ turnS l ∧ turnS l ≤ B * l.length := by
  have h1 := altS_bound hB (xs := placesV l) fun x hx => by
    unfold placesV at hx
    obtain ⟨y, hy, rfl⟩ := List.mem_map.mp ((srtI_perm _).mem_iff.mp hx)
    exact h y (List.mem_filter.mp hy).1
  have h2 : ((placesV l).length : Int) ≤ l.length := by
    unfold placesV
    rw [(srtI_perm _).length_eq, List.length_map]
    exact Int.ofNat_le.mpr (List.length_filter_le _ _)
  have h3 := Int.mul_le_mul_of_nonneg_left h2 hB
  unfold turnS
  omega
end VL

set_option Elab.async false
set_option linter.all false
set_option maxRecDepth 100000
set_option maxHeartbeats 4000000
namespace VL
open PySem PySem.Spec PyProof.Rows L2
local macro_rules
  | `(tactic| walk_at "vs") => `(tactic| try simp only [wSeq, wNx, wNever, wSet, wDrop, wRet, wRetV, wRetN, wIf, wAsg, wPar, wPar3, wBnil, wBcons, wGname, wGtup, wGcons, wGnil, wFor, wFz, wSh, wVar, wC, wOe, wOv, wOnil, wOcons, wXL, wX2, wX2T, wX1, wTst, wAnd, wOr, wNot, wAndV, wOrV, wUn, dNot, wIfE, wIfD, wNil, wCons, wTup, wTupF, wRaise, wTry, wLst,
  wItK, wItF, wLc, wDc, wipeE, wYes, wCall, wCallB2, wThawL, wMeth, wMake, wFldO, wGet1, wGet2, wVals, wM, wMO, wSub, wDnK, wDnT, wStar, wDspK, wDspT, wSl, wSl3, wPnone, wPsome, wSetS, wSrtM, wSrc, wSrcLen, wSrcPop, wSrcSet, wSrcNew, liftC, liftCI, wPs, gAdd, gSub, gLt, gLe, gGt, gGe, gNeg, gRng, gLen, gInt, gList, gTuple, gIs, gIsN, isNon, anyD,
  startE, List.map_cons, List.map_nil, List.length_cons, List.length_nil, Nat.reduceAdd, Nat.reduceSub, List.replicate_succ, List.replicate_zero, List.cons_append, List.nil_append, List.getElem?_cons_zero, List.getElem?_cons_succ, List.getElem?_nil, List.set_cons_zero, List.set_cons_succ, List.set_nil,
  rs, rss, slD, R.d, R.sl, oL, ob, oD, owD, isLO, tR, Option.bind_some, Option.isSome_some, true_and, and_true, if_true, if_false, Bool.false_eq_true, Bool.not_true, Bool.not_false, ite_true, ite_false, reduceIte, reduceCtorEq])
local macro_rules
  | `(tactic| walk_at "vd") => `(tactic| simp (decide := true) only [ne_eq, decide_true, decide_false, Int.cast_ofNat_Int, not_true_eq_false, not_false_eq_true, Bool.not_true, Bool.not_false, if_true, if_false, ite_true, ite_false, reduceIte, reduceCtorEq, Bool.false_eq_true])
local macro_rules
  | `(tactic| walk_at "vx") => `(tactic| first | refine VL.ix_tup 0 rfl ?_ | refine VL.ix_tup 1 rfl ?_ | refine VL.ix_tup 2 rfl ?_ | refine VL.ix_tup 3 rfl ?_)
theorem cut_take {α : Type} (f : α → D) (l : List α) (k : Nat) : cutD (l.map f) none (some (k : Int)) = (l.take k).map f := by
  unfold cutD
  rw [HT.sIx_none, HT.sIx_nat, List.drop_zero, List.length_map, ← List.map_take, Nat.sub_zero]
  congr 1
  rcases Nat.le_total k l.length with h | h
  · rw [Nat.min_eq_left h]
  · rw [Nat.min_eq_right h, List.take_of_length_le (Nat.le_refl _), List.take_of_length_le h]
theorem sum_bits {l : List Pn} : True := trivial
theorem right_good {l l2 : List Pn} {z : Int} {d : D} (hg : Good l) (h : Right l l2 z d) : Good l2 := by
  rcases h.1 with ⟨ns, _, _, rfl⟩ | ⟨rows, _, _, rfl⟩
  · exact good_turn hg ns
  · exact good_step hg rows
theorem rows_len {l : List Pn} {rows : List (Str × Int)} (hg : Good l) (h : Rows l rows) : rows.length ≤ 1000 := by
  have h1 := List.Nodup.length_le_of_subset h.nd (l₂ := l.map (·.n)) fun n hn => by
    obtain ⟨r, hr, rfl⟩ := List.mem_map.mp hn
    exact h.mem r hr
  rw [List.length_map, List.length_map] at h1
  exact Nat.le_trans h1 hg.sz
theorem nms_len {l : List Pn} {ns : List Str} (hg : Good l) (h : Nms l ns) : ns.length ≤ 1000 := by
  have h1 := List.Nodup.length_le_of_subset h.nd (l₂ := l.map (·.n)) fun n hn => h.mem n hn
  rw [List.length_map] at h1
  exact Nat.le_trans h1 hg.sz
theorem h_judge_wish (C : CS) : ∀ ds (Q : R → Prop) (E : Xn → Prop), c_judge_wish C ds Q E → bodyC N_judge_wish 3 (w_judge_wish C) ds () (fun r _ => Q r) fun x _ => E x := by
  rintro ds Q E ⟨l, l2, z, d, rfl, hg, hr, q⟩
  have hg2 := right_good hg hr
  refine ⟨rfl, ?_⟩
  unfold w_judge_wish
  refine seq_step fun K hK => ?_
  walk_at "vs"
  refine ⟨?_, ?_⟩
  · rcases hr.1 with ⟨ns, rfl, hn, _⟩ | ⟨rows, rfl, hrr, _⟩
    · exact .inl ⟨ns, rfl⟩
    · exact .inr ⟨rows, rfl, rows_len hg hrr, hrr.nz⟩
  walk_at "vs"
  refine hK _ _ ?_
  clear hK K
  refine seq_cut (fun e t => ∃ (ns : List Str) (s4 s5 s6 s7 : Sl), e = [.sh (stD C l), .sh (.int z), .sh d, .ow (.lst (strsD ns)), s4, s5, s6, s7] ∧ Nms l ns) (fun e t h => ?_) fun nx hnx => ?_
  · obtain ⟨ns, s4, s5, s6, s7, rfl, hn⟩ := h
    refine seq_cut (fun e t => ∃ (s3 s4 s5 s6 s7 : Sl), e = [.sh (stD C l), .sh (.int z), .sh d, s3, s4, s5, s6, s7]) (fun e t h => ?_) fun nx hnx => ?_
    · obtain ⟨s3, s4, s5, s6, s7, rfl⟩ := h
      refine seq_step fun K hK => ?_
      walk_at "vs"
      refine ⟨l, l2, hg, ?_, fun r hrd => ?_⟩
      · rcases hr.1 with ⟨ns, rfl, hn, e⟩ | ⟨rows, rfl, hrr, e⟩
        · exact .inl ⟨ns, rfl, hn, e⟩
        · exact .inr ⟨rows, rfl, hrr, e⟩
      show K [Sl.sh (stD C l), Sl.sh (D.int z), Sl.sh d, s3, s4, s5, Sl.sh (R.d r), s7] t
      rw [hrd]
      refine hK _ _ ?_
      clear hK K
      refine seq_step fun K hK => ?_
      walk_at "vs"
      unfold stD
      walk_at "vs"
      refine ⟨rfl, l2, rfl, hg2, ?_⟩
      walk_at "vs"
      simp only [gMod]
      refine ⟨by decide, eq_ints ?_⟩
      rw [hr.2.1]
      walk_at "vd"
      refine hK _ _ ?_
      clear hK K
      walk_at "vs"
      refine ⟨l2, rfl, hg2, ?_⟩
      walk_at "vs"
      refine eq_ints ?_
      rw [decide_eq_true hr.2.2]
      walk_at "vs"
      exact q
    · have hnl := nms_len hg hn
      walk_at "vs"
      show wForL _ _ _ (enumD (ns.map D.str)) _ _
      rw [enumD_eq]
      refine forL_list ns.zipIdx (fun done e t => ∃ (s4 s5 s6 s7 : Sl), e = [.sh (stD C l), .sh (.int z), .sh d, .sh (.lst (strsD ns)), s4, s5, s6, s7]) (fun done x todo K e t hl hK h => ?_) (fun e t h => ?_) ⟨_, _, _, _, rfl⟩
      · obtain ⟨s4, s5, s6, s7, rfl⟩ := h
        obtain ⟨e1, e2⟩ := zipIdx_split hl
        have hx : x.1 ∈ ns := by rw [e2]; simp
        have htk : x.1 ∉ ns.take x.2 := by
          rw [e1]
          have : ns.take done.length = done.map (·.1) := by
            rw [e2, List.take_left' (by rw [List.length_map])]
          rw [this]
          exact nodup_mid hn.nd e2
        walk_at "vs"
        unfold stD
        walk_at "vs"
        refine ⟨rfl, l, x.1, rfl, hg, hn.mem _ hx, ?_⟩
        walk_at "vs"
        simp only [gSl]
        unfold strsD
        rw [cut_take]
        walk_at "vs"
        refine in_strs ?_
        rw [decide_eq_false htk]
        walk_at "vs"
        exact hK _ _ ⟨_, _, _, _, rfl⟩
      · obtain ⟨s4, s5, s6, s7, rfl⟩ := h
        exact hnx _ _ ⟨_, _, _, _, _, rfl⟩
  · rcases hr.1 with ⟨ns, rfl, hn, e⟩ | ⟨rows, rfl, hrr, e⟩
    · have hnl := nms_len hg hn
      walk_at "vs"
      unfold vpD
      walk_at "vx"
      walk_at "vs"
      unfold strsD
      refine lc_list ns (fun _ => true) (fun n => .str n) (fits (by omega)) (fun x hx acc K ha hk => ?_) ?_
      · walk_at "vs"
        walk_at "vx"
        walk_at "vs"
        refine eq_str ?_
        walk_at "vd"
        walk_at "vs"
        rw [if_pos rfl] at hk
        exact ⟨ha, hk⟩
      · rw [List.filter_eq_self.mpr fun _ _ => rfl]
        exact hnx _ _ ⟨ns, _, _, _, _, rfl, hn⟩
    · have hnl := rows_len hg hrr
      walk_at "vs"
      unfold spapD
      walk_at "vx"
      walk_at "vs"
      refine lc_list rows (fun _ => true) (fun r => .str r.1) (fits (by omega)) (fun x hx acc K ha hk => ?_) ?_
      · walk_at "vs"
        walk_at "vx"
        walk_at "vs"
        refine eq_str ?_
        walk_at "vd"
        walk_at "vs"
        unfold rowD
        walk_at "vx"
        walk_at "vs"
        exact ⟨ha, hk⟩
      · rw [List.filter_eq_self.mpr fun _ _ => rfl]
        have er : (rows.map fun r => D.str r.1) = strsD (rows.map (·.1)) := by unfold strsD; rw [List.map_map]; rfl
        walk_at "vs"
        rw [er]
        refine hnx _ _ ⟨rows.map (·.1), _, _, _, _, rfl, hrr.nd, fun n hn => ?_⟩
        obtain ⟨r, hr', rfl⟩ := List.mem_map.mp hn
        exact hrr.mem r hr'
end VL

set_option Elab.async false
set_option linter.all false
set_option maxRecDepth 100000
set_option maxHeartbeats 4000000
namespace VL
open PySem PySem.Spec PyProof.Rows L2
local macro_rules
  | `(tactic| walk_at "vs") => `(tactic| try simp only [wSeq, wNx, wNever, wSet, wDrop, wRet, wRetV, wRetN, wIf, wAsg, wPar, wPar3, wBnil, wBcons, wGname, wGtup, wGcons, wGnil, wFor, wFz, wSh, wVar, wC, wOe, wOv, wOnil, wOcons, wXL, wX2, wX2T, wX1, wTst, wAnd, wOr, wNot, wAndV, wOrV, wUn, dNot, wIfE, wIfD, wNil, wCons, wTup, wTupF, wRaise, wTry, wLst,
  wItK, wItF, wLc, wDc, wipeE, wYes, wCall, wCallB2, wThawL, wMeth, wMake, wFldO, wGet1, wGet2, wVals, wM, wMO, wSub, wDnK, wDnT, wStar, wDspK, wDspT, wSl, wSl3, wPnone, wPsome, wSetS, wSrtM, wSrc, wSrcLen, wSrcPop, wSrcSet, wSrcNew, liftC, liftCI, wPs, gAdd, gSub, gLt, gLe, gGt, gGe, gNeg, gRng, gLen, gInt, gList, gTuple, gIs, gIsN, isNon, anyD,
  startE, List.map_cons, List.map_nil, List.length_cons, List.length_nil, Nat.reduceAdd, Nat.reduceSub, List.replicate_succ, List.replicate_zero, List.cons_append, List.nil_append, List.getElem?_cons_zero, List.getElem?_cons_succ, List.getElem?_nil, List.set_cons_zero, List.set_cons_succ, List.set_nil,
  rs, rss, slD, R.d, R.sl, oL, ob, oD, owD, isLO, tR, Option.bind_some, Option.isSome_some, true_and, and_true, if_true, if_false, Bool.false_eq_true, Bool.not_true, Bool.not_false, ite_true, ite_false, reduceIte, reduceCtorEq])
local macro_rules
  | `(tactic| walk_at "vx") => `(tactic| first | refine VL.ix_tup 0 rfl ?_ | refine VL.ix_tup 1 rfl ?_ | refine VL.ix_tup 2 rfl ?_ | refine VL.ix_tup 3 rfl ?_)
theorem range_getD {α : Type} (l : List α) (d : α) : (List.range l.length).map (fun i => l.getD i d) = l := by
  apply List.ext_getElem?
  intro i
  rw [List.getElem?_map]
  by_cases h : i < l.length
  · rw [List.getElem?_eq_getElem (by rw [List.length_range]; exact h), List.getElem_range, List.getElem?_eq_getElem h]
    simp [List.getD, List.getElem?_eq_getElem h]
  · rw [List.getElem?_eq_none (by rw [List.length_range]; omega), List.getElem?_eq_none (by omega)]
    rfl
theorem range_pick {α β : Type} (l : List α) (d : α) (P : α → Bool) (f : α → β) : ((List.range l.length).filter fun i => P (l.getD i d)).map (fun i => f (l.getD i d)) = (l.filter P).map f := by
  have e := range_getD l d
  conv => rhs; rw [← e, List.filter_map, List.map_map]
  rfl
theorem range_at {m : Nat} {done todo : List Nat} {k : Nat} (h : List.range m = done ++ k :: todo) : k = done.length ∧ done.length < m := by
  have h1 : (List.range m)[done.length]? = some k := by rw [h]; simp
  obtain ⟨h2, h3⟩ := List.getElem?_eq_some_iff.mp h1
  rw [List.getElem_range] at h3
  rw [List.length_range] at h2
  exact ⟨h3.symm, h2⟩
theorem getD_at {α : Type} {l : List α} {d : α} {i : Nat} (h : i < l.length) : l[i]? = some (l.getD i d) := by
  simp [List.getD, List.getElem?_eq_getElem h]
theorem altS_take {ps : List Int} {k : Nat} (h : k < ps.length) : altS (ps.take (k + 1)) = altS (ps.take k) + (if k % 2 = 0 then ps.getD k 0 else -(ps.getD k 0)) := by
  have e : ps.take (k + 1) = ps.take k ++ [ps.getD k 0] := by
    rw [List.take_add_one, getD_at h]; rfl
  rw [e, altS_snoc, List.length_take, Nat.min_eq_left (by omega)]
theorem h__law_by_turns (C : CS) : ∀ ds (Q : R → Prop) (E : Xn → Prop), c__law_by_turns C ds Q E → bodyC N__law_by_turns 2 (w__law_by_turns C) ds () (fun r _ => Q r) fun x _ => E x := by
  rintro ds Q E ⟨l, rfl, hg, q⟩
  have hsz := hg.sz
  refine ⟨rfl, ?_⟩
  unfold w__law_by_turns
  refine seq_step fun K hK => ?_
  walk_at "vs"
  simp only [rng1]
  have il : (intsD (l.map (·.p))).length = l.length := by unfold intsD; rw [List.length_map, List.length_map]
  rw [il]
  refine ⟨⟨by omega, by omega⟩, ?_⟩
  rw [Int.toNat_natCast, rng_eq]
  refine lc_list (List.range l.length) (fun i => (l.getD i ⟨"", 0, 0⟩).v == 1) (fun i => .int (l.getD i ⟨"", 0, 0⟩).p) (fits (by rw [List.length_range]; omega)) (fun i hi acc K ha hk => ?_) ?_
  · have hi' : i < l.length := List.mem_range.mp hi
    walk_at "vs"
    rw [Int.zero_add]
    refine get_people ?_
    walk_at "vs"
    refine ix_lst i (by rw [List.getElem?_map, getD_at (d := ⟨"", 0, 0⟩) hi']; rfl) ?_
    walk_at "vs"
    unfold pD
    walk_at "vx"
    walk_at "vs"
    refine eq_ints ?_
    walk_at "vs"
    have hsp : (intsD (l.map (·.p)))[i]? = some (.int (l.getD i ⟨"", 0, 0⟩).p) := by
      unfold intsD
      rw [List.getElem?_map, List.getElem?_map, getD_at (d := ⟨"", 0, 0⟩) hi']; rfl
    by_cases h : (l.getD i ⟨"", 0, 0⟩).v = 1
    · rw [if_pos (by simpa using h)] at hk
      rw [decide_eq_true h]
      walk_at "vs"
      refine ix_tup i hsp ?_
      walk_at "vs"
      exact ⟨ha, hk⟩
    · rw [if_neg (by simpa using h)] at hk
      rw [decide_eq_false h]
      walk_at "vs"
      exact hk
  · rw [range_pick l ⟨"", 0, 0⟩ (fun x => x.v == 1) (fun x => D.int x.p)]
    walk_at "vs"
    refine ⟨(l.filter fun x => x.v == 1).map (·.p), by simp [intsD, Function.comp_def], ?_⟩
    have ep : srtI ((l.filter fun x => x.v == 1).map (·.p)) = placesV l := rfl
    rw [ep]
    have hpl := placesV_len l
    generalize placesV l = ps at hpl q ⊢
    walk_at "vs"
    refine hK _ _ ?_
    clear hK K
    refine seq_step fun K hK => ?_
    walk_at "vs"
    simp only [rng1]
    have il2 : (intsD ps).length = ps.length := by unfold intsD; rw [List.length_map]
    rw [il2]
    refine ⟨⟨by omega, by omega⟩, ?_⟩
    rw [Int.toNat_natCast, rng_eq]
    refine forL_list (List.range ps.length) (fun done e t => ∃ s4, e = [.sh (woD C l), .sh (.tup (intsD (l.map (·.p)))), .ow (.lst (intsD ps)), .sh (.int (altS (ps.take done.length))), s4]) (fun done k todo K2 e t hl hK2 h => ?_) (fun e t h => ?_) ⟨_, rfl⟩
    · obtain ⟨s4, rfl⟩ := h
      obtain ⟨rfl, hk⟩ := range_at hl
      have hps : (intsD ps)[done.length]? = some (.int (ps.getD done.length 0)) := by
        unfold intsD; rw [List.getElem?_map, getD_at hk]; rfl
      have ha := altS_take hk
      walk_at "vs"
      rw [Int.zero_add]
      try simp only [gMod]
      refine ⟨by decide, eq_ints ?_⟩
      by_cases h2 : done.length % 2 = 0
      · rw [decide_eq_true (by omega)]
        rw [if_pos h2] at ha
        walk_at "vs"
        refine ix_lst _ hps ?_
        walk_at "vs"
        rw [← ha]
        exact hK2 _ _ ⟨_, by rw [List.length_append]; rfl⟩
      · rw [decide_eq_false (by omega)]
        rw [if_neg h2] at ha
        walk_at "vs"
        refine ix_lst _ hps ?_
        walk_at "vs"
        rw [Int.zero_sub, ← ha]
        exact hK2 _ _ ⟨_, by rw [List.length_append]; rfl⟩
    · obtain ⟨s4, rfl⟩ := h
      rw [List.length_range, List.take_length]
      refine hK _ _ ?_
      walk_at "vs"
      exact q
end VL

set_option Elab.async false
set_option linter.all false
set_option maxRecDepth 100000
set_option maxHeartbeats 4000000
namespace VL
open PySem PySem.Spec PyProof.Rows L2
local macro_rules
  | `(tactic| walk_at "vs") => `(tactic| try simp only [wSeq, wNx, wNever, wSet, wDrop, wRet, wRetV, wRetN, wIf, wAsg, wPar, wPar3, wBnil, wBcons, wGname, wGtup, wGcons, wGnil, wFor, wFz, wSh, wVar, wC, wOe, wOv, wOnil, wOcons, wXL, wX2, wX2T, wX1, wTst, wAnd, wOr, wNot, wAndV, wOrV, wUn, dNot, wIfE, wIfD, wNil, wCons, wTup, wTupF, wRaise, wTry, wLst,
  wItK, wItF, wLc, wDc, wipeE, wYes, wCall, wCallB2, wThawL, wMeth, wMake, wFldO, wGet1, wGet2, wVals, wM, wMO, wSub, wDnK, wDnT, wStar, wDspK, wDspT, wSl, wSl3, wPnone, wPsome, wSetS, wSrtM, wSrc, wSrcLen, wSrcPop, wSrcSet, wSrcNew, liftC, liftCI, wPs, gAdd, gSub, gLt, gLe, gGt, gGe, gNeg, gRng, gLen, gInt, gList, gTuple, gIs, gIsN, isNon, anyD,
  startE, List.map_cons, List.map_nil, List.length_cons, List.length_nil, Nat.reduceAdd, Nat.reduceSub, List.replicate_succ, List.replicate_zero, List.cons_append, List.nil_append, List.getElem?_cons_zero, List.getElem?_cons_succ, List.getElem?_nil, List.set_cons_zero, List.set_cons_succ, List.set_nil,
  rs, rss, slD, R.d, R.sl, oL, ob, oD, owD, isLO, tR, Option.bind_some, Option.isSome_some, true_and, and_true, if_true, if_false, Bool.false_eq_true, Bool.not_true, Bool.not_false, ite_true, ite_false, reduceIte, reduceCtorEq])
theorem mergeD_nodup {κ : Type} [DecidableEq κ] {kvs : List (κ × D)} (h : (kvs.map (·.1)).Nodup) : mergeD kvs = kvs := by
  have : ∀ (todo acc : List (κ × D)), ((acc ++ todo).map (·.1)).Nodup → todo.foldl (fun acc kv => putD acc kv.1 kv.2) acc = acc ++ todo := by
    intro todo
    induction todo with
    | nil => intro acc _; simp
    | cons x todo ih =>
      intro acc h
      rw [List.foldl_cons]
      have hx : x.1 ∉ acc.map (·.1) := by
        rw [List.map_append, List.map_cons, List.nodup_append] at h
        exact fun hx => h.2.2 _ hx _ (List.mem_cons_self ..) rfl
      rw [putD_new hx, ih _ (by rw [List.append_assoc]; exact h)]
      simp
  exact this kvs [] h
def rowK (r : Str × Int) : Key × D := (.inr r.1, .int r.2)
theorem rowD_pair (rows : List (Str × Int)) : rows.map rowD = (rows.map rowK).map pairD := by
  rw [List.map_map]; rfl
theorem rowK_val (rows : List (Str × Int)) (n : Str) : valD (rows.map rowK) (.inr n) = (valD rows n).map D.int := by
  unfold valD
  rw [List.find?_map]
  have e : ((fun kv : Key × D => decide (kv.1 = Sum.inr n)) ∘ rowK) = fun r : Str × Int => decide (r.1 = n) := by
    funext r
    unfold rowK
    simp
  rw [e]
  cases rows.find? fun r => decide (r.1 = n) <;> rfl
theorem rowK_nd {rows : List (Str × Int)} (h : (rows.map (·.1)).Nodup) : ((rows.map rowK).map (·.1)).Nodup := by
  have e : (rows.map rowK).map (·.1) = (rows.map (·.1)).map (Sum.inr : Str → Key) := by rw [List.map_map, List.map_map]; rfl
  rw [e]
  exact List.pairwise_map.mpr (h.imp fun h e => h (Sum.inr.inj e))
theorem h__law_stepped (C : CS) : ∀ ds (Q : R → Prop) (E : Xn → Prop), c__law_stepped C ds Q E → bodyC N__law_stepped 2 (w__law_stepped C) ds () (fun r _ => Q r) fun x _ => E x := by
  rintro ds Q E ⟨l, rows, hds, hg, hnd, hz, q⟩
  have hsz := hg.sz
  refine ⟨by rcases hds with rfl | rfl <;> rfl, ?_⟩
  unfold w__law_stepped
  refine seq_cut (fun e t => ∃ s1 s3 s4 s5, e = [.sh (woD C l), s1, .ow (.dk (rows.map rowK)), s3, s4, s5]) (fun e t h => ?_) fun nx hnx => ?_
  rotate_left
  · rcases hds with rfl | rfl
    all_goals
      walk_at "vs"
      simp only [gDict]
      refine ⟨rows.map rowK, rowD_pair rows, ?_⟩
      rw [mergeD_nodup (rowK_nd hnd)]
      exact hnx _ _ ⟨_, _, _, _, rfl⟩
  obtain ⟨s1, s3, s4, s5, rfl⟩ := h
  walk_at "vs"
  refine get_people ?_
  walk_at "vs"
  refine lc_listW l (fun _ => true) (fun x => .int (stepR rows x).p) (fits (by omega)) (fun x hx acc K ha hk => ?_) fun e he => ?_
  · walk_at "vs"
    unfold pD
    walk_at "vs"
    refine ⟨rfl, ?_⟩
    simp only [getDk, toK]
    rw [rowK_val]
    unfold stepR at hk
    cases hv : valD rows x.n with
    | none =>
      rw [hv] at hk
      simp only [Option.map_none, Option.getD_none]
      walk_at "vs"
      exact ⟨ha, hk⟩
    | some b =>
      rw [hv] at hk
      simp only [Option.map_some, Option.getD_some]
      walk_at "vs"
      exact ⟨ha, hk⟩
  · rw [List.filter_eq_self.mpr fun _ _ => rfl]
    walk_at "vs"
    have e : (l.map fun x => D.int (stepR rows x).p) = intsD ((l.map (stepR rows)).map (·.p)) := by simp [intsD, Function.comp_def]
    rw [e]
    exact q
end VL

set_option Elab.async false
set_option linter.all false
set_option maxRecDepth 100000
set_option maxHeartbeats 8000000
namespace VL
open PySem PySem.Spec PyProof.Rows L2
local macro_rules
  | `(tactic| walk_at "vs") => `(tactic| try simp only [wSeq, wNx, wNever, wSet, wDrop, wRet, wRetV, wRetN, wIf, wAsg, wPar, wPar3, wBnil, wBcons, wGname, wGtup, wGcons, wGnil, wFor, wFz, wSh, wVar, wC, wOe, wOv, wOnil, wOcons, wXL, wX2, wX2T, wX1, wTst, wAnd, wOr, wNot, wAndV, wOrV, wUn, dNot, wIfE, wIfD, wNil, wCons, wTup, wTupF, wRaise, wTry, wLst,
  wItK, wItF, wLc, wDc, wipeE, wYes, wCall, wCallB2, wThawL, wMeth, wMake, wFldO, wGet1, wGet2, wVals, wM, wMO, wSub, wDnK, wDnT, wStar, wDspK, wDspT, wSl, wSl3, wPnone, wPsome, wSetS, wSrtM, wSrc, wSrcLen, wSrcPop, wSrcSet, wSrcNew, liftC, liftCI, wPs, gAdd, gSub, gLt, gLe, gGt, gGe, gNeg, gRng, gLen, gInt, gList, gTuple, gIs, gIsN, isNon, anyD,
  startE, List.map_cons, List.map_nil, List.length_cons, List.length_nil, Nat.reduceAdd, Nat.reduceSub, List.replicate_succ, List.replicate_zero, List.cons_append, List.nil_append, List.getElem?_cons_zero, List.getElem?_cons_succ, List.getElem?_nil, List.set_cons_zero, List.set_cons_succ, List.set_nil,
  rs, rss, slD, R.d, R.sl, oL, ob, oD, owD, isLO, tR, Option.bind_some, Option.isSome_some, true_and, and_true, if_true, if_false, Bool.false_eq_true, Bool.not_true, Bool.not_false, ite_true, ite_false, reduceIte, reduceCtorEq])
local macro_rules
  | `(tactic| walk_at "vd") => `(tactic| simp (decide := true) only [ne_eq, decide_true, decide_false, Int.cast_ofNat_Int, not_true_eq_false, not_false_eq_true, Bool.not_true, Bool.not_false, if_true, if_false, ite_true, ite_false, reduceIte, reduceCtorEq, Bool.false_eq_true])
local macro_rules
  | `(tactic| walk_at "vx") => `(tactic| first | refine VL.ix_tup 0 rfl ?_ | refine VL.ix_tup 1 rfl ?_ | refine VL.ix_tup 2 rfl ?_ | refine VL.ix_tup 3 rfl ?_)
theorem repr_lits : reprText "steps" ≠ reprText "voices" ∧ (reprText ("steps" : Str)).length ≤ 100 ∧ (reprText ("voices" : Str)).length ≤ 100 := by decide +kernel
theorem sum_mod {l2 : List Pn} (h : (l2.map (·.v)).sum % 2 = 1) : ¬ (l2.map (·.v)).sum % 2 = 0 := by omega
theorem seen_ok {l : List Pn} {ns done todo : List Str} {n : Str} (hn : Nms l ns) (h : ns = done ++ n :: todo) : n ∉ done := nodup_mid hn.nd h
theorem get_ix {l : List D} {i : Nat} {d : D} (h : l[i]? = some d) {k : R → Prop} (q : k (.sh d)) : gIx (.tup l) (.int (0 + (i : Int))) k := by rw [Int.zero_add]; exact ix_tup i h q
theorem ix_pt {l : List D} {d : D} {k : R → Prop} (i : Nat) (h : l[i]? = some d) (q : k (.sh d)) : gIx (.pt l) (.int i) k := by
  simp only [gIx]
  rw [atI_nat h]
  exact q
theorem map_mid {α β : Type} (f : α → β) {l done todo : List α} {x : α} (h : l = done ++ x :: todo) : (l.map f)[done.length]? = some (f x) := by rw [h]; simp
theorem h__law_verdict (C : CS) : ∀ ds (Q : R → Prop) (E : Xn → Prop), c__law_verdict C ds Q E → bodyC N__law_verdict 3 (w__law_verdict C) ds () (fun r _ => Q r) fun x _ => E x := by
  rintro ds Q E ⟨l, l2, z, d, rfl, hg, hr, q⟩
  have hg2 := right_good hg hr
  have hsz := hg.sz
  obtain ⟨rl1, rl2, rl3⟩ := repr_lits
  refine ⟨rfl, ?_⟩
  unfold w__law_verdict
  refine seq_cut (fun e t => e = [.sh (woD C l), .sh (.int z), .sh d, .un, .un, .un, .un, .un, .un, .un, .un]) (fun e t h => ?_) fun nx hnx => ?_
  · subst h
    refine seq_cut (fun e t => e = [.sh (woD C l), .sh (.int z), .sh d, .un, .un, .un, .un, .un, .un, .un, .un]) (fun e t h => ?_) fun nx hnx => ?_
    · subst h
      refine seq_cut (fun e t => ∃ s10, e = [.sh (woD C l), .sh (.int z), .sh d, .ow (.lst (strsD (l.map (·.n)))), .ow (.lst []), .un, .un, .un, .un, .un, s10]) (fun e t h => ?_) fun nx hnx => ?_
      · obtain ⟨s10, rfl⟩ := h
        refine seq_cut (fun e t => ∃ s5 s10, e = [.sh (woD C l), .sh (.int z), .sh d, .ow (.lst (strsD (l.map (·.n)))), .ow (.lst []), s5, .un, .un, .un, .un, s10]) (fun e t h => ?_) fun nx hnx => ?_
        · obtain ⟨s5, s10, rfl⟩ := h
          refine seq_cut (fun e t => ∃ (ns : List Str) (s5 s6 s7 s8 s9 s10 : Sl), e = [.sh (woD C l), .sh (.int z), .sh d, .ow (.lst (strsD (l.map (·.n)))), .ow (.lst (strsD ns)), s5, s6, s7, s8, s9, s10] ∧ ((d = vpD ns ∧ l2 = l.map (turnV ns)) ∨ ∃ rows, d = spapD rows ∧ Rows l rows ∧ l2 = l.map (stepR rows))) (fun e t h => ?_) fun nx hnx => ?_
          · obtain ⟨ns, s5, s6, s7, s8, s9, s10, rfl, hd⟩ := h
            refine seq_cut (fun e t => ∃ (s0 s3 s4 s5 s6 s7 s9 s10 : Sl), e = [s0, .sh (.int z), .sh d, s3, s4, s5, s6, s7, .ow (woD C l2), s9, s10]) (fun e t h => ?_) fun nx hnx => ?_
            · obtain ⟨s0, s3, s4, s5, s6, s7, s9, s10, rfl⟩ := h
              refine seq_step fun K hK => ?_
              walk_at "vs"
              refine ⟨l2, rfl, hg2, ?_⟩
              walk_at "vs"
              try simp only [gMod]
              refine ⟨by decide, eq_ints ?_⟩
              rw [hr.2.1]
              walk_at "vd"
              refine hK _ _ ?_
              clear hK K
              refine seq_step fun K hK => ?_
              walk_at "vs"
              refine ⟨l2, rfl, hg2, ?_⟩
              walk_at "vs"
              refine ⟨l2, rfl, hg2, ?_⟩
              refine hK _ _ ?_
              clear hK K
              walk_at "vs"
              refine eq_ints ?_
              rw [decide_eq_true hr.2.2]
              walk_at "vs"
              exact q
            · rcases hd with ⟨rfl, rfl⟩ | ⟨rows, rfl, hrr, rfl⟩
              · walk_at "vs"
                unfold vpD
                walk_at "vx"
                walk_at "vs"
                refine eq_str ?_
                walk_at "vd"
                walk_at "vs"
                refine ⟨l, ns, rfl, hg, ?_⟩
                walk_at "vs"
                exact hnx _ _ ⟨_, _, _, _, _, _, _, _, rfl⟩
              · walk_at "vs"
                unfold spapD
                walk_at "vx"
                walk_at "vs"
                refine eq_str ?_
                walk_at "vd"
                walk_at "vs"
                walk_at "vx"
                walk_at "vs"
                refine ⟨l, rows, .inr rfl, hg, hrr.nd, rows_len hg hrr, ?_⟩
                walk_at "vs"
                refine ⟨l, (l.map (stepR rows)).map (·.p), rfl, hg, by simp, ?_⟩
                have e : l.zipWith (fun (x : Pn) (p : Int) => { x with p := p }) ((l.map (stepR rows)).map (·.p)) = l.map (stepR rows) := by
                  rw [List.map_map, List.zipWith_map_right]
                  have : ∀ l : List Pn, l.zipWith (fun (x y : Pn) => ({ x with p := ((·.p) ∘ stepR rows) y } : Pn)) l = l.map (stepR rows) := by
                    intro l
                    induction l with
                    | nil => rfl
                    | cons x l ih => rw [List.zipWith_cons_cons, ih]; rfl
                  exact this l
                rw [e]
                exact hnx _ _ ⟨_, _, _, _, _, _, _, _, rfl⟩
          · rcases hr.1 with ⟨ns, rfl, hn, e⟩ | ⟨rows, rfl, hrr, e⟩
            · have hnl := nms_len hg hn
              walk_at "vs"
              unfold vpD
              walk_at "vx"
              walk_at "vs"
              simp only [rng1]
              have il : (strsD ns).length = ns.length := by unfold strsD; rw [List.length_map]
              rw [il]
              refine ⟨⟨by omega, by omega⟩, ?_⟩
              rw [Int.toNat_natCast, rng_eq]
              refine forL_list (List.range ns.length) (fun done e t => ∃ (s5 s6 s7 : Sl), e = [.sh (woD C l), .sh (.int z), .sh (vpD ns), .ow (.lst (strsD (l.map (·.n)))), .ow (.lst (strsD (ns.take done.length))), s5, s6, s7, .un, .un, s10]) (fun done k todo K2 e t hl hK2 h => ?_) (fun e t h => ?_) ⟨_, _, _, rfl⟩
              · obtain ⟨s5, s6, s7, rfl⟩ := h
                obtain ⟨rfl, hk⟩ := range_at hl
                have hgt := getD_at (d := ("" : Str)) hk
                have hmem : ns.getD done.length "" ∈ ns := List.mem_of_getElem? hgt
                have hdl : ns = ns.take done.length ++ ns.getD done.length "" :: ns.drop (done.length + 1) := by
                  have h1 := List.take_append_drop done.length ns
                  rw [List.drop_eq_getElem_cons hk] at h1
                  have : ns.getD done.length "" = ns[done.length] := by simp [List.getD, List.getElem?_eq_getElem hk]
                  rw [this, h1]
                have hnt := nodup_mid hn.nd hdl
                have htk : ns.take (done.length + 1) = ns.take done.length ++ [ns.getD done.length ""] := by rw [List.take_add_one, hgt]; rfl
                refine seq_step fun K hK => ?_
                walk_at "vs"
                unfold vpD
                walk_at "vx"
                walk_at "vs"
                refine eq_str ?_
                walk_at "vd"
                walk_at "vs"
                walk_at "vx"
                walk_at "vs"
                rw [Int.zero_add]
                refine ix_tup _ (show (strsD ns)[done.length]? = some (.str (ns.getD done.length "")) by unfold strsD; rw [List.getElem?_map, hgt]; rfl) ?_
                walk_at "vs"
                generalize ns.getD done.length "" = n at hmem hnt htk ⊢
                refine hK _ _ ?_
                clear hK K
                refine seq_step fun K hK => ?_
                walk_at "vs"
                refine isi_mk (t := "str") rfl (by decide) (b := true) (by decide) ?_
                walk_at "vs"
                refine notin_lst_strs (l.map (·.n)) rfl ?_
                rw [decide_eq_true (hn.mem n hmem)]
                walk_at "vs"
                refine in_strs ?_
                rw [decide_eq_false hnt]
                walk_at "vs"
                refine hK _ _ ?_
                clear hK K
                walk_at "vs"
                simp only [gAppend]
                refine ⟨by unfold strsD; rw [List.length_map, List.length_take]; exact fits' (by omega), ?_⟩
                have e4 : strsD (ns.take done.length) ++ [.str n] = strsD (ns.take (done.length + 1)) := by unfold strsD; rw [htk, List.map_append]; rfl
                rw [e4]
                exact hK2 _ _ ⟨_, _, _, by rw [List.length_append]; rfl⟩
              · obtain ⟨s5, s6, s7, rfl⟩ := h
                rw [List.length_range, List.take_length]
                exact hnx _ _ ⟨ns, _, _, _, _, _, _, rfl, .inl ⟨rfl, e⟩⟩
            · have hnl := rows_len hg hrr
              walk_at "vs"
              unfold spapD
              walk_at "vx"
              walk_at "vs"
              simp only [rng1]
              rw [List.length_map]
              refine ⟨⟨by omega, by omega⟩, ?_⟩
              rw [Int.toNat_natCast, rng_eq]
              refine forL_list (List.range rows.length) (fun done e t => ∃ (s5 s6 s7 : Sl), e = [.sh (woD C l), .sh (.int z), .sh (spapD rows), .ow (.lst (strsD (l.map (·.n)))), .ow (.lst (strsD ((rows.map (·.1)).take done.length))), s5, s6, s7, .un, .un, s10]) (fun done k todo K2 e t hl hK2 h => ?_) (fun e t h => ?_) ⟨_, _, _, rfl⟩
              · obtain ⟨s5, s6, s7, rfl⟩ := h
                obtain ⟨rfl, hk⟩ := range_at hl
                have hk' : done.length < (rows.map (·.1)).length := by rw [List.length_map]; exact hk
                have hgt := getD_at (d := (("" : Str), (0 : Int))) hk
                have hmem : rows.getD done.length ("", 0) ∈ rows := List.mem_of_getElem? hgt
                have hnt : (rows.getD done.length ("", 0)).1 ∉ (rows.map (·.1)).take done.length := by
                  refine nodup_mid (todo := (rows.map (·.1)).drop (done.length + 1)) hrr.nd ?_
                  have h1 := List.take_append_drop done.length (rows.map (·.1))
                  rw [List.drop_eq_getElem_cons hk', List.getElem_map] at h1
                  have : rows.getD done.length ("", 0) = rows[done.length] := by simp [List.getD, List.getElem?_eq_getElem hk]
                  rw [this, h1]
                have htk : (rows.map (·.1)).take (done.length + 1) = (rows.map (·.1)).take done.length ++ [(rows.getD done.length ("", 0)).1] := by rw [List.take_add_one, List.getElem?_map, hgt]; rfl
                refine seq_step fun K hK => ?_
                walk_at "vs"
                unfold spapD
                walk_at "vx"
                walk_at "vs"
                refine eq_str ?_
                walk_at "vd"
                walk_at "vs"
                walk_at "vx"
                walk_at "vs"
                rw [Int.zero_add]
                refine ix_pt _ (show (rows.map rowD)[done.length]? = some (rowD (rows.getD done.length ("", 0))) by rw [List.getElem?_map, hgt]; rfl) ?_
                walk_at "vs"
                generalize rows.getD done.length ("", 0) = r at hmem hnt htk ⊢
                unfold rowD
                walk_at "vx"
                walk_at "vs"
                refine hK _ _ ?_
                clear hK K
                refine seq_step fun K hK => ?_
                walk_at "vs"
                refine isi_mk (t := "str") rfl (by decide) (b := true) (by decide) ?_
                walk_at "vs"
                refine notin_lst_strs (l.map (·.n)) rfl ?_
                rw [decide_eq_true (hrr.mem r hmem)]
                walk_at "vs"
                refine in_strs ?_
                rw [decide_eq_false hnt]
                walk_at "vs"
                refine hK _ _ ?_
                clear hK K
                walk_at "vs"
                simp only [gAppend]
                refine ⟨by unfold strsD; rw [List.length_map, List.length_take]; exact fits' (by omega), ?_⟩
                have e4 : strsD ((rows.map (·.1)).take done.length) ++ [.str r.1] = strsD ((rows.map (·.1)).take (done.length + 1)) := by unfold strsD; rw [htk, List.map_append]; rfl
                rw [e4]
                exact hK2 _ _ ⟨_, _, _, by rw [List.length_append]; rfl⟩
              · obtain ⟨s5, s6, s7, rfl⟩ := h
                exact hnx _ _ ⟨_, _, _, _, _, _, _, rfl, .inr ⟨rows, rfl, hrr, e⟩⟩
        · rcases hr.1 with ⟨ns, rfl, hn, e⟩ | ⟨rows, rfl, hrr, e⟩
          · walk_at "vs"
            unfold vpD
            walk_at "vx"
            walk_at "vs"
            refine eq_str ?_
            walk_at "vd"
            walk_at "vs"
            exact hnx _ _ ⟨_, _, rfl⟩
          · walk_at "vs"
            unfold spapD
            walk_at "vx"
            walk_at "vs"
            refine eq_str ?_
            walk_at "vd"
            walk_at "vs"
            walk_at "vx"
            walk_at "vs"
            refine forL_list rows (fun done e t => ∃ s5, e = [.sh (woD C l), .sh (.int z), .sh (spapD rows), .ow (.lst (strsD (l.map (·.n)))), .ow (.lst []), s5, .un, .un, .un, .un, s10]) (fun done r todo K e t hl hK h => ?_) (fun e t h => ?_) ⟨_, rfl⟩
            · obtain ⟨s5, rfl⟩ := h
              walk_at "vs"
              unfold rowD
              refine isi_mk (t := "tuple") rfl (by decide) (b := true) (by decide) ?_
              walk_at "vs"
              refine ne_ints ?_
              walk_at "vd"
              walk_at "vs"
              walk_at "vx"
              walk_at "vs"
              refine ⟨_, rfl, ?_⟩
              walk_at "vs"
              walk_at "vx"
              walk_at "vs"
              refine eq_ints ?_
              rw [decide_eq_false (hrr.nz r (by rw [hl]; simp))]
              walk_at "vs"
              exact hK _ _ ⟨_, rfl⟩
            · obtain ⟨s5, rfl⟩ := h
              exact hnx _ _ ⟨_, _, rfl⟩
      · walk_at "vs"
        refine get_people ?_
        walk_at "vs"
        refine lc_list l (fun _ => true) (fun x => .str x.n) (fits (by omega)) (fun x hx acc K ha hk => ?_) ?_
        · walk_at "vs"
          unfold pD
          walk_at "vx"
          walk_at "vs"
          exact ⟨ha, hk⟩
        · rw [List.filter_eq_self.mpr fun _ _ => rfl]
          have en : (l.map fun x => D.str x.n) = strsD (l.map (·.n)) := by unfold strsD; rw [List.map_map]; rfl
          rw [en]
          walk_at "vs"
          exact ⟨fits (by decide), hnx _ _ ⟨_, rfl⟩⟩
    · rcases hr.1 with ⟨ns, rfl, hn, e⟩ | ⟨rows, rfl, hrr, e⟩
      · walk_at "vs"
        unfold vpD
        walk_at "vx"
        walk_at "vs"
        refine isi_mk (t := "tuple") rfl (by decide) (b := true) (by decide) ?_
        walk_at "vs"
        exact hnx _ _ rfl
      · walk_at "vs"
        unfold spapD
        walk_at "vx"
        walk_at "vs"
        refine isi_mk (t := "tuple") rfl (by decide) (b := true) (by decide) ?_
        walk_at "vs"
        exact hnx _ _ rfl
  · have key : ∀ (k : Str) (items : D), k ∈ (["steps", "voices"] : List Str) → d = .tup [.str k, items] → (reprText k).length ≤ 100 ∧ decide (reprText k ∈ [reprText "steps", reprText "voices"]) = true := by
      intro k items hk _
      rcases List.mem_cons.mp hk with rfl | hk
      · exact ⟨rl2, decide_eq_true (by simp)⟩
      · rw [List.mem_singleton.mp hk]
        exact ⟨rl3, decide_eq_true (by simp)⟩
    have hd : ∃ k items, k ∈ (["steps", "voices"] : List Str) ∧ d = .tup [.str k, items] := by
      rcases hr.1 with ⟨ns, rfl, hn, e⟩ | ⟨rows, rfl, hrr, e⟩
      · exact ⟨"voices", _, by simp, rfl⟩
      · exact ⟨"steps", _, by simp, rfl⟩
    obtain ⟨k, items, hk, rfl⟩ := hd
    obtain ⟨k1, k2⟩ := key k items hk rfl
    walk_at "vs"
    refine isi_mk (t := "tuple") rfl (by decide) (b := true) (by decide) ?_
    walk_at "vs"
    refine ne_ints ?_
    walk_at "vd"
    walk_at "vs"
    walk_at "vx"
    walk_at "vs"
    simp only [gRepr]
    refine ⟨fits (by omega), fits (by omega), fits (by omega), ?_⟩
    walk_at "vs"
    refine notin_lst_strs [reprText "steps", reprText "voices"] rfl ?_
    rw [k2]
    walk_at "vs"
    exact hnx _ _ rfl
end VL

set_option Elab.async false
set_option linter.all false
set_option maxRecDepth 100000
set_option maxHeartbeats 8000000
namespace VL
open PySem PySem.Spec PyProof.Rows L2
local macro_rules
  | `(tactic| walk_at "vs") => `(tactic| try simp only [wSeq, wNx, wNever, wSet, wDrop, wRet, wRetV, wRetN, wIf, wAsg, wPar, wPar3, wBnil, wBcons, wGname, wGtup, wGcons, wGnil, wFor, wFz, wSh, wVar, wC, wOe, wOv, wOnil, wOcons, wXL, wX2, wX2T, wX1, wTst, wAnd, wOr, wNot, wAndV, wOrV, wUn, dNot, wIfE, wIfD, wNil, wCons, wTup, wTupF, wRaise, wTry, wLst,
  wItK, wItF, wLc, wDc, wipeE, wYes, wCall, wCallB2, wThawL, wMeth, wMake, wFldO, wGet1, wGet2, wVals, wM, wMO, wSub, wDnK, wDnT, wStar, wDspK, wDspT, wSl, wSl3, wPnone, wPsome, wSetS, wSrtM, wSrc, wSrcLen, wSrcPop, wSrcSet, wSrcNew, liftC, liftCI, wPs, gAdd, gSub, gLt, gLe, gGt, gGe, gNeg, gRng, gLen, gInt, gList, gTuple, gIs, gIsN, isNon, anyD,
  startE, List.map_cons, List.map_nil, List.length_cons, List.length_nil, Nat.reduceAdd, Nat.reduceSub, List.replicate_succ, List.replicate_zero, List.cons_append, List.nil_append, List.getElem?_cons_zero, List.getElem?_cons_succ, List.getElem?_nil, List.set_cons_zero, List.set_cons_succ, List.set_nil,
  rs, rss, slD, R.d, R.sl, oL, ob, oD, owD, isLO, tR, Option.bind_some, Option.isSome_some, true_and, and_true, if_true, if_false, Bool.false_eq_true, Bool.not_true, Bool.not_false, ite_true, ite_false, reduceIte, reduceCtorEq])
theorem h_with_voice (C : CS) : ∀ ds (Q : R → Prop) (E : Xn → Prop), c_with_voice C ds Q E → bodyC N_with_voice 1 (w_with_voice C) ds () (fun r _ => Q r) fun x _ => E x := by
  rintro ds Q E ⟨l, rfl, hg, q⟩
  refine ⟨rfl, ?_⟩
  unfold w_with_voice
  walk_at "vs"
  unfold stD
  walk_at "vs"
  refine ⟨rfl, l, rfl, hg, ?_⟩
  walk_at "vs"
  have hll : (lineL l).length ≤ 1000 := by rw [(line_perm l).length_eq]; exact hg.sz
  show wLcL _ _ _ _ (((lineL l).map (·.n)).map D.str) _ _ _ _
  rw [List.map_map]
  refine lc_list (lineL l) (fun x => x.v == 1) (fun x => .str x.n) (fits (by omega)) (fun x hx acc K ha hk => ?_) ?_
  · have hxl := (line_perm l).mem_iff.mp hx
    walk_at "vs"
    refine ⟨rfl, l, x, rfl, hg, hxl, ?_⟩
    walk_at "vs"
    refine eq_ints ?_
    by_cases h : x.v = 1
    · rw [if_pos (by simpa using h)] at hk
      rw [decide_eq_true h]
      walk_at "vs"
      exact ⟨ha, hk⟩
    · rw [if_neg (by simpa using h)] at hk
      rw [decide_eq_false h]
      walk_at "vs"
      exact hk
  · walk_at "vs"
    have e : ((lineL l).filter fun x => x.v == 1).map (fun x => D.str x.n) = strsD ((vLine l).map (·.n)) := by unfold strsD vLine; rw [List.map_map]; rfl
    rw [e]
    exact q
theorem h_need_odd (C : CS) : ∀ ds (Q : R → Prop) (E : Xn → Prop), c_need_odd C ds Q E → bodyC N_need_odd 1 (w_need_odd C) ds () (fun r _ => Q r) fun x _ => E x := by
  rintro ds Q E ⟨l, rfl, hg, hv, q⟩
  refine ⟨rfl, ?_⟩
  unfold w_need_odd
  walk_at "vs"
  unfold stD
  walk_at "vs"
  refine ⟨rfl, l, rfl, hg, ?_⟩
  walk_at "vs"
  try simp only [gMod]
  refine ⟨by decide, eq_ints ?_⟩
  rw [decide_eq_false (show ¬ (l.map (·.v)).sum % 2 = 0 by unfold vSum at hv; omega)]
  walk_at "vs"
  exact q
theorem h_meeting_place (C : CS) : ∀ ds (Q : R → Prop) (E : Xn → Prop), c_meeting_place C ds Q E → bodyC N_meeting_place 1 (w_meeting_place C) ds () (fun r _ => Q r) fun x _ => E x := by
  rintro ds Q E ⟨l, rfl, hg, hv, q⟩
  refine ⟨rfl, ?_⟩
  unfold w_meeting_place
  refine seq_step fun K hK => ?_
  walk_at "vs"
  refine ⟨l, rfl, hg, hv, ?_⟩
  refine hK _ _ ?_
  walk_at "vs"
  exact ⟨l, rfl, hg, q⟩
theorem h_wished_steps (C : CS) : ∀ ds (Q : R → Prop) (E : Xn → Prop), c_wished_steps C ds Q E → bodyC N_wished_steps 2 (w_wished_steps C) ds () (fun r _ => Q r) fun x _ => E x := by
  rintro ds Q E ⟨l, z, rfl, hg, q⟩
  refine ⟨rfl, ?_⟩
  unfold w_wished_steps
  refine seq_step fun K hK => ?_
  walk_at "vs"
  unfold stD
  walk_at "vs"
  refine ⟨rfl, l, rfl, hg, ?_⟩
  walk_at "vs"
  try simp only [gMod]
  refine ⟨by decide, eq_ints ?_⟩
  by_cases hv : vSum l % 2 = 0
  · rw [if_pos hv] at q
    rw [decide_eq_true (show (l.map (·.v)).sum % 2 = 0 from hv)]
    walk_at "vs"
    exact q
  rw [if_neg hv] at q
  rw [decide_eq_false (show ¬ (l.map (·.v)).sum % 2 = 0 from hv)]
  walk_at "vs"
  refine hK _ _ ?_
  clear hK K
  refine seq_step fun K hK => ?_
  walk_at "vs"
  refine ⟨l, rfl, hg, ?_⟩
  walk_at "vs"
  refine hK _ _ ?_
  clear hK K
  refine seq_step fun K hK => ?_
  walk_at "vs"
  refine ⟨l, rfl, hg, ?_⟩
  refine hK _ _ ?_
  clear hK K
  have hlen := vLine_len hg
  have hne : 0 < (vLine l).length := by omega
  refine seq_step fun K hK => ?_
  walk_at "vs"
  refine eq_ints ?_
  have et : z - altS (placesV l) = z - turnS l := rfl
  rw [et]
  by_cases h0 : z - turnS l = 0
  · rw [decide_eq_true h0]
    walk_at "vs"
    have e : wishRows l z = [] := by unfold wishRows; rw [if_pos h0]
    rw [e] at q
    exact ⟨fits (by decide), fits (by decide), q⟩
  · rw [decide_eq_false h0]
    walk_at "vs"
    refine hK _ _ ?_
    clear hK K
    walk_at "vs"
    by_cases hp : 0 < z - turnS l
    · rw [decide_eq_true hp]
      walk_at "vs"
      have hl : ((vLine l).map (·.n)).getLast? = (vLine l).getLast?.map (·.n) := by rw [List.getLast?_map]
      obtain ⟨r, o, er⟩ : ∃ r o, vLine l = r ++ [o] := ⟨_, _, (List.dropLast_concat_getLast (List.ne_nil_of_length_pos hne)).symm⟩
      have e : wishRows l z = [(o.n, z - turnS l)] := by
        unfold wishRows
        rw [if_neg h0, if_pos hp, er]; simp
      rw [e] at q
      have es : strsD ((vLine l).map (·.n)) = strsD (r.map (·.n)) ++ [D.str o.n] := by rw [er]; unfold strsD; simp
      rw [es]
      refine ix_last ?_
      walk_at "vs"
      exact ⟨fits (by decide), fits (by decide), fits (by decide), q⟩
    · rw [decide_eq_false hp]
      walk_at "vs"
      obtain ⟨o, r, er⟩ : ∃ o r, vLine l = o :: r := by
        cases h : vLine l with
        | nil => rw [h] at hne; exact absurd hne (by decide)
        | cons o r => exact ⟨o, r, rfl⟩
      have e : wishRows l z = [(o.n, z - turnS l)] := by
        unfold wishRows
        rw [if_neg h0, if_neg hp, er]; rfl
      rw [e] at q
      have es : strsD ((vLine l).map (·.n)) = D.str o.n :: strsD (r.map (·.n)) := by rw [er]; rfl
      rw [es]
      refine ix_lst 0 rfl ?_
      walk_at "vs"
      exact ⟨fits (by decide), fits (by decide), fits (by decide), q⟩
theorem at_vs : ∀ {l : List Pn} {ps : List Int}, ps.length = l.length → (l.zipWith (fun (x : Pn) (p : Int) => ({ x with p := p } : Pn)) ps).map (·.v) = l.map (·.v)
  | [], ps, _ => by simp
  | x :: l, [], h => by simp at h
  | x :: l, p :: ps, h => by rw [List.zipWith_cons_cons, List.map_cons, List.map_cons, at_vs (l := l) (by simpa using h)]
theorem at_sum {l : List Pn} {ps : List Int} (h : ps.length = l.length) : vSum (l.zipWith (fun (x : Pn) (p : Int) => { x with p := p }) ps) = vSum l := by
  unfold vSum
  rw [at_vs h]
theorem at_mem {l : List Pn} {qs : List Int} {B : Int} (hq : ∀ z ∈ qs, -B ≤ z ∧ z ≤ B) : ∀ x ∈ l.zipWith (fun (x : Pn) (p : Int) => { x with p := p }) qs, -B ≤ x.p ∧ x.p ≤ B := by
  intro y hy
  obtain ⟨i, hi⟩ := List.mem_iff_getElem?.mp hy
  rw [List.getElem?_zipWith] at hi
  cases h : l[i]? with
  | none => rw [h] at hi; cases h2 : qs[i]? <;> (rw [h2] at hi; cases hi)
  | some x =>
    cases h2 : qs[i]? with
    | none => rw [h, h2] at hi; cases hi
    | some z => rw [h, h2] at hi; cases hi; exact hq z (List.mem_of_getElem? h2)
theorem h__law_crowded (C : CS) : ∀ ds t Q E, c__law_crowded C ds t Q E → bodyC N__law_crowded 4 (w__law_crowded C) ds t Q E := by
  rintro ds t Q E ⟨p, m, f, r, rfl, hp, m1, m2, f1, f2, r1, r2, q⟩
  refine ⟨rfl, ?_⟩
  unfold w__law_crowded
  refine seq_step fun K hK => ?_
  walk_at "vs"
  refine ⟨p, m, f, r, rfl, hp, m1, m2, f1, f2, r1, fun t1 l hp1 hg hl1 hl2 hpl hvs => ?_⟩
  walk_at "vs"
  refine ⟨p, _, rfl, hp1, by decide, fun t2 way hp2 w0 w1 => ?_⟩
  refine hK _ _ ?_
  clear hK K
  have hvs' := hvs r2
  have hsz := hg.sz
  refine seq_step fun K hK => ?_
  walk_at "vs"
  refine eq_ints ?_
  by_cases h0 : way = 0
  · rw [decide_eq_true h0]
    walk_at "vs"
    simp only [gPow]
    rw [show ((10 : Int) ^ (12 : Int).toNat) = 1000000000000 by decide]
    refine ⟨by unfold CPow; decide, ?_⟩
    walk_at "vs"
    refine ⟨p, _, rfl, hp2, by decide +kernel, fun t3 big hp3 b0 b1 => ?_⟩
    walk_at "vs"
    refine ⟨l, rfl, hg, ?_⟩
    walk_at "vs"
    show wLcL _ _ _ _ ((l.map (·.p)).map D.int) _ _ _ _
    refine lc_listW (l.map (·.p)) (fun _ => true) (fun z => .int (z * (1 + big))) (fits (by rw [List.length_map]; omega)) (fun z hz acc K2 ha hk => ?_) fun e he => ?_
    · walk_at "vs"
      simp only [gMul]
      obtain ⟨x, hx, rfl⟩ := List.mem_map.mp hz
      have := hpl x hx
      refine ⟨.inl (.inl ⟨by omega, by omega⟩), ?_⟩
      walk_at "vs"
      exact ⟨ha, hk⟩
    · rw [List.filter_eq_self.mpr fun _ _ => rfl]
      have he2 : ∃ s7, e = [.sh (.han p), .sh (.int m), .sh (.int f), .sh (.int r), .sh (woD C l), .sh (.int way), .sh (.int (1 + big)), s7] := by
        rcases he with rfl | rfl
        · exact ⟨_, rfl⟩
        · exact ⟨_, rfl⟩
      obtain ⟨s7, rfl⟩ := he2
      clear he
      walk_at "vs"
      refine ⟨l, (l.map (·.p)).map (· * (1 + big)), by simp [intsD, Function.comp_def], hg, by simp, ?_⟩
      refine q _ _ hp3 (good_at hg (by simp)) (by rw [List.length_zipWith]; simp; omega) (by rw [List.length_zipWith]; simp; omega) (at_mem fun z hz => ?_) (by rw [at_sum (by simp)]; exact hvs')
      obtain ⟨y, hy, rfl⟩ := List.mem_map.mp hz
      obtain ⟨x, hx, rfl⟩ := List.mem_map.mp hy
      have hxp := hpl x hx
      have hb : 1 + big ≤ 10 ^ 12 + 1 := by omega
      have k1 : x.p * (1 + big) ≤ 2000 * (1 + big) := Int.mul_le_mul_of_nonneg_right hxp.2 (by omega)
      have k2 : -2000 * (1 + big) ≤ x.p * (1 + big) := Int.mul_le_mul_of_nonneg_right hxp.1 (by omega)
      omega
  · rw [decide_eq_false h0]
    walk_at "vs"
    refine hK _ _ ?_
    clear hK K
    refine seq_step fun K hK => ?_
    walk_at "vs"
    refine eq_ints ?_
    by_cases h1 : way = 1
    · rw [decide_eq_true h1]
      walk_at "vs"
      refine ⟨l, rfl, hg, ?_⟩
      walk_at "vs"
      show wLcL _ _ _ _ ((l.map (·.p)).map D.int) _ _ _ _
      refine lc_listW (l.map (·.p)) (fun _ => true) (fun z => .int (z % 3)) (fits (by rw [List.length_map]; omega)) (fun z hz acc K2 ha hk => ?_) fun e he => ?_
      · walk_at "vs"
        try simp only [gMod]
        refine ⟨by decide, ?_⟩
        walk_at "vs"
        exact ⟨ha, hk⟩
      · rw [List.filter_eq_self.mpr fun _ _ => rfl]
        have he2 : ∃ s7, e = [.sh (.han p), .sh (.int m), .sh (.int f), .sh (.int r), .sh (woD C l), .sh (.int way), .un, s7] := by
          rcases he with rfl | rfl
          · exact ⟨_, rfl⟩
          · exact ⟨_, rfl⟩
        obtain ⟨s7, rfl⟩ := he2
        clear he
        walk_at "vs"
        refine ⟨l, (l.map (·.p)).map (· % 3), by simp [intsD, Function.comp_def], hg, by simp, ?_⟩
        refine q _ _ hp2 (good_at hg (by simp)) (by rw [List.length_zipWith]; simp; omega) (by rw [List.length_zipWith]; simp; omega) (at_mem fun z hz => ?_) (by rw [at_sum (by simp)]; exact hvs')
        obtain ⟨y, hy, rfl⟩ := List.mem_map.mp hz
        omega
    · rw [decide_eq_false h1]
      walk_at "vs"
      refine hK _ _ ?_
      walk_at "vs"
      exact q _ _ hp2 hg hl1 hl2 (fun x hx => by have := hpl x hx; omega) hvs'
end VL

set_option Elab.async false
set_option linter.all false
set_option maxRecDepth 100000
set_option maxHeartbeats 8000000
namespace VL
open PySem PySem.Spec PyProof.Rows L2
local macro_rules
  | `(tactic| walk_at "vs") => `(tactic| try simp only [wSeq, wNx, wNever, wSet, wDrop, wRet, wRetV, wRetN, wIf, wAsg, wPar, wPar3, wBnil, wBcons, wGname, wGtup, wGcons, wGnil, wFor, wFz, wSh, wVar, wC, wOe, wOv, wOnil, wOcons, wXL, wX2, wX2T, wX1, wTst, wAnd, wOr, wNot, wAndV, wOrV, wUn, dNot, wIfE, wIfD, wNil, wCons, wTup, wTupF, wRaise, wTry, wLst,
  wItK, wItF, wLc, wDc, wipeE, wYes, wCall, wCallB2, wThawL, wMeth, wMake, wFldO, wGet1, wGet2, wVals, wM, wMO, wSub, wDnK, wDnT, wStar, wDspK, wDspT, wSl, wSl3, wPnone, wPsome, wSetS, wSrtM, wSrc, wSrcLen, wSrcPop, wSrcSet, wSrcNew, liftC, liftCI, wPs, gAdd, gSub, gLt, gLe, gGt, gGe, gNeg, gRng, gLen, gInt, gList, gTuple, gIs, gIsN, isNon, anyD,
  startE, List.map_cons, List.map_nil, List.length_cons, List.length_nil, Nat.reduceAdd, Nat.reduceSub, List.replicate_succ, List.replicate_zero, List.cons_append, List.nil_append, List.getElem?_cons_zero, List.getElem?_cons_succ, List.getElem?_nil, List.set_cons_zero, List.set_cons_succ, List.set_nil,
  rs, rss, slD, R.d, R.sl, oL, ob, oD, owD, isLO, tR, Option.bind_some, Option.isSome_some, true_and, and_true, if_true, if_false, Bool.false_eq_true, Bool.not_true, Bool.not_false, ite_true, ite_false, reduceIte, reduceCtorEq])
local macro_rules
  | `(tactic| walk_at "vd") => `(tactic| simp (decide := true) only [ne_eq, decide_true, decide_false, Int.cast_ofNat_Int, not_true_eq_false, not_false_eq_true, Bool.not_true, Bool.not_false, if_true, if_false, ite_true, ite_false, reduceIte, reduceCtorEq, Bool.false_eq_true])
local macro_rules
  | `(tactic| walk_at "vx") => `(tactic| first | refine VL.ix_tup 0 rfl ?_ | refine VL.ix_tup 1 rfl ?_ | refine VL.ix_tup 2 rfl ?_ | refine VL.ix_tup 3 rfl ?_)
theorem log_mid {i : Int} (h : i.natAbs < 2 ^ 64) : i.natAbs.log2 < 1920 := by
  by_cases h0 : i.natAbs = 0
  · rw [h0]; decide
  · exact Nat.lt_of_lt_of_le ((Nat.log2_lt h0).mpr h) (by decide)
theorem at_steps (l : List Pn) (rows : List (Str × Int)) : l.zipWith (fun (x : Pn) (p : Int) => { x with p := p }) ((l.map (stepR rows)).map (·.p)) = l.map (stepR rows) := by
  rw [List.map_map, List.zipWith_map_right]
  have : ∀ l : List Pn, l.zipWith (fun (x y : Pn) => ({ x with p := ((·.p) ∘ stepR rows) y } : Pn)) l = l.map (stepR rows) := by
    intro l
    induction l with
    | nil => rfl
    | cons x l ih => rw [List.zipWith_cons_cons, ih]; rfl
  exact this l
theorem no_steps : eqD (spapD []) (.tup [.str "steps", .tup []]) = true := by decide +kernel
theorem no_steps1 : okN 60 (spapD []) = true := by decide +kernel
theorem no_steps2 : okN 60 (.tup [.str "steps", .tup []]) = true := by decide +kernel
theorem good_nil : Good [] := ⟨by simp, fun x h => (nomatch h), fun x h => (nomatch h), by simp⟩
/-- the world of a turn -/
structure Odd (l : List Pn) : Prop where
  hg : Good l
  hz : l.length ≤ 12
  hb : ∀ x ∈ l, -(10 ^ 16) ≤ x.p ∧ x.p ≤ 10 ^ 16
  ho : vSum l % 2 = 1
theorem Odd.turn {l : List Pn} (h : Odd l) : (turnS l).natAbs < 2 ^ 64 := by
  have h1 := turn_bound (B := 10 ^ 16) (by decide) h.hb
  have h2 : (10 ^ 16 : Int) * l.length ≤ 10 ^ 16 * 12 := Int.mul_le_mul_of_nonneg_left (by have := h.hz; omega) (by decide)
  omega
def oddE (C : CS) (ns : List Int) (p : Addr) (l : List Pn) (s : List Sl) : Ev := [.sh (.kt (intsD ns)), .sh (.han p)] ++ s.take 1 ++ [.sh (woD C l), .sh (.tup (intsD (l.map (·.p)))), .sh (stD C l), .sh (.int (turnS l))] ++ s.drop 1
theorem h_law_v3 (C : CS) : ∀ ds t Q E, c_law C ds t Q E → bodyC N_law_v3 1 (w_law_v3 C) ds t Q E := by
  rintro ds t Q E ⟨ns, rfl, hn, rfl, q⟩
  obtain ⟨rl1, rl2, rl3⟩ := repr_lits
  refine ⟨rfl, ?_⟩
  unfold w_law_v3
  refine seq_step fun K0 hK0 => ?_
  walk_at "vs"
  refine ⟨ns, rfl, hn, rfl, fun p t1 hp => ?_⟩
  refine hK0 _ _ ?_
  clear hK0 K0
  refine seq_step fun K hK => ?_
  walk_at "vs"
  simp only [rng1]
  refine ⟨⟨by decide, by decide⟩, ?_⟩
  rw [show (5 : Int).toNat = 5 from rfl, rng_eq]
  refine forL_list (List.range 5) (fun _ e t => Has p t ∧ ∃ s2 s3 s4 s5 s6 s7 s8 s9 s10 s11 s12 s13 s14 s15 s16, e = [.sh (.kt (intsD ns)), .sh (.han p), s2, s3, s4, s5, s6, s7, s8, s9, s10, s11, s12, s13, s14, s15, s16]) (fun done k todo K2 e t hl hK2 h => ?_) (fun e t h => ?_) ⟨hp, _, _, _, _, _, _, _, _, _, _, _, _, _, _, _, rfl⟩
  rotate_left
  · refine hK _ _ ?_
    walk_at "vs"
    exact q _
  clear hK
  obtain ⟨hp', s2, s3, s4, s5, s6, s7, s8, s9, s10, s11, s12, s13, s14, s15, s16, rfl⟩ := h
  have hk : k < 5 := List.mem_range.mp (by rw [hl]; simp)
  dsimp only [wGname]
  refine seq_cut (fun e t => Has p t ∧ ∃ l : List Pn, Odd l ∧ ∃ s2 s4 s5 s6 s7 s8 s9 s10 s11 s12 s13 s14 s15 s16, e = [.sh (.kt (intsD ns)), .sh (.han p), s2, .ow (woD C l), s4, s5, s6, s7, s8, s9, s10, s11, s12, s13, s14, s15, s16]) (fun e t h => ?_) fun nx hnx => ?_
  rotate_left
  · walk_at "vs"
    refine ⟨fits (by decide), ?_⟩
    obtain ⟨m, hm, m1, m2⟩ : ∃ m : Int, ([.int 1, .int 3, .int 5, .int 8, .int 12] : List D)[k]? = some (.int m) ∧ 1 ≤ m ∧ m ≤ 12 := by
      match k, hk with
      | 0, _ => exact ⟨1, rfl, by decide, by decide⟩
      | 1, _ => exact ⟨3, rfl, by decide, by decide⟩
      | 2, _ => exact ⟨5, rfl, by decide, by decide⟩
      | 3, _ => exact ⟨8, rfl, by decide, by decide⟩
      | 4, _ => exact ⟨12, rfl, by decide, by decide⟩
    rw [show (0 + (k : Int)) = (k : Int) by omega]
    refine ix_lst k hm ?_
    walk_at "vs"
    refine ⟨p, m, 6, 1, rfl, hp', m1, m2, by decide, by decide, by decide, by decide, fun t2 l hp2 hg hl1 hl2 hpl hvs => ?_⟩
    exact hnx _ _ ⟨hp2, l, ⟨hg, by omega, hpl, hvs⟩, _, _, _, _, _, _, _, _, _, _, _, _, _, _, rfl⟩
  obtain ⟨hp1, l, ol, s2, s4, s5, s6, s7, s8, s9, s10, s11, s12, s13, s14, s15, s16, rfl⟩ := h
  have hg := ol.hg
  refine seq_step fun K hK => ?_
  walk_at "vs"
  refine ⟨l, rfl, hg, ?_⟩
  walk_at "vs"
  refine get_standing ?_
  walk_at "vs"
  refine hK _ _ ?_
  clear hK K
  refine seq_step fun K hK => ?_
  walk_at "vs"
  refine ⟨l, rfl, hg, ?_⟩
  refine hK _ _ ?_
  clear hK K
  have et : altS (placesV l) = turnS l := rfl
  rw [et]
  refine seq_step fun K hK => ?_
  walk_at "vs"
  refine ⟨l, rfl, hg, ol.ho, ?_⟩
  walk_at "vs"
  simp only [gRepr]
  refine ⟨log_mid ol.turn, log_mid ol.turn, ?_⟩
  walk_at "vs"
  refine ne_str ?_
  rw [decide_eq_false (fun z => z rfl)]
  walk_at "vs"
  refine hK _ _ ?_
  clear hK K
  -- the places
  refine seq_cut (fun e t => Has p t ∧ ∃ s7 s8 s9 s10 s11 s12 s13 s14 s15 s16, e = [.sh (.kt (intsD ns)), .sh (.han p), s2, .sh (woD C l), .sh (.tup (intsD (l.map (·.p)))), .sh (stD C l), .sh (.int (turnS l)), s7, s8, s9, s10, s11, s12, s13, s14, s15, s16]) (fun e t h => ?_) fun nx hnx => ?_
  rotate_left
  · walk_at "vs"
    refine ⟨p, _, rfl, hp1, by decide, fun t2 r hp2 r0 r1 => ?_⟩
    walk_at "vs"
    simp only [gPow]
    refine ⟨by unfold CPow; decide, ?_⟩
    walk_at "vs"
    refine ⟨by unfold CPow; decide, ?_⟩
    walk_at "vs"
    refine ⟨fits (by decide), p, _, rfl, hp2, by decide, by decide, fun t3 d hp3 hd => ?_⟩
    obtain ⟨z3, rfl⟩ : ∃ z, d = D.int z := by
      simp only [List.mem_cons, List.not_mem_nil, or_false] at hd
      rcases hd with rfl | rfl | rfl
      · exact ⟨_, rfl⟩
      · exact ⟨_, rfl⟩
      · exact ⟨_, rfl⟩
    walk_at "vs"
    refine ⟨fits (by decide), ?_⟩
    show wForL _ _ _ (([turnS l, turnS l + r - 4, z3] : List Int).map D.int) _ _
    refine forL_list ([turnS l, turnS l + r - 4, z3] : List Int) (fun _ e t => Has p t ∧ ∃ s7 s8 s9 s10 s11 s12 s13 s14 s15 s16, e = [.sh (.kt (intsD ns)), .sh (.han p), s2, .sh (woD C l), .sh (.tup (intsD (l.map (·.p)))), .sh (stD C l), .sh (.int (turnS l)), s7, s8, s9, s10, s11, s12, s13, s14, s15, s16]) (fun done z todo K3 e t hl3 hK3 h => ?_) (fun e t h => hnx e t h) ⟨hp3, _, _, _, _, _, _, _, _, _, _, rfl⟩
    obtain ⟨hp4, s7, s8, s9, s10, s11, s12, s13, s14, s15, s16, rfl⟩ := h
    obtain ⟨hright, hcost, hone⟩ := wish_rows hg ol.ho z
    dsimp only [wGname]
    refine seq_step fun K hK => ?_
    walk_at "vs"
    refine ⟨l, z, rfl, hg, ?_⟩
    rw [if_neg (by have := ol.ho; omega)]
    refine hK _ _ ?_
    clear hK K
    refine seq_step fun K hK => ?_
    walk_at "vs"
    refine ⟨l, _, z, _, rfl, hg, hright, ?_⟩
    walk_at "vs"
    unfold spapD
    walk_at "vx"
    walk_at "vs"
    simp only [gRepr]
    refine ⟨fits (by omega), fits (by omega), ?_⟩
    walk_at "vs"
    refine ne_str ?_
    rw [decide_eq_false (fun z => z rfl)]
    walk_at "vs"
    refine hK _ _ ?_
    clear hK K
    refine seq_step fun K hK => ?_
    walk_at "vs"
    walk_at "vx"
    walk_at "vs"
    refine lc_listW (wishRows l z) (fun _ => true) (fun r => .int (if r.2 < 0 then -r.2 else r.2)) (fits (by omega)) (fun x hx acc K2 ha hk => ?_) fun e he => ?_
    · unfold rowD
      walk_at "vs"
      simp only [gAbs]
      walk_at "vs"
      exact ⟨ha, hk⟩
    rw [List.filter_eq_self.mpr fun _ _ => rfl]
    have he2 : ∃ s9 s12, e = [.sh (.kt (intsD ns)), .sh (.han p), s2, .sh (woD C l), .sh (.tup (intsD (l.map (·.p)))), .sh (stD C l), .sh (.int (turnS l)), .sh (.int z), .sh (spapD (wishRows l z)), s9, s10, s11, s12, s13, s14, s15, s16] := by
      rcases he with rfl | rfl
      · exact ⟨_, _, rfl⟩
      · exact ⟨_, _, rfl⟩
    obtain ⟨s9, s12, rfl⟩ := he2
    clear he
    walk_at "vs"
    simp only [gSum]
    refine ⟨(wishRows l z).map fun r => if r.2 < 0 then -r.2 else r.2, by simp [intsD, Function.comp_def], ?_⟩
    walk_at "vs"
    simp only [gAbs]
    walk_at "vs"
    refine ne_ints ?_
    rw [hcost, decide_eq_false (fun z => z rfl)]
    walk_at "vs"
    refine ⟨l, _, z, _, rfl, hg, hright, ?_⟩
    walk_at "vs"
    refine hK _ _ ?_
    clear hK K
    walk_at "vs"
    refine eq_ints ?_
    by_cases hz : z = turnS l
    · rw [decide_eq_true hz]
      have er : wishRows l z = [] := by unfold wishRows; rw [if_pos (by omega)]
      rw [er]
      walk_at "vs"
      refine ⟨fits (by decide), fits (by decide), ⟨.inr ⟨no_steps1, no_steps2⟩, ?_⟩⟩
      rw [no_steps]
      walk_at "vs"
      exact hK3 _ _ ⟨hp4, _, _, _, _, _, _, _, _, _, _, rfl⟩
    · rw [decide_eq_false hz]
      walk_at "vs"
      exact hK3 _ _ ⟨hp4, _, _, _, _, _, _, _, _, _, _, rfl⟩
  obtain ⟨hp5, s7, s8, s9, s10, s11, s12, s13, s14, s15, s16, rfl⟩ := h
  -- the people
  refine seq_cut (fun e t => Has p t ∧ ∃ s7 s8 s9 s10 s11 s12 s13 s14 s15 s16, e = [.sh (.kt (intsD ns)), .sh (.han p), s2, .sh (woD C l), .sh (.tup (intsD (l.map (·.p)))), .sh (stD C l), .sh (.int (turnS l)), s7, s8, s9, s10, s11, s12, s13, s14, s15, s16]) (fun e t h => ?_) fun nx hnx => ?_
  rotate_left
  · walk_at "vs"
    refine get_people ?_
    walk_at "vs"
    refine forL_list l (fun _ e t => Has p t ∧ ∃ s7 s8 s9 s10 s11 s12 s13 s14 s15 s16, e = [.sh (.kt (intsD ns)), .sh (.han p), s2, .sh (woD C l), .sh (.tup (intsD (l.map (·.p)))), .sh (stD C l), .sh (.int (turnS l)), s7, s8, s9, s10, s11, s12, s13, s14, s15, s16]) (fun done x todo K3 e t hl3 hK3 h => ?_) (fun e t h => hnx e t h) ⟨hp5, _, _, _, _, _, _, _, _, _, _, rfl⟩
    obtain ⟨hp6, s7, s8, s9, s10, s11, s12, s13, s14, s15, s16, rfl⟩ := h
    have hx : x ∈ l := by rw [hl3]; simp
    unfold pD
    walk_at "vs"
    refine ⟨fits (by decide), ?_⟩
    show wForL _ _ _ (([-2, -1, 1, 2] : List Int).map D.int) _ _
    refine forL_list ([-2, -1, 1, 2] : List Int) (fun _ e t => Has p t ∧ ∃ s7 s8 s12 s13 s14 s15 s16, e = [.sh (.kt (intsD ns)), .sh (.han p), s2, .sh (woD C l), .sh (.tup (intsD (l.map (·.p)))), .sh (stD C l), .sh (.int (turnS l)), s7, s8, .sh (.str x.n), .sh (.int x.p), .sh (.int x.v), s12, s13, s14, s15, s16]) (fun done b todo K4 e t hl4 hK4 h => ?_) (fun e t h => ?_) ⟨hp6, _, _, _, _, _, _, _, rfl⟩
    · obtain ⟨hp7, s7, s8, s12, s13, s14, s15, s16, rfl⟩ := h
      have hb : -2 ≤ b ∧ b ≤ 2 := by
        have : b ∈ ([-2, -1, 1, 2] : List Int) := by rw [hl4]; simp
        simp only [List.mem_cons, List.not_mem_nil, or_false] at this
        omega
      have hv := hg.vo x hx
      have hgone := step_gone hg hx b
      have hg2 := good_step hg [(x.n, b)]
      dsimp only at hgone
      dsimp only [wGname]
      refine seq_step fun K hK => ?_
      walk_at "vs"
      refine ⟨fits (by decide), fits (by decide), l, [(x.n, b)], .inl rfl, hg, by simp, by simp, ?_⟩
      walk_at "vs"
      refine ⟨l, _, rfl, hg, by simp, ?_⟩
      rw [at_steps]
      walk_at "vs"
      refine hK _ _ ?_
      clear hK K
      refine seq_step fun K hK => ?_
      walk_at "vs"
      refine ⟨_, rfl, hg2, ?_⟩
      walk_at "vs"
      refine ⟨_, rfl, hg2, ?_⟩
      walk_at "vs"
      refine hK _ _ ?_
      clear hK K
      have e2 : altS (placesV (l.map (stepR [(x.n, b)]))) = turnS (l.map (stepR [(x.n, b)])) := rfl
      rw [e2]
      generalize turnS (l.map (stepR [(x.n, b)])) - turnS l = g at hgone ⊢
      walk_at "vs"
      simp only [gAbs]
      walk_at "vs"
      simp only [gMul]
      refine ⟨.inl (.inr ⟨by omega, by omega⟩), ?_⟩
      walk_at "vs"
      rw [decide_eq_false (show ¬ (if b < 0 then -b else b) * x.v < (if g < 0 then -g else g) by have g1 := hgone.1; have g2 := hgone.2.1; clear hgone; generalize (if b < 0 then -b else b) * x.v = M at g1 g2 ⊢; split <;> omega)]
      walk_at "vs"
      refine ⟨.inl (.inr ⟨by omega, by omega⟩), ?_⟩
      walk_at "vs"
      try simp only [gMod]
      refine ⟨by decide, ne_ints ?_⟩
      rw [hgone.2.2]
      walk_at "vd"
      exact hK4 _ _ ⟨hp7, _, _, _, _, _, _, _, rfl⟩
    · obtain ⟨hp7, s7, s8, s12, s13, s14, s15, s16, rfl⟩ := h
      exact hK3 _ _ ⟨hp7, _, _, _, _, _, _, _, _, _, _, rfl⟩
  obtain ⟨hp6, s7, s8, s9, s10, s11, s12, s13, s14, s15, s16, rfl⟩ := h
  -- even ones
  walk_at "vs"
  refine ⟨p, 5, 4, 0, rfl, hp6, by decide, by decide, by decide, by decide, by decide, fun t7 l0 hp7 hg0 hl1 hl2 hpl hev => ?_⟩
  walk_at "vs"
  refine ⟨fits (by decide), [], rfl, good_nil, ?_⟩
  walk_at "vs"
  refine ⟨fits (by decide), ?_⟩
  show wForL _ _ _ (([l0, []] : List (List Pn)).map (woD C)) _ _
  refine forL_list ([l0, []] : List (List Pn)) (fun _ e t => Has p t ∧ ∃ s7 s8 s9 s10 s11 s12 s13 s14 s15 s16, e = [.sh (.kt (intsD ns)), .sh (.han p), s2, .sh (woD C l), .sh (.tup (intsD (l.map (·.p)))), .sh (stD C l), .sh (.int (turnS l)), s7, s8, s9, s10, s11, s12, s13, s14, s15, s16]) (fun done le todo K3 e t hl3 hK3 h => ?_) (fun e t h => ?_) ⟨hp7, _, _, _, _, _, _, _, _, _, _, rfl⟩
  · obtain ⟨hp8, s7, s8, s9, s10, s11, s12, s13, s14, s15, s16, rfl⟩ := h
    have hle : Good le ∧ vSum le % 2 = 0 := by
      have : le ∈ ([l0, []] : List (List Pn)) := by rw [hl3]; simp
      rcases List.mem_cons.mp this with rfl | this
      · exact ⟨hg0, hev (by decide)⟩
      · rw [List.mem_singleton.mp this]; exact ⟨good_nil, rfl⟩
    walk_at "vs"
    refine get_standing ?_
    walk_at "vs"
    refine ⟨le, turnS l, rfl, hle.1, ?_⟩
    rw [if_pos hle.2]
    refine ⟨true, List.mem_singleton.mpr rfl, ?_⟩
    walk_at "vs"
    exact hK3 _ _ ⟨hp8, _, _, _, _, _, _, _, _, _, _, rfl⟩
  · obtain ⟨hp8, s7, s8, s9, s10, s11, s12, s13, s14, s15, s16, rfl⟩ := h
    exact hK2 _ _ ⟨hp8, _, _, _, _, _, _, _, _, _, _, _, _, _, _, _, rfl⟩
end VL

set_option Elab.async false
set_option linter.all false
set_option maxRecDepth 100000
set_option maxHeartbeats 4000000
namespace VL
open PySem PySem.Spec PyProof.Rows L2
local macro_rules
  | `(tactic| walk_at "vs") => `(tactic| try simp only [wSeq, wNx, wNever, wSet, wDrop, wRet, wRetV, wRetN, wIf, wAsg, wPar, wPar3, wBnil, wBcons, wGname, wGtup, wGcons, wGnil, wFor, wFz, wSh, wVar, wC, wOe, wOv, wOnil, wOcons, wXL, wX2, wX2T, wX1, wTst, wAnd, wOr, wNot, wAndV, wOrV, wUn, dNot, wIfE, wIfD, wNil, wCons, wTup, wTupF, wRaise, wTry, wLst,
  wItK, wItF, wLc, wDc, wipeE, wYes, wCall, wCallB2, wThawL, wMeth, wMake, wFldO, wGet1, wGet2, wVals, wM, wMO, wSub, wDnK, wDnT, wStar, wDspK, wDspT, wSl, wSl3, wPnone, wPsome, wSetS, wSrtM, wSrc, wSrcLen, wSrcPop, wSrcSet, wSrcNew, liftC, liftCI, wPs, gAdd, gSub, gLt, gLe, gGt, gGe, gNeg, gRng, gLen, gInt, gList, gTuple, gIs, gIsN, isNon, anyD,
  startE, List.map_cons, List.map_nil, List.length_cons, List.length_nil, Nat.reduceAdd, Nat.reduceSub, List.replicate_succ, List.replicate_zero, List.cons_append, List.nil_append, List.getElem?_cons_zero, List.getElem?_cons_succ, List.getElem?_nil, List.set_cons_zero, List.set_cons_succ, List.set_nil,
  rs, rss, slD, R.d, R.sl, oL, ob, oD, owD, isLO, tR, Option.bind_some, Option.isSome_some, true_and, and_true, if_true, if_false, Bool.false_eq_true, Bool.not_true, Bool.not_false, ite_true, ite_false, reduceIte, reduceCtorEq])
variable {P : Program} {w : World} {K : PySem.W.Frag} {mg : Str → Option Value} {base : Heap}
theorem ok__law_source (T : Txt K mg)  : FnOk P w K mg base (L2.CX P w) 1 T.a__law_source T.d__law_source ["_law_script"] (spD K srcW (c__law_source T.CS)) :=
  (okD (M := srcW) (wb := w__law_source T.CS) T.F__law_source sc__law_source (fun cdv A outer s H F t E hr =>
    (dss_cons (ds_set (i := 1) sc__law_source.nd (dr_sh de_int))
      (dss_cons (ds_for (passes_of rfl) (di_any rfl (de_var 0)) (dg_name (i := 2) sc__law_source.nd) (dss_one (ds_set (i := 1) sc__law_source.nd (dr_op2 op_mod ok_mod (do_e (de_fz (dr_ty call_intA ok_int T.z_int (dos_cons (do_e (de_fz (dr_op2 op_addA ok_add (do_e (de_fz (dr_op2 op_addA ok_add (do_e (de_fz (dr_op2 op_mulA ok_mul (do_v 1) (do_e de_int)))) (do_e (de_fz (dr_op2 op_mulA ok_mul (do_v 2) (do_e de_int))))))) (do_e de_int)))) dos_nil)))) (do_e de_int)))))
      (dss_one (ds_ret (dr_srcNew (dr_sl3 rfl (do_e (de_fz (dr_lcV sc__law_source.nd (di_any rfl (de_var 0)) (blkOk_by (own := [("_law_cell", 2)]) (N := N__law_source) (sc := defScope s__law_source) (by decide +kernel)) (fun _ _ _ _ _ => (dn_name (i := 2) sc__law_source.nd)) (fun _ _ _ _ _ => dts_nil) (fun _ _ _ _ _ => (de_fz (dr_bi call_abs ok_abs T.z_abs (dos_cons (do_v 2) dos_nil))))))) dp_none dp_none (dp_some (de_fz (dr_un1 un_neg ok_neg (do_e de_int))))) de_int (de_var 1) de_int))))))).imp fun vs H Q E h => imD (c' := c__law_source T.CS) (h__law_source T.CS) h
theorem ok__law_pick (T : Txt K mg)  : FnOk P w K mg base (L2.CX P w) 1 T.a__law_pick T.d__law_pick ["_law_source_here", "_law_many"] (spD K srcW (c__law_pick T.CS)) :=
  (okD (M := srcW) (wb := w__law_pick T.CS) T.F__law_pick sc__law_pick (fun cdv A outer s H F t E hr =>
    (dss_cons (ds_while (passes_of rfl) (dw_and (dt_cmp2 op_gt ok_gt (do_v 1) (do_e de_int)) (dw_and (dt_cmp2 op_ltA ok_lt (do_e (de_src 0 (ru1 hr))) (do_e de_int)) (dw_and1 (dt_cmp2 op_gt ok_gt (do_e (de_srcLen 0 (ru1 hr) T.z_len)) (do_e de_int))))).pt (dss_one (ds_srcSet 0 (ru1 hr) (de_srcPop 0 rfl (ru1 hr)))))
      (dss_cons (ds_set (i := 2) sc__law_pick.nd (dr_sh (de_src 0 (ru1 hr))))
      (dss_cons (ds_if (dw_or (dt_cmp2 op_ltA ok_lt (do_v 1) (do_e de_int)) (dw_or1 (dt_cmp2 op_gt ok_gt (do_v 2) (do_e de_int)))).pt (dss_cons (ds_srcSet 0 (ru1 hr) (de_fz (dr_op2 op_fdivW ok_div (do_v 2) (do_e (de_fz (dr_bi (call_maxA rfl) ok_max T.z_max (dos_cons (do_e de_int) (dos_cons (do_v 1) dos_nil))))))))
      (dss_one (ds_ret (dr_op2 op_mod ok_mod (do_e (de_fz (dr_ty call_intA ok_int T.z_int (dos_cons (do_v 2) dos_nil)))) (do_e (de_fz (dr_bi (call_maxA rfl) ok_max T.z_max (dos_cons (do_e de_int) (dos_cons (do_v 1) dos_nil))))))))) dss_nil)
      (dss_cons (ds_srcSet 0 (ru1 hr) (de_fz (dr_op2 op_addA ok_add (do_e (de_src 0 (ru1 hr))) (do_e de_int))))
      (dss_cons (ds_set (i := 3) sc__law_pick.nd (dr_op2 op_mod ok_mod (do_e (de_fz (dr_ty call_intA ok_int T.z_int (dos_cons (do_e (de_fz (dr_op2 op_addA ok_add (do_e (de_src 0 (ru1 hr))) (do_e (de_fz (dr_op2 op_mulA ok_mul (do_e (de_src 0 (ru1 hr))) (do_e de_int))))))) dos_nil)))) (do_e de_int)))
      (dss_cons (ds_set (i := 3) sc__law_pick.nd (dr_op2 op_mod ok_mod (do_e (de_fz (dr_ty call_intA ok_int T.z_int (dos_cons (do_e (de_fz (dr_op2 op_addA ok_add (do_e (de_fz (dr_op2 op_mulA ok_mul (do_v 3) (do_v 3)))) (do_e (de_fz (dr_op2 op_mulA ok_mul (do_e (de_src 0 (ru1 hr))) (do_e de_int))))))) dos_nil)))) (do_e de_int)))
      (dss_cons (ds_srcSet 0 (ru1 hr) (de_var 3))
      (dss_one (ds_ret (dr_op2 op_mod ok_mod (do_e (de_fz (dr_ty call_intA ok_int T.z_int (dos_cons (do_e (de_fz (dr_op2 op_fdivW ok_div (do_v 3) (do_e de_int)))) dos_nil)))) (do_v 1))))))))))))).imp fun vs H Q E h => imD (c' := c__law_pick T.CS) (h__law_pick T.CS) h
theorem ok__law_names (T : Txt K mg) (G__law_pick : FnOk P w K mg base (L2.CX P w) 1 T.a__law_pick T.d__law_pick ["_law_source_here", "_law_many"] (spD K srcW (c__law_pick T.CS))) : FnOk P w K mg base (L2.CX P w) 2 T.a__law_names T.d__law_names ["_law_source_here", "_law_many"] (spD K srcW (c__law_names T.CS)) :=
  (okD (M := srcW) (wb := w__law_names T.CS) T.F__law_names sc__law_names (fun cdv A outer s H F t E hr =>
    (dss_cons (ds_par3 (i := 2) (j := 3) (l := 4) sc__law_names.nd (db_cons (dr_call G__law_pick (hr.mono (by decide)) T.g__law_pick T.F__law_pick.kp T.b__law_pick (takes_of rfl rfl rfl rfl) (da_cons (de_var 0) (da_cons de_int da_nil))) (db_cons (dr_lst da_nil) (db_cons (dr_lst (da_cons de_str (da_cons de_str (da_cons de_str (da_cons de_str (da_cons de_str da_nil)))))) db_nil))))
      (dss_cons (ds_for (passes_of rfl) (di_range1 (da_cons (de_var 1) da_nil) T.z_range) (dg_name (i := 5) sc__law_names.nd) (dss_cons (ds_set (i := 6) sc__law_names.nd (dr_ix (ix_A (ru1 hr)) ok_ix (do_e de_str) (do_e (de_fz (dr_call G__law_pick (hr.mono (by decide)) T.g__law_pick T.F__law_pick.kp T.b__law_pick (takes_of rfl rfl rfl rfl) (da_cons (de_var 0) (da_cons de_int da_nil)))))))
      (dss_one (ds_expr (dr_sh (de_m 3 rfl PySem.F.slot_list_append PySem.F.type_list_append mt_append ok_append (da_cons (de_fz (dr_op2 op_addA ok_add (do_e (de_fz (dr_op2 op_addA ok_add (do_v 6) (do_e (de_fz (dr_sl rfl (do_e (de_fz (dr_ty call_strA ok_str T.z_str (dos_cons (do_e (de_fz (dr_op2 op_addA ok_add (do_e de_int) (do_e (de_fz (dr_op2 op_mod ok_mod (do_e (de_fz (dr_ty call_intA ok_int T.z_int (dos_cons (do_e (de_fz (dr_op2 op_addA ok_add (do_v 2) (do_e (de_fz (dr_op2 op_mulA ok_mul (do_e de_int) (do_v 5))))))) dos_nil)))) (do_e de_int))))))) dos_nil)))) (dp_some de_int) dp_none)))))) (do_e (de_fz (dr_ix (ix_A (ru1 hr)) ok_ix (do_v 4) (do_e (de_fz (dr_call G__law_pick (hr.mono (by decide)) T.g__law_pick T.F__law_pick.kp T.b__law_pick (takes_of rfl rfl rfl rfl) (da_cons (de_var 0) (da_cons de_int da_nil)))))))))) da_nil)))))))
      (dss_one (ds_retv 3)))))).imp fun vs H Q E h => imD (c' := c__law_names T.CS) (h__law_names T.CS) h
theorem ok_is_row (T : Txt K mg)  : FnOk P w K mg base (L2.CX P w) 1 T.a_is_row T.d_is_row ["value", "many"] (spP K (c_is_row T.CS)) :=
  okP (wb := w_is_row T.CS) T.F_is_row sc_is_row (fun cdv A outer s H F E hr =>
    (dss_one (ds_ret (dr_sh (de_andV (de_fz (dr_bi call_isiA ok_isi T.z_isinstance (dos_cons (do_v 0) (dos_cons (do_e (de_ty "tuple" T.z_tuple)) dos_nil)))) (de_one (de_fz (dr_cmp2 (op_eqA (ru64 hr)) ok_eq (do_e (de_fz (dr_bi call_lenA ok_len T.z_len (dos_cons (do_v 0) dos_nil)))) (do_v 1))))))))) (h_is_row T.CS)
theorem ok_is_integer (T : Txt K mg)  : FnOk P w K mg base (L2.CX P w) 1 T.a_is_integer T.d_is_integer ["value"] (spP K (c_is_integer T.CS)) :=
  okP (wb := w_is_integer T.CS) T.F_is_integer sc_is_integer (fun cdv A outer s H F E hr =>
    (dss_one (ds_ret (dr_sh (de_andV (de_fz (dr_bi call_isiA ok_isi T.z_isinstance (dos_cons (do_v 0) (dos_cons (do_e (de_ty "int" T.z_int)) dos_nil)))) (de_one (de_notV (de_fz (dr_bi call_isiA ok_isi T.z_isinstance (dos_cons (do_v 0) (dos_cons (do_e (de_ty "bool" T.z_bool)) dos_nil))))))))))) (h_is_integer T.CS)
theorem ok_is_word (T : Txt K mg)  : FnOk P w K mg base (L2.CX P w) 1 T.a_is_word T.d_is_word ["value"] (spP K (c_is_word T.CS)) :=
  okP (wb := w_is_word T.CS) T.F_is_word sc_is_word (fun cdv A outer s H F E hr =>
    (dss_cons (ds_if (dw_or (dt_not (dt_val (de_fz (dr_bi call_isiA ok_isi T.z_isinstance (dos_cons (do_v 0) (dos_cons (do_e (de_ty "str" T.z_str)) dos_nil)))))) (dw_or (dt_cmp2 (op_notInA (ru65 hr)) ok_notIn (do_e (de_fz (dr_bi call_lenA ok_len T.z_len (dos_cons (do_v 0) dos_nil)))) (do_e (de_fz (dr_ty call_rngA ok_rng T.z_range (dos_cons (do_e de_int) (dos_cons (do_e de_int) dos_nil)))))) (dw_or1 (dt_cmp2 (op_notInA (ru65 hr)) ok_notIn (do_e (de_fz (dr_ix (ix_A (ru1 hr)) ok_ix (do_v 0) (do_e de_int)))) (do_e (de_gstr T.k_LETTERS)))))).pt (dss_one (ds_ret (dr_sh de_bl))) dss_nil)
      (dss_one (ds_ret (dr_bi (cr_all rfl) ok_all T.z_all (dos_cons (do_e (de_fz (dr_lcV sc_is_word.nd (di_any rfl (de_var 0)) (blkOk_by (own := [("sign", 1)]) (N := N_is_word) (sc := defScope s_is_word) (by decide +kernel)) (fun _ _ _ _ _ => (dn_name (i := 1) sc_is_word.nd)) (fun _ _ _ _ _ => dts_nil) (fun _ _ _ _ _ => (de_orV (de_fz (dr_cmp2 (op_inA (ru65 hr)) ok_in (do_v 1) (do_e (de_gstr T.k_LETTERS)))) (de_one (de_fz (dr_cmp2 (op_inA (ru65 hr)) ok_in (do_v 1) (do_e (de_gstr T.k_FIGURES)))))))))) dos_nil)))))) (h_is_word T.CS)
theorem ok_wrong_person (T : Txt K mg) (G_is_row : FnOk P w K mg base (L2.CX P w) 1 T.a_is_row T.d_is_row ["value", "many"] (spP K (c_is_row T.CS))) (G_is_integer : FnOk P w K mg base (L2.CX P w) 1 T.a_is_integer T.d_is_integer ["value"] (spP K (c_is_integer T.CS))) (G_is_word : FnOk P w K mg base (L2.CX P w) 1 T.a_is_word T.d_is_word ["value"] (spP K (c_is_word T.CS))) : FnOk P w K mg base (L2.CX P w) 2 T.a_wrong_person T.d_wrong_person ["value", "names"] (spP K (c_wrong_person T.CS)) :=
  okP (wb := w_wrong_person T.CS) T.F_wrong_person sc_wrong_person (fun cdv A outer s H F E hr =>
    (dss_cons (ds_if (dt_not (dt_val (de_fz (dr_callP G_is_row (hr.mono (by decide)) T.al_is_row_words T.F_is_row.kp T.b_is_row (takes_of rfl rfl rfl rfl) (da_cons (de_var 0) (da_cons de_int da_nil)))))) (dss_one (ds_ret (dr_sh (de_tup da_nil)))) dss_nil)
      (dss_cons (ds_if (dw_or (dt_not (dt_val (de_fz (dr_callP G_is_word (hr.mono (by decide)) T.g_is_word T.F_is_word.kp T.b_is_word (takes_of rfl rfl rfl rfl) (da_cons (de_fz (dr_ix (ix_A (ru1 hr)) ok_ix (do_v 0) (do_e de_int))) da_nil))))) (dw_or1 (dt_cmp2 (op_inA (ru65 hr)) ok_in (do_e (de_fz (dr_ix (ix_A (ru1 hr)) ok_ix (do_v 0) (do_e de_int)))) (do_v 1)))).pt (dss_one (ds_ret (dr_sh (de_tup (da_cons de_int da_nil))))) dss_nil)
      (dss_cons (ds_if (dt_not (dt_val (de_fz (dr_callP G_is_integer (hr.mono (by decide)) T.g_is_integer T.F_is_integer.kp T.b_is_integer (takes_of rfl rfl rfl rfl) (da_cons (de_fz (dr_ix (ix_A (ru1 hr)) ok_ix (do_v 0) (do_e de_int))) da_nil))))) (dss_one (ds_ret (dr_sh (de_tup (da_cons de_int da_nil))))) dss_nil)
      (dss_one (ds_ret (dr_if (dw_or (dt_not (dt_val (de_fz (dr_callP G_is_integer (hr.mono (by decide)) T.g_is_integer T.F_is_integer.kp T.b_is_integer (takes_of rfl rfl rfl rfl) (da_cons (de_fz (dr_ix (ix_A (ru1 hr)) ok_ix (do_v 0) (do_e de_int))) da_nil))))) (dw_or1 (dt_cmp2 (op_notInA (ru65 hr)) ok_notIn (do_e (de_fz (dr_ix (ix_A (ru1 hr)) ok_ix (do_v 0) (do_e de_int)))) (do_e (de_tup (da_cons de_int (da_cons de_int da_nil))))))).pt (dr_sh (de_tup (da_cons de_int da_nil))) (dr_sh de_non)))))))) (h_wrong_person T.CS)
theorem ok_wrong_people (T : Txt K mg) (G_wrong_person : FnOk P w K mg base (L2.CX P w) 2 T.a_wrong_person T.d_wrong_person ["value", "names"] (spP K (c_wrong_person T.CS))) : FnOk P w K mg base (L2.CX P w) 3 T.a_wrong_people T.d_wrong_people ["value"] (spP K (c_wrong_people T.CS)) :=
  okP (wb := w_wrong_people T.CS) T.F_wrong_people sc_wrong_people (fun cdv A outer s H F E hr =>
    (dss_cons (ds_if (dt_not (dt_val (de_fz (dr_bi call_isiA ok_isi T.z_isinstance (dos_cons (do_v 0) (dos_cons (do_e (de_tup (da_cons (de_ty "list" T.z_list) (da_cons (de_ty "tuple" T.z_tuple) da_nil)))) dos_nil)))))) (dss_one (ds_ret (dr_sh (de_tup da_nil)))) dss_nil)
      (dss_cons (ds_set (i := 1) sc_wrong_people.nd dr_dnK)
      (dss_cons (ds_for (passes_of rfl) (di_enum rfl (da_cons (de_var 0) da_nil) T.z_enumerate) (dg_tup rfl rfl (dgs_cons (dg_name (i := 2) sc_wrong_people.nd) (dgs_cons (dg_name (i := 3) sc_wrong_people.nd) dgs_nil))) (dss_cons (ds_set (i := 4) sc_wrong_people.nd (dr_sh (de_callB2 1 rfl G_wrong_person (hr.mono (by decide)) T.g_wrong_person T.F_wrong_person.kp T.b_wrong_person (takes_of rfl rfl rfl rfl) (de_var 3))))
      (dss_cons (ds_if (dt_cmp2 op_notN ok_isN (do_v 4) (do_e de_non)) (dss_one (ds_ret (dr_sh (de_tup (da_cons (de_var 2) (da_star rfl (do_v 4) da_nil)))))) dss_nil)
      (dss_one (ds_asg de_bl (dg_sub 1 (ru1 hr) (do_e (de_fz (dr_ix (ix_A (ru1 hr)) ok_ix (do_v 3) (do_e de_int))))))))))
      (dss_one (ds_ret (dr_sh de_non))))))) (h_wrong_people T.CS)
theorem ok_Standing_init (T : Txt K mg) (G_wrong_people : FnOk P w K mg base (L2.CX P w) 3 T.a_wrong_people T.d_wrong_people ["value"] (spP K (c_wrong_people T.CS))) : FnOk P w K mg base (L2.CX P w) 4 T.a_Standing_init T.d_Standing_init ["self", "people"] (spPI K T.CS.Standing (c_Standing_init T.CS)) :=
  okPI (wb := w_Standing_init T.CS) T.F_Standing_init sc_Standing_init (fun p cdv A outer s H F t E hr =>
    (dss_cons (ds_set (i := 2) sc_Standing_init.nd (dr_callP G_wrong_people (hr.mono (by decide)) T.g_wrong_people T.F_wrong_people.kp T.b_wrong_people (takes_of rfl rfl rfl rfl) (da_cons (de_var 1) da_nil)))
      (dss_cons (ds_if (dt_cmp2 op_notN ok_isN (do_v 2) (do_e de_non)) (dss_one ds_never) dss_nil)
      (dss_one (ds_setS 0 T.cl_Standing T.n_Standing_own_people (de_fz (dr_dcV sc_Standing_init.nd (di_any rfl (de_var 1)) (blkOk_by (own := [("person", 3)]) (N := N_Standing_init) (sc := defScope s_Standing_init) (by decide +kernel)) (fun _ _ _ _ _ => (dn_name (i := 3) sc_Standing_init.nd)) (fun _ _ _ _ _ => dts_nil) (fun _ _ _ _ _ => (de_fz (dr_ix (ix_A (ru1 hr)) ok_ix (do_v 3) (do_e de_int)))) (fun _ _ _ _ _ => (de_var 3))))))))) (h_Standing_init T.CS)
theorem ok__law_made (T : Txt K mg) (G_Standing_init : FnOk P w K mg base (L2.CX P w) 4 T.a_Standing_init T.d_Standing_init ["self", "people"] (spPI K T.CS.Standing (c_Standing_init T.CS))) : FnOk P w K mg base (L2.CX P w) 6 T.a__law_made T.d__law_made ["_law_people"] (spP K (c__law_made T.CS)) :=
  okP (wb := w__law_made T.CS) T.F__law_made sc__law_made (fun cdv A outer s H F E hr =>
    (dss_one (ds_ret (dr_dspK (dps_cons de_str (de_fz (dr_lcV sc__law_made.nd (di_any rfl (de_var 0)) (blkOk_by (own := [("_law_one", 1)]) (N := N__law_made) (sc := defScope s__law_made) (by decide +kernel)) (fun _ _ _ _ _ => (dn_name (i := 1) sc__law_made.nd)) (fun _ _ _ _ _ => dts_nil) (fun _ _ _ _ _ => (de_fz (dr_ty call_tupleA ok_tuple T.z_tuple (dos_cons (do_v 1) dos_nil)))))) (dps_cons de_str (de_fz (dr_makeP T.mk_Standing G_Standing_init (hr.mono (by decide)) T.gc_Standing T.b_Standing_init (takes_of rfl rfl rfl rfl) (da_cons (de_var 0) da_nil))) dps_nil)))))) (h__law_made T.CS)
theorem ok__law_mixed (T : Txt K mg) (G__law_pick : FnOk P w K mg base (L2.CX P w) 1 T.a__law_pick T.d__law_pick ["_law_source_here", "_law_many"] (spD K srcW (c__law_pick T.CS))) : FnOk P w K mg base (L2.CX P w) 2 T.a__law_mixed T.d__law_mixed ["_law_source_here", "_law_things"] (spD K srcW (c__law_mixed T.CS)) :=
  (okD (M := srcW) (wb := w__law_mixed T.CS) T.F__law_mixed sc__law_mixed (fun cdv A outer s H F t E hr =>
    (dss_cons (ds_set (i := 2) sc__law_mixed.nd (dr_ty (call_listA rfl) ok_list T.z_list (dos_cons (do_v 1) dos_nil)))
      (dss_one (ds_ret (dr_lcV sc__law_mixed.nd (di_range1 (da_cons (de_fz (dr_bi call_lenA ok_len T.z_len (dos_cons (do_v 2) dos_nil))) da_nil) T.z_range) (blkOk_by (own := [("_law_lap", 3)]) (N := N__law_mixed) (sc := defScope s__law_mixed) (by decide +kernel)) (fun _ _ _ _ _ => (dn_name (i := 3) sc__law_mixed.nd)) (fun _ _ _ _ _ => dts_nil) (fun _ _ _ _ _ => (de_m 2 rfl PySem.F.slot_list_pop PySem.F.type_list_pop mt_popAt ok_popAt (da_cons (de_fz (dr_call G__law_pick (hr.mono (by decide)) T.g__law_pick T.F__law_pick.kp T.b__law_pick takes0 (da_cons (de_var 0) (da_cons (de_fz (dr_bi call_lenA ok_len T.z_len (dos_cons (do_v 2) dos_nil))) da_nil)))) da_nil))))))))).imp fun vs H Q E h => imD (c' := c__law_mixed T.CS) (h__law_mixed T.CS) h
theorem ok__law_of (T : Txt K mg) (G__law_pick : FnOk P w K mg base (L2.CX P w) 1 T.a__law_pick T.d__law_pick ["_law_source_here", "_law_many"] (spD K srcW (c__law_pick T.CS))) : FnOk P w K mg base (L2.CX P w) 2 T.a__law_of T.d__law_of ["_law_source_here", "_law_some"] (spD K srcW (c__law_of T.CS)) :=
  (okD (M := srcW) (wb := w__law_of T.CS) T.F__law_of sc__law_of (fun cdv A outer s H F t E hr =>
    (dss_one (ds_ret (dr_ix (ix_A (ru1 hr)) ok_ix (do_v 1) (do_e (de_fz (dr_call G__law_pick (hr.mono (by decide)) T.g__law_pick T.F__law_pick.kp T.b__law_pick (takes_of rfl rfl rfl rfl) (da_cons (de_var 0) (da_cons (de_fz (dr_bi call_lenA ok_len T.z_len (dos_cons (do_v 1) dos_nil))) da_nil)))))))))).imp fun vs H Q E h => imD (c' := c__law_of T.CS) (h__law_of T.CS) h
theorem ok__law_world (T : Txt K mg) (G__law_pick : FnOk P w K mg base (L2.CX P w) 1 T.a__law_pick T.d__law_pick ["_law_source_here", "_law_many"] (spD K srcW (c__law_pick T.CS))) (G__law_names : FnOk P w K mg base (L2.CX P w) 2 T.a__law_names T.d__law_names ["_law_source_here", "_law_many"] (spD K srcW (c__law_names T.CS))) (G__law_made : FnOk P w K mg base (L2.CX P w) 6 T.a__law_made T.d__law_made ["_law_people"] (spP K (c__law_made T.CS))) (G__law_mixed : FnOk P w K mg base (L2.CX P w) 2 T.a__law_mixed T.d__law_mixed ["_law_source_here", "_law_things"] (spD K srcW (c__law_mixed T.CS))) (G__law_of : FnOk P w K mg base (L2.CX P w) 2 T.a__law_of T.d__law_of ["_law_source_here", "_law_some"] (spD K srcW (c__law_of T.CS))) : FnOk P w K mg base (L2.CX P w) 7 T.a__law_world T.d__law_world ["_law_source_here", "_law_most", "_law_far", "_law_parity"] (spD K srcW (c__law_world T.CS)) :=
  (okD (M := srcW) (wb := w__law_world T.CS) T.F__law_world sc__law_world (fun cdv A outer s H F t E hr =>
    (dss_cons (ds_par (i := 4) (j := 5) rfl sc__law_world.nd (db_cons (dr_op2 op_sub ok_sub (do_e (de_fz (dr_call G__law_pick (hr.mono (by decide)) T.g__law_pick T.F__law_pick.kp T.b__law_pick (takes_of rfl rfl rfl rfl) (da_cons (de_var 0) (da_cons de_int da_nil))))) (do_e de_int)) (db_cons (dr_lst da_nil) db_nil)))
      (dss_cons (ds_for (passes_of rfl) (di_any rfl (de_fz (dr_call G__law_names (hr.mono (by decide)) T.g__law_names T.F__law_names.kp T.b__law_names (takes_of rfl rfl rfl rfl) (da_cons (de_var 0) (da_cons (de_fz (dr_op2 op_addA ok_add (do_e de_int) (do_e (de_fz (dr_call G__law_pick (hr.mono (by decide)) T.g__law_pick T.F__law_pick.kp T.b__law_pick (takes_of rfl rfl rfl rfl) (da_cons (de_var 0) (da_cons (de_var 1) da_nil))))))) da_nil))))) (dg_name (i := 6) sc__law_world.nd) (dss_cons (ds_expr (dr_sh (de_m 5 rfl PySem.F.slot_list_append PySem.F.type_list_append mt_append ok_append (da_cons (de_tup (da_cons (de_var 6) (da_cons (de_var 4) (da_cons (de_fz (dr_ty call_intA ok_int T.z_int (dos_cons (do_e (de_fz (dr_cmp2 op_gt ok_gt (do_e (de_fz (dr_call G__law_pick (hr.mono (by decide)) T.g__law_pick T.F__law_pick.kp T.b__law_pick (takes_of rfl rfl rfl rfl) (da_cons (de_var 0) (da_cons de_int da_nil))))) (do_e de_int)))) dos_nil))) da_nil)))) da_nil))))
      (dss_one (ds_set (i := 4) sc__law_world.nd (dr_op2 op_addA ok_add (do_v 4) (do_e (de_fz (dr_call G__law_of (hr.mono (by decide)) T.g__law_of T.F__law_of.kp T.b__law_of (takes_of rfl rfl rfl rfl) (da_cons (de_var 0) (da_cons (de_fz (dr_lst (da_cons de_int (da_cons de_int (da_cons de_int (da_cons de_int (da_cons (de_fz (dr_op2 op_addA ok_add (do_e de_int) (do_e (de_fz (dr_call G__law_pick (hr.mono (by decide)) T.g__law_pick T.F__law_pick.kp T.b__law_pick (takes_of rfl rfl rfl rfl) (da_cons (de_var 0) (da_cons (de_var 2) da_nil))))))) da_nil))))))) da_nil))))))))))
      (dss_cons (ds_if (dw_and (dt_cmp2 op_ltA ok_lt (do_v 3) (do_e de_int)) (dw_and1 (dt_cmp2 (op_neA (ru64 hr)) ok_ne (do_e (de_fz (dr_op2 op_mod ok_mod (do_e (de_fz (dr_ty call_intA ok_int T.z_int (dos_cons (do_e (de_thawL 5 j_src (de_fz (dr_bi (cr_sum rfl) ok_sum T.z_sum (dos_cons (do_e (de_fz (dr_lcV sc__law_world.nd (di_any rfl (de_var 5)) (blkOk_by (own := [("_law_one", 7)]) (N := N__law_world) (sc := defScope s__law_world) (by decide +kernel)) (fun _ _ _ _ _ => (dn_name (i := 7) sc__law_world.nd)) (fun _ _ _ _ _ => dts_nil) (fun _ _ _ _ _ => (de_fz (dr_ix (ix_A (ru1 hr)) ok_ix (do_v 7) (do_e de_int))))))) dos_nil))))) dos_nil)))) (do_e de_int)))) (do_v 3)))).pt (dss_one (ds_asg (de_tup (da_cons (de_fz (dr_ix (ix_A (ru1 hr)) ok_ix (do_e (de_fz (dr_ix (ix_A (ru1 hr)) ok_ix (do_v 5) (do_e (de_fz (dr_un1 un_neg ok_neg (do_e de_int))))))) (do_e de_int))) (da_cons (de_fz (dr_ix (ix_A (ru1 hr)) ok_ix (do_e (de_fz (dr_ix (ix_A (ru1 hr)) ok_ix (do_v 5) (do_e (de_fz (dr_un1 un_neg ok_neg (do_e de_int))))))) (do_e de_int))) (da_cons (de_fz (dr_op2 op_sub ok_sub (do_e de_int) (do_e (de_fz (dr_ix (ix_A (ru1 hr)) ok_ix (do_e (de_fz (dr_ix (ix_A (ru1 hr)) ok_ix (do_v 5) (do_e (de_fz (dr_un1 un_neg ok_neg (do_e de_int))))))) (do_e de_int)))))) da_nil)))) (dg_sub 5 (ru1 hr) (do_e (de_fz (dr_un1 un_neg ok_neg (do_e de_int))))))) dss_nil)
      (dss_one (ds_ret (dr_callP G__law_made (hr.mono (by decide)) T.g__law_made T.F__law_made.kp T.b__law_made (takes_of rfl rfl rfl rfl) (da_cons (de_fz (dr_call G__law_mixed (hr.mono (by decide)) T.g__law_mixed T.F__law_mixed.kp T.b__law_mixed (takes_of rfl rfl rfl rfl) (da_cons (de_var 0) (da_cons (de_var 5) da_nil)))) da_nil))))))))).imp fun vs H Q E h => imD (c' := c__law_world T.CS) (h__law_world T.CS) h
theorem ok__law_at (T : Txt K mg) (G__law_made : FnOk P w K mg base (L2.CX P w) 6 T.a__law_made T.d__law_made ["_law_people"] (spP K (c__law_made T.CS))) : FnOk P w K mg base (L2.CX P w) 7 T.a__law_at T.d__law_at ["_law_world_here", "_law_spots_here"] (spP K (c__law_at T.CS)) :=
  okP (wb := w__law_at T.CS) T.F__law_at sc__law_at (fun cdv A outer s H F E hr =>
    (dss_one (ds_ret (dr_callP G__law_made (hr.mono (by decide)) T.g__law_made T.F__law_made.kp T.b__law_made (takes_of rfl rfl rfl rfl) (da_cons (de_fz (dr_lcV sc__law_at.nd (di_zipM rfl (da_cons (de_fz (dr_ix (ix_A (ru1 hr)) ok_ix (do_v 0) (do_e de_str))) (da_cons (de_var 1) da_nil)) T.z_zip) (blkOk_by (own := [("_law_one", 2), ("_law_spot", 3)]) (N := N__law_at) (sc := defScope s__law_at) (by decide +kernel)) (fun _ _ _ _ _ => (dn_tup rfl rfl (dns_cons (dn_name (i := 2) sc__law_at.nd) (dns_cons (dn_name (i := 3) sc__law_at.nd) dns_nil)))) (fun _ _ _ _ _ => dts_nil) (fun _ _ _ _ _ => (de_tup (da_cons (de_fz (dr_ix (ix_A (ru1 hr)) ok_ix (do_v 2) (do_e de_int))) (da_cons (de_var 3) (da_cons (de_fz (dr_ix (ix_A (ru1 hr)) ok_ix (do_v 2) (do_e de_int))) da_nil))))))) da_nil))))) (h__law_at T.CS)
theorem ok__law_spots (T : Txt K mg)  : FnOk P w K mg base (L2.CX P w) 1 T.a__law_spots T.d__law_spots ["_law_world_here"] (spP K (c__law_spots T.CS)) :=
  okP (wb := w__law_spots T.CS) T.F__law_spots sc__law_spots (fun cdv A outer s H F E hr =>
    (dss_one (ds_ret (dr_ty call_tupleA ok_tuple T.z_tuple (dos_cons (do_e (de_fz (dr_lcV sc__law_spots.nd (di_any rfl (de_fz (dr_ix (ix_A (ru1 hr)) ok_ix (do_v 0) (do_e de_str)))) (blkOk_by (own := [("_law_one", 1)]) (N := N__law_spots) (sc := defScope s__law_spots) (by decide +kernel)) (fun _ _ _ _ _ => (dn_name (i := 1) sc__law_spots.nd)) (fun _ _ _ _ _ => dts_nil) (fun _ _ _ _ _ => (de_fz (dr_ix (ix_A (ru1 hr)) ok_ix (do_v 1) (do_e de_int))))))) dos_nil))))) (h__law_spots T.CS)
theorem ok__law_crowded (T : Txt K mg) (G__law_pick : FnOk P w K mg base (L2.CX P w) 1 T.a__law_pick T.d__law_pick ["_law_source_here", "_law_many"] (spD K srcW (c__law_pick T.CS))) (G__law_world : FnOk P w K mg base (L2.CX P w) 7 T.a__law_world T.d__law_world ["_law_source_here", "_law_most", "_law_far", "_law_parity"] (spD K srcW (c__law_world T.CS))) (G__law_at : FnOk P w K mg base (L2.CX P w) 7 T.a__law_at T.d__law_at ["_law_world_here", "_law_spots_here"] (spP K (c__law_at T.CS))) (G__law_spots : FnOk P w K mg base (L2.CX P w) 1 T.a__law_spots T.d__law_spots ["_law_world_here"] (spP K (c__law_spots T.CS))) : FnOk P w K mg base (L2.CX P w) 8 T.a__law_crowded T.d__law_crowded ["_law_source_here", "_law_most", "_law_far", "_law_parity"] (spD K srcW (c__law_crowded T.CS)) :=
  (okD (M := srcW) (wb := w__law_crowded T.CS) T.F__law_crowded sc__law_crowded (fun cdv A outer s H F t E hr =>
    (dss_cons (ds_par (i := 4) (j := 5) rfl sc__law_crowded.nd (db_cons (dr_call G__law_world (hr.mono (by decide)) T.g__law_world T.F__law_world.kp T.b__law_world (takes_of rfl rfl rfl rfl) (da_cons (de_var 0) (da_cons (de_var 1) (da_cons (de_var 2) (da_cons (de_var 3) da_nil))))) (db_cons (dr_call G__law_pick (hr.mono (by decide)) T.g__law_pick T.F__law_pick.kp T.b__law_pick (takes_of rfl rfl rfl rfl) (da_cons (de_var 0) (da_cons de_int da_nil))) db_nil)))
      (dss_cons (ds_if (dt_cmp2 (op_eqA (ru64 hr)) ok_eq (do_v 5) (do_e de_int)) (dss_cons (ds_set (i := 6) sc__law_crowded.nd (dr_op2 op_addA ok_add (do_e de_int) (do_e (de_fz (dr_call G__law_pick (hr.mono (by decide)) T.g__law_pick T.F__law_pick.kp T.b__law_pick (takes_of rfl rfl rfl rfl) (da_cons (de_var 0) (da_cons (de_fz (dr_op2 op_pow ok_pow (do_e de_int) (do_e de_int))) da_nil)))))))
      (dss_one (ds_ret (dr_callP G__law_at (hr.mono (by decide)) T.g__law_at T.F__law_at.kp T.b__law_at (takes_of rfl rfl rfl rfl) (da_cons (de_var 4) (da_cons (de_fz (dr_ty call_tupleA ok_tuple T.z_tuple (dos_cons (do_e (de_fz (dr_lcV sc__law_crowded.nd (di_any rfl (de_fz (dr_callP G__law_spots (hr.mono (by decide)) T.g__law_spots T.F__law_spots.kp T.b__law_spots (takes_of rfl rfl rfl rfl) (da_cons (de_var 4) da_nil)))) (blkOk_by (own := [("_law_spot", 7)]) (N := N__law_crowded) (sc := defScope s__law_crowded) (by decide +kernel)) (fun _ _ _ _ _ => (dn_name (i := 7) sc__law_crowded.nd)) (fun _ _ _ _ _ => dts_nil) (fun _ _ _ _ _ => (de_fz (dr_op2 op_mulA ok_mul (do_v 7) (do_v 6))))))) dos_nil))) da_nil)))))) dss_nil)
      (dss_cons (ds_if (dt_cmp2 (op_eqA (ru64 hr)) ok_eq (do_v 5) (do_e de_int)) (dss_one (ds_ret (dr_callP G__law_at (hr.mono (by decide)) T.g__law_at T.F__law_at.kp T.b__law_at (takes_of rfl rfl rfl rfl) (da_cons (de_var 4) (da_cons (de_fz (dr_ty call_tupleA ok_tuple T.z_tuple (dos_cons (do_e (de_fz (dr_lcV sc__law_crowded.nd (di_any rfl (de_fz (dr_callP G__law_spots (hr.mono (by decide)) T.g__law_spots T.F__law_spots.kp T.b__law_spots (takes_of rfl rfl rfl rfl) (da_cons (de_var 4) da_nil)))) (blkOk_by (own := [("_law_spot", 7)]) (N := N__law_crowded) (sc := defScope s__law_crowded) (by decide +kernel)) (fun _ _ _ _ _ => (dn_name (i := 7) sc__law_crowded.nd)) (fun _ _ _ _ _ => dts_nil) (fun _ _ _ _ _ => (de_fz (dr_op2 op_mod ok_mod (do_e (de_fz (dr_ty call_intA ok_int T.z_int (dos_cons (do_v 7) dos_nil)))) (do_e de_int))))))) dos_nil))) da_nil))))) dss_nil)
      (dss_one (ds_retv 4))))))).imp fun vs H Q E h => imD (c' := c__law_crowded T.CS) (h__law_crowded T.CS) h
theorem ok__law_by_turns (T : Txt K mg)  : FnOk P w K mg base (L2.CX P w) 1 T.a__law_by_turns T.d__law_by_turns ["_law_world_here", "_law_spots_here"] (spP K (c__law_by_turns T.CS)) :=
  okP (wb := w__law_by_turns T.CS) T.F__law_by_turns sc__law_by_turns (fun cdv A outer s H F E hr =>
    (dss_cons (ds_par (i := 2) (j := 3) rfl sc__law_by_turns.nd (db_cons (dr_bi (call_sortedA rfl) ok_sorted T.z_sorted (dos_cons (do_e (de_fz (dr_lcV sc__law_by_turns.nd (di_range1 (da_cons (de_fz (dr_bi call_lenA ok_len T.z_len (dos_cons (do_v 1) dos_nil))) da_nil) T.z_range) (blkOk_by (own := [("_law_k", 4)]) (N := N__law_by_turns) (sc := defScope s__law_by_turns) (by decide +kernel)) (fun _ _ _ _ _ => (dn_name (i := 4) sc__law_by_turns.nd)) (fun _ _ _ _ _ => (dts_one (dt_cmp2 (op_eqA (ru64 hr)) ok_eq (do_e (de_fz (dr_ix (ix_A (ru1 hr)) ok_ix (do_e (de_fz (dr_ix (ix_A (ru1 hr)) ok_ix (do_e (de_fz (dr_ix (ix_A (ru1 hr)) ok_ix (do_v 0) (do_e de_str)))) (do_v 4)))) (do_e de_int)))) (do_e de_int)))) (fun _ _ _ _ _ => (de_fz (dr_ix (ix_A (ru1 hr)) ok_ix (do_v 1) (do_v 4))))))) dos_nil)) (db_cons (dr_sh de_int) db_nil)))
      (dss_cons (ds_for (passes_of rfl) (di_range1 (da_cons (de_fz (dr_bi call_lenA ok_len T.z_len (dos_cons (do_v 2) dos_nil))) da_nil) T.z_range) (dg_name (i := 4) sc__law_by_turns.nd) (dss_one (ds_set (i := 3) sc__law_by_turns.nd (dr_op2 op_addA ok_add (do_v 3) (do_e (de_if (dt_cmp2 (op_eqA (ru64 hr)) ok_eq (do_e (de_fz (dr_op2 op_mod ok_mod (do_e (de_fz (dr_ty call_intA ok_int T.z_int (dos_cons (do_v 4) dos_nil)))) (do_e de_int)))) (do_e de_int)) (de_fz (dr_ix (ix_A (ru1 hr)) ok_ix (do_v 2) (do_v 4))) (de_fz (dr_op2 op_sub ok_sub (do_e de_int) (do_e (de_fz (dr_ix (ix_A (ru1 hr)) ok_ix (do_v 2) (do_v 4))))))))))))
      (dss_one (ds_retv 3))))) (h__law_by_turns T.CS)
theorem ok_Standing_has_name (T : Txt K mg) (G_is_word : FnOk P w K mg base (L2.CX P w) 1 T.a_is_word T.d_is_word ["value"] (spP K (c_is_word T.CS))) : FnOk P w K mg base (L2.CX P w) 2 T.a_Standing_has_name T.d_Standing_has_name ["self", "value"] (spP K (c_Standing_has_name T.CS)) :=
  okP (wb := w_Standing_has_name T.CS) T.F_Standing_has_name sc_Standing_has_name (fun cdv A outer s H F E hr =>
    (dss_one (ds_ret (dr_sh (de_andV (de_fz (dr_callP G_is_word (hr.mono (by decide)) T.g_is_word T.F_is_word.kp T.b_is_word (takes_of rfl rfl rfl rfl) (da_cons (de_var 1) da_nil))) (de_one (de_fz (dr_cmp2 (op_inA (ru65 hr)) ok_in (do_v 1) (do_e (de_fldO T.cl_Standing T.n_Standing_own_people (do_v 0))))))))))) (h_Standing_has_name T.CS)
theorem ok_Standing_person (T : Txt K mg) (G_Standing_has_name : FnOk P w K mg base (L2.CX P w) 2 T.a_Standing_has_name T.d_Standing_has_name ["self", "value"] (spP K (c_Standing_has_name T.CS))) : FnOk P w K mg base (L2.CX P w) 3 T.a_Standing_person T.d_Standing_person ["self", "name"] (spP K (c_Standing_person T.CS)) :=
  okP (wb := w_Standing_person T.CS) T.F_Standing_person sc_Standing_person (fun cdv A outer s H F E hr =>
    (dss_cons (ds_if (dt_not (dt_val (de_fz (dr_meth (c := (liftC (c_Standing_has_name T.CS))) (de_var 0) T.cl_Standing T.m_Standing_has_name (G_Standing_has_name.imp fun _ _ _ _ h => spP_of h) (hr.mono (by decide)) T.b_Standing_has_name (takes_of rfl rfl rfl rfl) (da_cons (de_var 1) da_nil))))) (dss_one ds_never) dss_nil)
      (dss_one (ds_ret (dr_ix (ix_A (ru1 hr)) ok_ix (do_e (de_fldO T.cl_Standing T.n_Standing_own_people (do_v 0))) (do_v 1)))))) (h_Standing_person T.CS)
theorem ok_Standing_place (T : Txt K mg) (G_Standing_person : FnOk P w K mg base (L2.CX P w) 3 T.a_Standing_person T.d_Standing_person ["self", "name"] (spP K (c_Standing_person T.CS))) : FnOk P w K mg base (L2.CX P w) 4 T.a_Standing_place T.d_Standing_place ["self", "name"] (spP K (c_Standing_place T.CS)) :=
  okP (wb := w_Standing_place T.CS) T.F_Standing_place sc_Standing_place (fun cdv A outer s H F E hr =>
    (dss_one (ds_ret (dr_ix (ix_A (ru1 hr)) ok_ix (do_e (de_fz (dr_meth (c := (liftC (c_Standing_person T.CS))) (de_var 0) T.cl_Standing T.m_Standing_person (G_Standing_person.imp fun _ _ _ _ h => spP_of h) (hr.mono (by decide)) T.b_Standing_person (takes_of rfl rfl rfl rfl) (da_cons (de_var 1) da_nil)))) (do_e de_int))))) (h_Standing_place T.CS)
theorem ok_Standing_names (T : Txt K mg)  : FnOk P w K mg base (L2.CX P w) 1 T.a_Standing_names T.d_Standing_names ["self"] (spP K (c_Standing_names T.CS)) :=
  okP (wb := w_Standing_names T.CS) T.F_Standing_names sc_Standing_names (fun cdv A outer s H F E hr =>
    (dss_one (ds_ret (dr_ty (call_listA rfl) ok_list T.z_list (dos_cons (do_e (de_fldO T.cl_Standing T.n_Standing_own_people (do_v 0))) dos_nil))))) (h_Standing_names T.CS)
theorem ok_Standing_line (T : Txt K mg) (G_Standing_place : FnOk P w K mg base (L2.CX P w) 4 T.a_Standing_place T.d_Standing_place ["self", "name"] (spP K (c_Standing_place T.CS))) (G_Standing_names : FnOk P w K mg base (L2.CX P w) 1 T.a_Standing_names T.d_Standing_names ["self"] (spP K (c_Standing_names T.CS))) : FnOk P w K mg base (L2.CX P w) 7 T.a_Standing_line T.d_Standing_line ["self"] (spP K (c_Standing_line T.CS)) :=
  okP (wb := w_Standing_line T.CS) T.F_Standing_line sc_Standing_line (fun cdv A outer s H F E hr =>
    (dss_one (ds_ret (dr_sortM rfl G_Standing_place (hr.mono (by decide)) T.b_Standing_place T.cl_Standing T.bm_Standing_place T.z_sorted (do_e (de_fz (dr_meth0 (c := (liftC (c_Standing_names T.CS))) (de_var 0) T.cl_Standing T.m_Standing_names (G_Standing_names.imp fun _ _ _ _ h => spP_of h) (hr.mono (by decide)) T.b_Standing_names (takes_of rfl rfl rfl rfl)))) (de_var 0))))) (h_Standing_line T.CS)
theorem ok_Standing_voice (T : Txt K mg) (G_Standing_person : FnOk P w K mg base (L2.CX P w) 3 T.a_Standing_person T.d_Standing_person ["self", "name"] (spP K (c_Standing_person T.CS))) : FnOk P w K mg base (L2.CX P w) 4 T.a_Standing_voice T.d_Standing_voice ["self", "name"] (spP K (c_Standing_voice T.CS)) :=
  okP (wb := w_Standing_voice T.CS) T.F_Standing_voice sc_Standing_voice (fun cdv A outer s H F E hr =>
    (dss_one (ds_ret (dr_ix (ix_A (ru1 hr)) ok_ix (do_e (de_fz (dr_meth (c := (liftC (c_Standing_person T.CS))) (de_var 0) T.cl_Standing T.m_Standing_person (G_Standing_person.imp fun _ _ _ _ h => spP_of h) (hr.mono (by decide)) T.b_Standing_person (takes_of rfl rfl rfl rfl) (da_cons (de_var 1) da_nil)))) (do_e de_int))))) (h_Standing_voice T.CS)
theorem ok_with_voice (T : Txt K mg) (G_Standing_line : FnOk P w K mg base (L2.CX P w) 7 T.a_Standing_line T.d_Standing_line ["self"] (spP K (c_Standing_line T.CS))) (G_Standing_voice : FnOk P w K mg base (L2.CX P w) 4 T.a_Standing_voice T.d_Standing_voice ["self", "name"] (spP K (c_Standing_voice T.CS))) : FnOk P w K mg base (L2.CX P w) 8 T.a_with_voice T.d_with_voice ["standing"] (spP K (c_with_voice T.CS)) :=
  okP (wb := w_with_voice T.CS) T.F_with_voice sc_with_voice (fun cdv A outer s H F E hr =>
    (dss_one (ds_ret (dr_lcV sc_with_voice.nd (di_any rfl (de_fz (dr_meth0 (c := (liftC (c_Standing_line T.CS))) (de_var 0) T.cl_Standing T.m_Standing_line (G_Standing_line.imp fun _ _ _ _ h => spP_of h) (hr.mono (by decide)) T.b_Standing_line (takes_of rfl rfl rfl rfl)))) (blkOk_by (own := [("name", 1)]) (N := N_with_voice) (sc := defScope s_with_voice) (by decide +kernel)) (fun _ _ _ _ _ => (dn_name (i := 1) sc_with_voice.nd)) (fun _ _ _ _ _ => (dts_one (dt_cmp2 (op_eqA (ru64 hr)) ok_eq (do_e (de_fz (dr_meth (c := (liftC (c_Standing_voice T.CS))) (de_var 0) T.cl_Standing T.m_Standing_voice (G_Standing_voice.imp fun _ _ _ _ h => spP_of h) (hr.mono (by decide)) T.b_Standing_voice takes0 (da_cons (de_var 1) da_nil)))) (do_e de_int)))) (fun _ _ _ _ _ => (de_var 1)))))) (h_with_voice T.CS)
theorem ok_Standing_people (T : Txt K mg)  : FnOk P w K mg base (L2.CX P w) 1 T.a_Standing_people T.d_Standing_people ["self"] (spP K (c_Standing_people T.CS)) :=
  okP (wb := w_Standing_people T.CS) T.F_Standing_people sc_Standing_people (fun cdv A outer s H F E hr =>
    (dss_one (ds_ret (dr_vals T.z_list (do_e (de_fldO T.cl_Standing T.n_Standing_own_people (do_v 0))))))) (h_Standing_people T.CS)
theorem ok_voice_places (T : Txt K mg) (G_Standing_people : FnOk P w K mg base (L2.CX P w) 1 T.a_Standing_people T.d_Standing_people ["self"] (spP K (c_Standing_people T.CS))) : FnOk P w K mg base (L2.CX P w) 2 T.a_voice_places T.d_voice_places ["standing"] (spP K (c_voice_places T.CS)) :=
  okP (wb := w_voice_places T.CS) T.F_voice_places sc_voice_places (fun cdv A outer s H F E hr =>
    (dss_one (ds_ret (dr_bi (call_sortedA rfl) ok_sorted T.z_sorted (dos_cons (do_e (de_fz (dr_lcV sc_voice_places.nd (di_any rfl (de_fz (dr_meth0 (c := (liftC (c_Standing_people T.CS))) (de_var 0) T.cl_Standing T.m_Standing_people (G_Standing_people.imp fun _ _ _ _ h => spP_of h) (hr.mono (by decide)) T.b_Standing_people (takes_of rfl rfl rfl rfl)))) (blkOk_by (own := [("name", 1), ("place", 2), ("voice", 3)]) (N := N_voice_places) (sc := defScope s_voice_places) (by decide +kernel)) (fun _ _ _ _ _ => (dn_tup rfl rfl (dns_cons (dn_name (i := 1) sc_voice_places.nd) (dns_cons (dn_name (i := 2) sc_voice_places.nd) (dns_cons (dn_name (i := 3) sc_voice_places.nd) dns_nil))))) (fun _ _ _ _ _ => (dts_one (dt_cmp2 (op_eqA (ru64 hr)) ok_eq (do_v 3) (do_e de_int)))) (fun _ _ _ _ _ => (de_var 2))))) dos_nil))))) (h_voice_places T.CS)
theorem ok_turn_sum (T : Txt K mg) (G_voice_places : FnOk P w K mg base (L2.CX P w) 2 T.a_voice_places T.d_voice_places ["standing"] (spP K (c_voice_places T.CS))) : FnOk P w K mg base (L2.CX P w) 3 T.a_turn_sum T.d_turn_sum ["standing"] (spP K (c_turn_sum T.CS)) :=
  okP (wb := w_turn_sum T.CS) T.F_turn_sum sc_turn_sum (fun cdv A outer s H F E hr =>
    (dss_cons (ds_set (i := 1) sc_turn_sum.nd (dr_callP G_voice_places (hr.mono (by decide)) T.g_voice_places T.F_voice_places.kp T.b_voice_places (takes_of rfl rfl rfl rfl) (da_cons (de_var 0) da_nil)))
      (dss_one (ds_ret (dr_op2 op_sub ok_sub (do_e (de_fz (dr_bi (cr_sum rfl) ok_sum T.z_sum (dos_cons (do_e (de_fz (dr_sl3 rfl (do_v 1) dp_none dp_none (dp_some de_int)))) dos_nil)))) (do_e (de_fz (dr_bi (cr_sum rfl) ok_sum T.z_sum (dos_cons (do_e (de_fz (dr_sl3 rfl (do_v 1) (dp_some de_int) dp_none (dp_some de_int)))) dos_nil))))))))) (h_turn_sum T.CS)
theorem ok_Standing_voices (T : Txt K mg) (G_Standing_people : FnOk P w K mg base (L2.CX P w) 1 T.a_Standing_people T.d_Standing_people ["self"] (spP K (c_Standing_people T.CS))) : FnOk P w K mg base (L2.CX P w) 2 T.a_Standing_voices T.d_Standing_voices ["self"] (spP K (c_Standing_voices T.CS)) :=
  okP (wb := w_Standing_voices T.CS) T.F_Standing_voices sc_Standing_voices (fun cdv A outer s H F E hr =>
    (dss_one (ds_ret (dr_bi (cr_sum rfl) ok_sum T.z_sum (dos_cons (do_e (de_fz (dr_lcV sc_Standing_voices.nd (di_any rfl (de_fz (dr_meth0 (c := (liftC (c_Standing_people T.CS))) (de_var 0) T.cl_Standing T.m_Standing_people (G_Standing_people.imp fun _ _ _ _ h => spP_of h) (hr.mono (by decide)) T.b_Standing_people (takes_of rfl rfl rfl rfl)))) (blkOk_by (own := [("name", 1), ("place", 2), ("voice", 3)]) (N := N_Standing_voices) (sc := defScope s_Standing_voices) (by decide +kernel)) (fun _ _ _ _ _ => (dn_tup rfl rfl (dns_cons (dn_name (i := 1) sc_Standing_voices.nd) (dns_cons (dn_name (i := 2) sc_Standing_voices.nd) (dns_cons (dn_name (i := 3) sc_Standing_voices.nd) dns_nil))))) (fun _ _ _ _ _ => dts_nil) (fun _ _ _ _ _ => (de_var 3))))) dos_nil))))) (h_Standing_voices T.CS)
theorem ok_wished_steps (T : Txt K mg) (G_with_voice : FnOk P w K mg base (L2.CX P w) 8 T.a_with_voice T.d_with_voice ["standing"] (spP K (c_with_voice T.CS))) (G_turn_sum : FnOk P w K mg base (L2.CX P w) 3 T.a_turn_sum T.d_turn_sum ["standing"] (spP K (c_turn_sum T.CS))) (G_Standing_voices : FnOk P w K mg base (L2.CX P w) 2 T.a_Standing_voices T.d_Standing_voices ["self"] (spP K (c_Standing_voices T.CS))) : FnOk P w K mg base (L2.CX P w) 9 T.a_wished_steps T.d_wished_steps ["standing", "place"] (spP K (c_wished_steps T.CS)) :=
  okP (wb := w_wished_steps T.CS) T.F_wished_steps sc_wished_steps (fun cdv A outer s H F E hr =>
    (dss_cons (ds_if (dt_cmp2 (op_eqA (ru64 hr)) ok_eq (do_e (de_fz (dr_op2 op_mod ok_mod (do_e (de_fz (dr_meth0 (c := (liftC (c_Standing_voices T.CS))) (de_var 0) T.cl_Standing T.m_Standing_voices (G_Standing_voices.imp fun _ _ _ _ h => spP_of h) (hr.mono (by decide)) T.b_Standing_voices (takes_of rfl rfl rfl rfl)))) (do_e de_int)))) (do_e de_int)) (dss_one (ds_raise0 rfl (takes_of rfl rfl rfl rfl) T.e_EvenVoices)) dss_nil)
      (dss_cons (ds_set (i := 2) sc_wished_steps.nd (dr_op2 op_sub ok_sub (do_v 1) (do_e (de_fz (dr_callP G_turn_sum (hr.mono (by decide)) T.g_turn_sum T.F_turn_sum.kp T.b_turn_sum (takes_of rfl rfl rfl rfl) (da_cons (de_var 0) da_nil))))))
      (dss_cons (ds_set (i := 3) sc_wished_steps.nd (dr_callP G_with_voice (hr.mono (by decide)) T.g_with_voice T.F_with_voice.kp T.b_with_voice (takes_of rfl rfl rfl rfl) (da_cons (de_var 0) da_nil)))
      (dss_cons (ds_if (dt_cmp2 (op_eqA (ru64 hr)) ok_eq (do_v 2) (do_e de_int)) (dss_one (ds_ret (dr_sh (de_tup (da_cons de_str (da_cons (de_tupF da_nil) da_nil)))))) dss_nil)
      (dss_one (ds_ret (dr_sh (de_tup (da_cons de_str (da_cons (de_tupF (da_cons (de_tup (da_cons (de_if (dt_cmp2 op_gt ok_gt (do_v 2) (do_e de_int)) (de_fz (dr_ix (ix_A (ru1 hr)) ok_ix (do_v 3) (do_e (de_fz (dr_un1 un_neg ok_neg (do_e de_int)))))) (de_fz (dr_ix (ix_A (ru1 hr)) ok_ix (do_v 3) (do_e de_int)))) (da_cons (de_var 2) da_nil))) da_nil)) da_nil))))))))))) (h_wished_steps T.CS)
theorem ok_need_odd (T : Txt K mg) (G_Standing_voices : FnOk P w K mg base (L2.CX P w) 2 T.a_Standing_voices T.d_Standing_voices ["self"] (spP K (c_Standing_voices T.CS))) : FnOk P w K mg base (L2.CX P w) 3 T.a_need_odd T.d_need_odd ["standing"] (spP K (c_need_odd T.CS)) :=
  okP (wb := w_need_odd T.CS) T.F_need_odd sc_need_odd (fun cdv A outer s H F E hr =>
    (dss_one (ds_if (dt_cmp2 (op_eqA (ru64 hr)) ok_eq (do_e (de_fz (dr_op2 op_mod ok_mod (do_e (de_fz (dr_meth0 (c := (liftC (c_Standing_voices T.CS))) (de_var 0) T.cl_Standing T.m_Standing_voices (G_Standing_voices.imp fun _ _ _ _ h => spP_of h) (hr.mono (by decide)) T.b_Standing_voices (takes_of rfl rfl rfl rfl)))) (do_e de_int)))) (do_e de_int)) (dss_one ds_never) dss_nil))) (h_need_odd T.CS)
theorem ok_meeting_place (T : Txt K mg) (G_turn_sum : FnOk P w K mg base (L2.CX P w) 3 T.a_turn_sum T.d_turn_sum ["standing"] (spP K (c_turn_sum T.CS))) (G_need_odd : FnOk P w K mg base (L2.CX P w) 3 T.a_need_odd T.d_need_odd ["standing"] (spP K (c_need_odd T.CS))) : FnOk P w K mg base (L2.CX P w) 4 T.a_meeting_place T.d_meeting_place ["standing"] (spP K (c_meeting_place T.CS)) :=
  okP (wb := w_meeting_place T.CS) T.F_meeting_place sc_meeting_place (fun cdv A outer s H F E hr =>
    (dss_cons (ds_expr (dr_callP G_need_odd (hr.mono (by decide)) T.g_need_odd T.F_need_odd.kp T.b_need_odd (takes_of rfl rfl rfl rfl) (da_cons (de_var 0) da_nil)))
      (dss_one (ds_ret (dr_callP G_turn_sum (hr.mono (by decide)) T.g_turn_sum T.F_turn_sum.kp T.b_turn_sum (takes_of rfl rfl rfl rfl) (da_cons (de_var 0) da_nil)))))) (h_meeting_place T.CS)
theorem ok__law_turned_voices (T : Txt K mg) (G__law_made : FnOk P w K mg base (L2.CX P w) 6 T.a__law_made T.d__law_made ["_law_people"] (spP K (c__law_made T.CS))) : FnOk P w K mg base (L2.CX P w) 7 T.a__law_turned_voices T.d__law_turned_voices ["_law_world_here", "_law_names_here"] (spP K (c__law_turned_voices T.CS)) :=
  okP (wb := w__law_turned_voices T.CS) T.F__law_turned_voices sc__law_turned_voices (fun cdv A outer s H F E hr =>
    (dss_one (ds_ret (dr_callP G__law_made (hr.mono (by decide)) T.g__law_made T.F__law_made.kp T.b__law_made (takes_of rfl rfl rfl rfl) (da_cons (de_fz (dr_lcV sc__law_turned_voices.nd (di_any rfl (de_fz (dr_ix (ix_A (ru1 hr)) ok_ix (do_v 0) (do_e de_str)))) (blkOk_by (own := [("_law_name", 2), ("_law_place", 3), ("_law_voice", 4)]) (N := N__law_turned_voices) (sc := defScope s__law_turned_voices) (by decide +kernel)) (fun _ _ _ _ _ => (dn_tup rfl rfl (dns_cons (dn_name (i := 2) sc__law_turned_voices.nd) (dns_cons (dn_name (i := 3) sc__law_turned_voices.nd) (dns_cons (dn_name (i := 4) sc__law_turned_voices.nd) dns_nil))))) (fun _ _ _ _ _ => dts_nil) (fun _ _ _ _ _ => (de_tup (da_cons (de_var 2) (da_cons (de_var 3) (da_cons (de_if (dt_cmp2 (op_inA (ru65 hr)) ok_in (do_v 2) (do_v 1)) (de_fz (dr_op2 op_sub ok_sub (do_e de_int) (do_v 4))) (de_var 4)) da_nil))))))) da_nil))))) (h__law_turned_voices T.CS)
theorem ok__law_stepped (T : Txt K mg)  : FnOk P w K mg base (L2.CX P w) 1 T.a__law_stepped T.d__law_stepped ["_law_world_here", "_law_rows"] (spP K (c__law_stepped T.CS)) :=
  okP (wb := w__law_stepped T.CS) T.F__law_stepped sc__law_stepped (fun cdv A outer s H F E hr =>
    (dss_cons (ds_set (i := 2) sc__law_stepped.nd (dr_ty (call_dictA rfl) ok_dict T.z_dict (dos_cons (do_v 1) dos_nil)))
      (dss_one (ds_ret (dr_ty call_tupleA ok_tuple T.z_tuple (dos_cons (do_e (de_fz (dr_lcV sc__law_stepped.nd (di_any rfl (de_fz (dr_ix (ix_A (ru1 hr)) ok_ix (do_v 0) (do_e de_str)))) (blkOk_by (own := [("_law_name", 3), ("_law_place", 4), ("_law_voice", 5)]) (N := N__law_stepped) (sc := defScope s__law_stepped) (by decide +kernel)) (fun _ _ _ _ _ => (dn_tup rfl rfl (dns_cons (dn_name (i := 3) sc__law_stepped.nd) (dns_cons (dn_name (i := 4) sc__law_stepped.nd) (dns_cons (dn_name (i := 5) sc__law_stepped.nd) dns_nil))))) (fun _ _ _ _ _ => dts_nil) (fun _ _ _ _ _ => (de_fz (dr_op2 op_addA ok_add (do_v 4) (do_e (de_get2 (ru1 hr) (do_v 2) (do_v 3) de_int)))))))) dos_nil)))))) (h__law_stepped T.CS)
theorem ok__law_voices (T : Txt K mg)  : FnOk P w K mg base (L2.CX P w) 1 T.a__law_voices T.d__law_voices ["_law_world_here"] (spP K (c__law_voices T.CS)) :=
  okP (wb := w__law_voices T.CS) T.F__law_voices sc__law_voices (fun cdv A outer s H F E hr =>
    (dss_one (ds_ret (dr_bi (cr_sum rfl) ok_sum T.z_sum (dos_cons (do_e (de_fz (dr_lcV sc__law_voices.nd (di_any rfl (de_fz (dr_ix (ix_A (ru1 hr)) ok_ix (do_v 0) (do_e de_str)))) (blkOk_by (own := [("_law_one", 1)]) (N := N__law_voices) (sc := defScope s__law_voices) (by decide +kernel)) (fun _ _ _ _ _ => (dn_name (i := 1) sc__law_voices.nd)) (fun _ _ _ _ _ => dts_nil) (fun _ _ _ _ _ => (de_fz (dr_ix (ix_A (ru1 hr)) ok_ix (do_v 1) (do_e de_int))))))) dos_nil))))) (h__law_voices T.CS)
theorem ok__law_is_whole (T : Txt K mg)  : FnOk P w K mg base (L2.CX P w) 1 T.a__law_is_whole T.d__law_is_whole ["_law_value"] (spP K (c__law_is_whole T.CS)) :=
  okP (wb := w__law_is_whole T.CS) T.F__law_is_whole sc__law_is_whole (fun cdv A outer s H F E hr =>
    (dss_one (ds_ret (dr_sh (de_andV (de_fz (dr_bi call_isiA ok_isi T.z_isinstance (dos_cons (do_v 0) (dos_cons (do_e (de_ty "int" T.z_int)) dos_nil)))) (de_one (de_notV (de_fz (dr_bi call_isiA ok_isi T.z_isinstance (dos_cons (do_v 0) (dos_cons (do_e (de_ty "bool" T.z_bool)) dos_nil))))))))))) (h__law_is_whole T.CS)
theorem ok__law_verdict (T : Txt K mg) (G__law_at : FnOk P w K mg base (L2.CX P w) 7 T.a__law_at T.d__law_at ["_law_world_here", "_law_spots_here"] (spP K (c__law_at T.CS))) (G__law_spots : FnOk P w K mg base (L2.CX P w) 1 T.a__law_spots T.d__law_spots ["_law_world_here"] (spP K (c__law_spots T.CS))) (G__law_by_turns : FnOk P w K mg base (L2.CX P w) 1 T.a__law_by_turns T.d__law_by_turns ["_law_world_here", "_law_spots_here"] (spP K (c__law_by_turns T.CS))) (G__law_turned_voices : FnOk P w K mg base (L2.CX P w) 7 T.a__law_turned_voices T.d__law_turned_voices ["_law_world_here", "_law_names_here"] (spP K (c__law_turned_voices T.CS))) (G__law_stepped : FnOk P w K mg base (L2.CX P w) 1 T.a__law_stepped T.d__law_stepped ["_law_world_here", "_law_rows"] (spP K (c__law_stepped T.CS))) (G__law_voices : FnOk P w K mg base (L2.CX P w) 1 T.a__law_voices T.d__law_voices ["_law_world_here"] (spP K (c__law_voices T.CS))) (G__law_is_whole : FnOk P w K mg base (L2.CX P w) 1 T.a__law_is_whole T.d__law_is_whole ["_law_value"] (spP K (c__law_is_whole T.CS))) : FnOk P w K mg base (L2.CX P w) 8 T.a__law_verdict T.d__law_verdict ["_law_world_here", "_law_place", "_law_value"] (spP K (c__law_verdict T.CS)) :=
  okP (wb := w__law_verdict T.CS) T.F__law_verdict sc__law_verdict (fun cdv A outer s H F E hr =>
    (dss_cons (ds_if (dw_or (dt_not (dt_val (de_fz (dr_bi call_isiA ok_isi T.z_isinstance (dos_cons (do_v 2) (dos_cons (do_e (de_ty "tuple" T.z_tuple)) dos_nil)))))) (dw_or (dt_cmp2 (op_neA (ru64 hr)) ok_ne (do_e (de_fz (dr_bi call_lenA ok_len T.z_len (dos_cons (do_v 2) dos_nil)))) (do_e de_int)) (dw_or1 (dt_cmp2 (op_notInA (ru65 hr)) ok_notIn (do_e (de_fz (dr_bi call_reprA ok_repr T.z_repr (dos_cons (do_e (de_fz (dr_ix (ix_A (ru1 hr)) ok_ix (do_v 2) (do_e de_int)))) dos_nil)))) (do_e (de_fz (dr_lst (da_cons (de_fz (dr_bi call_reprA ok_repr T.z_repr (dos_cons (do_e de_str) dos_nil))) (da_cons (de_fz (dr_bi call_reprA ok_repr T.z_repr (dos_cons (do_e de_str) dos_nil))) da_nil))))))))).pt (dss_one (ds_ret (dr_sh (de_tup (da_cons de_str da_nil))))) dss_nil)
      (dss_cons (ds_if (dt_not (dt_val (de_fz (dr_bi call_isiA ok_isi T.z_isinstance (dos_cons (do_e (de_fz (dr_ix (ix_A (ru1 hr)) ok_ix (do_v 2) (do_e de_int)))) (dos_cons (do_e (de_ty "tuple" T.z_tuple)) dos_nil)))))) (dss_one (ds_ret (dr_sh (de_tup (da_cons de_str da_nil))))) dss_nil)
      (dss_cons (ds_par (i := 3) (j := 4) rfl sc__law_verdict.nd (db_cons (dr_lcV sc__law_verdict.nd (di_any rfl (de_fz (dr_ix (ix_A (ru1 hr)) ok_ix (do_v 0) (do_e de_str)))) (blkOk_by (own := [("_law_one", 10)]) (N := N__law_verdict) (sc := defScope s__law_verdict) (by decide +kernel)) (fun _ _ _ _ _ => (dn_name (i := 10) sc__law_verdict.nd)) (fun _ _ _ _ _ => dts_nil) (fun _ _ _ _ _ => (de_fz (dr_ix (ix_A (ru1 hr)) ok_ix (do_v 10) (do_e de_int))))) (db_cons (dr_lst da_nil) db_nil)))
      (dss_cons (ds_if (dt_cmp2 (op_eqA (ru64 hr)) ok_eq (do_e (de_fz (dr_ix (ix_A (ru1 hr)) ok_ix (do_v 2) (do_e de_int)))) (do_e de_str)) (dss_one (ds_for (passes_of rfl) (di_any rfl (de_fz (dr_ix (ix_A (ru1 hr)) ok_ix (do_v 2) (do_e de_int)))) (dg_name (i := 5) sc__law_verdict.nd) (dss_one (ds_if (dw_or (dt_not (dt_val (de_fz (dr_bi call_isiA ok_isi T.z_isinstance (dos_cons (do_v 5) (dos_cons (do_e (de_ty "tuple" T.z_tuple)) dos_nil)))))) (dw_or (dt_cmp2 (op_neA (ru64 hr)) ok_ne (do_e (de_fz (dr_bi call_lenA ok_len T.z_len (dos_cons (do_v 5) dos_nil)))) (do_e de_int)) (dw_or (dt_not (dt_val (de_fz (dr_callP G__law_is_whole (hr.mono (by decide)) T.g__law_is_whole T.F__law_is_whole.kp T.b__law_is_whole (takes_of rfl rfl rfl rfl) (da_cons (de_fz (dr_ix (ix_A (ru1 hr)) ok_ix (do_v 5) (do_e de_int))) da_nil))))) (dw_or1 (dt_cmp2 (op_eqA (ru64 hr)) ok_eq (do_e (de_fz (dr_ix (ix_A (ru1 hr)) ok_ix (do_v 5) (do_e de_int)))) (do_e de_int)))))).pt (dss_one (ds_ret (dr_sh (de_tup (da_cons de_str da_nil))))) dss_nil)))) dss_nil)
      (dss_cons (ds_for (passes_of rfl) (di_range1 (da_cons (de_fz (dr_bi call_lenA ok_len T.z_len (dos_cons (do_e (de_fz (dr_ix (ix_A (ru1 hr)) ok_ix (do_v 2) (do_e de_int)))) dos_nil))) da_nil) T.z_range) (dg_name (i := 6) sc__law_verdict.nd) (dss_cons (ds_set (i := 7) sc__law_verdict.nd (dr_if (dt_cmp2 (op_eqA (ru64 hr)) ok_eq (do_e (de_fz (dr_ix (ix_A (ru1 hr)) ok_ix (do_v 2) (do_e de_int)))) (do_e de_str)) (dr_ix (ix_A (ru1 hr)) ok_ix (do_e (de_fz (dr_ix (ix_A (ru1 hr)) ok_ix (do_e (de_fz (dr_ix (ix_A (ru1 hr)) ok_ix (do_v 2) (do_e de_int)))) (do_v 6)))) (do_e de_int)) (dr_ix (ix_A (ru1 hr)) ok_ix (do_e (de_fz (dr_ix (ix_A (ru1 hr)) ok_ix (do_v 2) (do_e de_int)))) (do_v 6))))
      (dss_cons (ds_if (dw_or (dt_not (dt_val (de_fz (dr_bi call_isiA ok_isi T.z_isinstance (dos_cons (do_v 7) (dos_cons (do_e (de_ty "str" T.z_str)) dos_nil)))))) (dw_or (dt_cmp2 (op_notInA (ru65 hr)) ok_notIn (do_v 7) (do_v 3)) (dw_or1 (dt_cmp2 (op_inA (ru65 hr)) ok_in (do_v 7) (do_v 4))))).pt (dss_one (ds_ret (dr_sh (de_tup (da_cons de_str (da_cons (de_var 6) da_nil)))))) dss_nil)
      (dss_one (ds_expr (dr_sh (de_m 4 rfl PySem.F.slot_list_append PySem.F.type_list_append mt_append ok_append (da_cons (de_var 7) da_nil))))))))
      (dss_cons (ds_set (i := 8) sc__law_verdict.nd (dr_if (dt_cmp2 (op_eqA (ru64 hr)) ok_eq (do_e (de_fz (dr_ix (ix_A (ru1 hr)) ok_ix (do_v 2) (do_e de_int)))) (do_e de_str)) (dr_callP G__law_turned_voices (hr.mono (by decide)) T.g__law_turned_voices T.F__law_turned_voices.kp T.b__law_turned_voices (takes_of rfl rfl rfl rfl) (da_cons (de_var 0) (da_cons (de_var 4) da_nil))) (dr_callP G__law_at (hr.mono (by decide)) T.g__law_at T.F__law_at.kp T.b__law_at (takes_of rfl rfl rfl rfl) (da_cons (de_var 0) (da_cons (de_fz (dr_callP G__law_stepped (hr.mono (by decide)) T.g__law_stepped T.F__law_stepped.kp T.b__law_stepped (takes_of rfl rfl rfl rfl) (da_cons (de_var 0) (da_cons (de_fz (dr_ix (ix_A (ru1 hr)) ok_ix (do_v 2) (do_e de_int))) da_nil)))) da_nil)))))
      (dss_cons (ds_if (dt_cmp2 (op_eqA (ru64 hr)) ok_eq (do_e (de_fz (dr_op2 op_mod ok_mod (do_e (de_fz (dr_ty call_intA ok_int T.z_int (dos_cons (do_e (de_fz (dr_callP G__law_voices (hr.mono (by decide)) T.g__law_voices T.F__law_voices.kp T.b__law_voices (takes_of rfl rfl rfl rfl) (da_cons (de_var 8) da_nil)))) dos_nil)))) (do_e de_int)))) (do_e de_int)) (dss_one (ds_ret (dr_sh (de_tup (da_cons de_str da_nil))))) dss_nil)
      (dss_cons (ds_set (i := 9) sc__law_verdict.nd (dr_callP G__law_by_turns (hr.mono (by decide)) T.g__law_by_turns T.F__law_by_turns.kp T.b__law_by_turns (takes_of rfl rfl rfl rfl) (da_cons (de_var 8) (da_cons (de_fz (dr_callP G__law_spots (hr.mono (by decide)) T.g__law_spots T.F__law_spots.kp T.b__law_spots (takes_of rfl rfl rfl rfl) (da_cons (de_var 8) da_nil))) da_nil))))
      (dss_one (ds_ret (dr_if (dt_cmp2 (op_eqA (ru64 hr)) ok_eq (do_v 9) (do_v 1)) (dr_sh de_non) (dr_sh (de_tup (da_cons de_str (da_cons (de_var 9) da_nil)))))))))))))))) (h__law_verdict T.CS)
theorem ok_exchanged (T : Txt K mg) (G_Standing_init : FnOk P w K mg base (L2.CX P w) 4 T.a_Standing_init T.d_Standing_init ["self", "people"] (spPI K T.CS.Standing (c_Standing_init T.CS))) (G_Standing_person : FnOk P w K mg base (L2.CX P w) 3 T.a_Standing_person T.d_Standing_person ["self", "name"] (spP K (c_Standing_person T.CS))) (G_Standing_people : FnOk P w K mg base (L2.CX P w) 1 T.a_Standing_people T.d_Standing_people ["self"] (spP K (c_Standing_people T.CS))) : FnOk P w K mg base (L2.CX P w) 6 T.a_exchanged T.d_exchanged ["standing", "person"] (spP K (c_exchanged T.CS)) :=
  okP (wb := w_exchanged T.CS) T.F_exchanged sc_exchanged (fun cdv A outer s H F E hr =>
    (dss_cons (ds_set (i := 2) sc_exchanged.nd (dr_meth (c := (liftC (c_Standing_person T.CS))) (de_var 0) T.cl_Standing T.m_Standing_person (G_Standing_person.imp fun _ _ _ _ h => spP_of h) (hr.mono (by decide)) T.b_Standing_person (takes_of rfl rfl rfl rfl) (da_cons (de_fz (dr_ix (ix_A (ru1 hr)) ok_ix (do_v 1) (do_e de_int))) da_nil)))
      (dss_one (ds_ret (dr_makeP T.mk_Standing G_Standing_init (hr.mono (by decide)) T.gc_Standing T.b_Standing_init (takes_of rfl rfl rfl rfl) (da_cons (de_fz (dr_lcV sc_exchanged.nd (di_any rfl (de_fz (dr_meth0 (c := (liftC (c_Standing_people T.CS))) (de_var 0) T.cl_Standing T.m_Standing_people (G_Standing_people.imp fun _ _ _ _ h => spP_of h) (hr.mono (by decide)) T.b_Standing_people (takes_of rfl rfl rfl rfl)))) (blkOk_by (own := [("other", 3)]) (N := N_exchanged) (sc := defScope s_exchanged) (by decide +kernel)) (fun _ _ _ _ _ => (dn_name (i := 3) sc_exchanged.nd)) (fun _ _ _ _ _ => dts_nil) (fun _ _ _ _ _ => (de_if (dt_cmp2 (op_eqA (ru64 hr)) ok_eq (do_v 3) (do_v 2)) (de_var 1) (de_var 3))))) da_nil)))))) (h_exchanged T.CS)
theorem ok_moved_person (T : Txt K mg) (G_Standing_voice : FnOk P w K mg base (L2.CX P w) 4 T.a_Standing_voice T.d_Standing_voice ["self", "name"] (spP K (c_Standing_voice T.CS))) (G_exchanged : FnOk P w K mg base (L2.CX P w) 6 T.a_exchanged T.d_exchanged ["standing", "person"] (spP K (c_exchanged T.CS))) : FnOk P w K mg base (L2.CX P w) 7 T.a_moved_person T.d_moved_person ["standing", "name", "place"] (spP K (c_moved_person T.CS)) :=
  okP (wb := w_moved_person T.CS) T.F_moved_person sc_moved_person (fun cdv A outer s H F E hr =>
    (dss_one (ds_ret (dr_callP G_exchanged (hr.mono (by decide)) T.g_exchanged T.F_exchanged.kp T.b_exchanged (takes_of rfl rfl rfl rfl) (da_cons (de_var 0) (da_cons (de_tup (da_cons (de_var 1) (da_cons (de_var 2) (da_cons (de_fz (dr_meth (c := (liftC (c_Standing_voice T.CS))) (de_var 0) T.cl_Standing T.m_Standing_voice (G_Standing_voice.imp fun _ _ _ _ h => spP_of h) (hr.mono (by decide)) T.b_Standing_voice (takes_of rfl rfl rfl rfl) (da_cons (de_var 1) da_nil))) da_nil)))) da_nil)))))) (h_moved_person T.CS)
theorem ok_voiced (T : Txt K mg) (G_Standing_place : FnOk P w K mg base (L2.CX P w) 4 T.a_Standing_place T.d_Standing_place ["self", "name"] (spP K (c_Standing_place T.CS))) (G_exchanged : FnOk P w K mg base (L2.CX P w) 6 T.a_exchanged T.d_exchanged ["standing", "person"] (spP K (c_exchanged T.CS))) : FnOk P w K mg base (L2.CX P w) 7 T.a_voiced T.d_voiced ["standing", "name", "voice"] (spP K (c_voiced T.CS)) :=
  okP (wb := w_voiced T.CS) T.F_voiced sc_voiced (fun cdv A outer s H F E hr =>
    (dss_one (ds_ret (dr_callP G_exchanged (hr.mono (by decide)) T.g_exchanged T.F_exchanged.kp T.b_exchanged (takes_of rfl rfl rfl rfl) (da_cons (de_var 0) (da_cons (de_tup (da_cons (de_var 1) (da_cons (de_fz (dr_meth (c := (liftC (c_Standing_place T.CS))) (de_var 0) T.cl_Standing T.m_Standing_place (G_Standing_place.imp fun _ _ _ _ h => spP_of h) (hr.mono (by decide)) T.b_Standing_place (takes_of rfl rfl rfl rfl) (da_cons (de_var 1) da_nil))) (da_cons (de_var 2) da_nil)))) da_nil)))))) (h_voiced T.CS)
theorem ok_wished (T : Txt K mg) (G_Standing_place : FnOk P w K mg base (L2.CX P w) 4 T.a_Standing_place T.d_Standing_place ["self", "name"] (spP K (c_Standing_place T.CS))) (G_Standing_voice : FnOk P w K mg base (L2.CX P w) 4 T.a_Standing_voice T.d_Standing_voice ["self", "name"] (spP K (c_Standing_voice T.CS))) (G_moved_person : FnOk P w K mg base (L2.CX P w) 7 T.a_moved_person T.d_moved_person ["standing", "name", "place"] (spP K (c_moved_person T.CS))) (G_voiced : FnOk P w K mg base (L2.CX P w) 7 T.a_voiced T.d_voiced ["standing", "name", "voice"] (spP K (c_voiced T.CS))) : FnOk P w K mg base (L2.CX P w) 8 T.a_wished T.d_wished ["standing", "value"] (spP K (c_wished T.CS)) :=
  okP (wb := w_wished T.CS) T.F_wished sc_wished (fun cdv A outer s H F E hr =>
    (dss_cons (ds_for (passes_of rfl) (di_any rfl (de_fz (dr_ix (ix_A (ru1 hr)) ok_ix (do_v 1) (do_e de_int)))) (dg_name (i := 2) sc_wished.nd) (dss_one (ds_if (dt_cmp2 (op_eqA (ru64 hr)) ok_eq (do_e (de_fz (dr_ix (ix_A (ru1 hr)) ok_ix (do_v 1) (do_e de_int)))) (do_e de_str)) (dss_one (ds_set (i := 0) sc_wished.nd (dr_callP G_moved_person (hr.mono (by decide)) T.g_moved_person T.F_moved_person.kp T.b_moved_person (takes_of rfl rfl rfl rfl) (da_cons (de_var 0) (da_cons (de_fz (dr_ix (ix_A (ru1 hr)) ok_ix (do_v 2) (do_e de_int))) (da_cons (de_fz (dr_op2 op_addA ok_add (do_e (de_fz (dr_meth (c := (liftC (c_Standing_place T.CS))) (de_var 0) T.cl_Standing T.m_Standing_place (G_Standing_place.imp fun _ _ _ _ h => spP_of h) (hr.mono (by decide)) T.b_Standing_place (takes_of rfl rfl rfl rfl) (da_cons (de_fz (dr_ix (ix_A (ru1 hr)) ok_ix (do_v 2) (do_e de_int))) da_nil)))) (do_e (de_fz (dr_ix (ix_A (ru1 hr)) ok_ix (do_v 2) (do_e de_int)))))) da_nil)))))) (dss_one (ds_set (i := 0) sc_wished.nd (dr_callP G_voiced (hr.mono (by decide)) T.g_voiced T.F_voiced.kp T.b_voiced (takes_of rfl rfl rfl rfl) (da_cons (de_var 0) (da_cons (de_var 2) (da_cons (de_fz (dr_op2 op_sub ok_sub (do_e de_int) (do_e (de_fz (dr_meth (c := (liftC (c_Standing_voice T.CS))) (de_var 0) T.cl_Standing T.m_Standing_voice (G_Standing_voice.imp fun _ _ _ _ h => spP_of h) (hr.mono (by decide)) T.b_Standing_voice (takes_of rfl rfl rfl rfl) (da_cons (de_var 2) da_nil)))))) da_nil)))))))))
      (dss_one (ds_retv 0)))) (h_wished T.CS)
theorem ok_is_row_wishes (T : Txt K mg) (G_is_integer : FnOk P w K mg base (L2.CX P w) 1 T.a_is_integer T.d_is_integer ["value"] (spP K (c_is_integer T.CS))) : FnOk P w K mg base (L2.CX P w) 2 T.a_is_row_wishes T.d_is_row_wishes ["value"] (spP K (c_is_row_wishes T.CS)) :=
  okP (wb := w_is_row_wishes T.CS) T.F_is_row_wishes sc_is_row_wishes (fun cdv A outer s H F E hr =>
    (dss_one (ds_ret (dr_sh (de_andV (de_fz (dr_bi call_isiA ok_isi T.z_isinstance (dos_cons (do_v 0) (dos_cons (do_e (de_ty "tuple" T.z_tuple)) dos_nil)))) (de_andV (de_fz (dr_cmp2 (op_eqA (ru64 hr)) ok_eq (do_e (de_fz (dr_bi call_lenA ok_len T.z_len (dos_cons (do_v 0) dos_nil)))) (do_e de_int))) (de_andV (de_fz (dr_callP G_is_integer (hr.mono (by decide)) T.g_is_integer T.F_is_integer.kp T.b_is_integer (takes_of rfl rfl rfl rfl) (da_cons (de_fz (dr_ix (ix_A (ru1 hr)) ok_ix (do_v 0) (do_e de_int))) da_nil))) (de_one (de_fz (dr_cmp2 (op_neA (ru64 hr)) ok_ne (do_e (de_fz (dr_ix (ix_A (ru1 hr)) ok_ix (do_v 0) (do_e de_int)))) (do_e de_int))))))))))) (h_is_row_wishes T.CS)
theorem ok_has_form (T : Txt K mg) (G_is_row_wishes : FnOk P w K mg base (L2.CX P w) 2 T.a_is_row_wishes T.d_is_row_wishes ["value"] (spP K (c_is_row_wishes T.CS))) : FnOk P w K mg base (L2.CX P w) 3 T.a_has_form T.d_has_form ["value"] (spP K (c_has_form T.CS)) :=
  okP (wb := w_has_form T.CS) T.F_has_form sc_has_form (fun cdv A outer s H F E hr =>
    (dss_cons (ds_if (dw_or (dt_not (dt_val (de_fz (dr_bi call_isiA ok_isi T.z_isinstance (dos_cons (do_v 0) (dos_cons (do_e (de_ty "tuple" T.z_tuple)) dos_nil)))))) (dw_or (dt_cmp2 (op_neA (ru64 hr)) ok_ne (do_e (de_fz (dr_bi call_lenA ok_len T.z_len (dos_cons (do_v 0) dos_nil)))) (do_e de_int)) (dw_or1 (dt_not (dt_val (de_fz (dr_bi call_isiA ok_isi T.z_isinstance (dos_cons (do_e (de_fz (dr_ix (ix_A (ru1 hr)) ok_ix (do_v 0) (do_e de_int)))) (dos_cons (do_e (de_ty "tuple" T.z_tuple)) dos_nil))))))))).pt (dss_one (ds_ret (dr_sh de_bl))) dss_nil)
      (dss_cons (ds_if (dw_or (dt_not (dt_val (de_fz (dr_bi call_isiA ok_isi T.z_isinstance (dos_cons (do_e (de_fz (dr_ix (ix_A (ru1 hr)) ok_ix (do_v 0) (do_e de_int)))) (dos_cons (do_e (de_ty "str" T.z_str)) dos_nil)))))) (dw_or1 (dt_cmp2 (op_notInA (ru65 hr)) ok_notIn (do_e (de_fz (dr_ix (ix_A (ru1 hr)) ok_ix (do_v 0) (do_e de_int)))) (do_e (de_tup (da_cons de_str (da_cons de_str da_nil))))))).pt (dss_one (ds_ret (dr_sh de_bl))) dss_nil)
      (dss_one (ds_ret (dr_sh (de_orV (de_fz (dr_cmp2 (op_eqA (ru64 hr)) ok_eq (do_e (de_fz (dr_ix (ix_A (ru1 hr)) ok_ix (do_v 0) (do_e de_int)))) (do_e de_str))) (de_one (de_fz (dr_bi (cr_all rfl) ok_all T.z_all (dos_cons (do_e (de_fz (dr_lcV sc_has_form.nd (di_any rfl (de_fz (dr_ix (ix_A (ru1 hr)) ok_ix (do_v 0) (do_e de_int)))) (blkOk_by (own := [("row", 1)]) (N := N_has_form) (sc := defScope s_has_form) (by decide +kernel)) (fun _ _ _ _ _ => (dn_name (i := 1) sc_has_form.nd)) (fun _ _ _ _ _ => dts_nil) (fun _ _ _ _ _ => (de_fz (dr_callP G_is_row_wishes (hr.mono (by decide)) T.al_is_row_wishes T.F_is_row_wishes.kp T.b_is_row_wishes takes0 (da_cons (de_var 1) da_nil))))))) dos_nil))))))))))) (h_has_form T.CS)
theorem ok_judge_wish (T : Txt K mg) (G_Standing_has_name : FnOk P w K mg base (L2.CX P w) 2 T.a_Standing_has_name T.d_Standing_has_name ["self", "value"] (spP K (c_Standing_has_name T.CS))) (G_turn_sum : FnOk P w K mg base (L2.CX P w) 3 T.a_turn_sum T.d_turn_sum ["standing"] (spP K (c_turn_sum T.CS))) (G_Standing_voices : FnOk P w K mg base (L2.CX P w) 2 T.a_Standing_voices T.d_Standing_voices ["self"] (spP K (c_Standing_voices T.CS))) (G_wished : FnOk P w K mg base (L2.CX P w) 8 T.a_wished T.d_wished ["standing", "value"] (spP K (c_wished T.CS))) (G_has_form : FnOk P w K mg base (L2.CX P w) 3 T.a_has_form T.d_has_form ["value"] (spP K (c_has_form T.CS))) : FnOk P w K mg base (L2.CX P w) 9 T.a_judge_wish T.d_judge_wish ["standing", "place", "value"] (spP K (c_judge_wish T.CS)) :=
  okP (wb := w_judge_wish T.CS) T.F_judge_wish sc_judge_wish (fun cdv A outer s H F E hr =>
    (dss_cons (ds_if (dt_not (dt_val (de_fz (dr_callP G_has_form (hr.mono (by decide)) T.g_has_form T.F_has_form.kp T.b_has_form (takes_of rfl rfl rfl rfl) (da_cons (de_var 2) da_nil))))) (dss_one (ds_ret (dr_sh (de_tup (da_cons de_str da_nil))))) dss_nil)
      (dss_cons (ds_setLcV (i := 3) sc_judge_wish.nd (di_any rfl (de_fz (dr_ix (ix_A (ru1 hr)) ok_ix (do_v 2) (do_e de_int)))) (blkOk_by (own := [("member", 7)]) (N := N_judge_wish) (sc := defScope s_judge_wish) (by decide +kernel)) (fun _ _ _ _ _ => (dn_name (i := 7) sc_judge_wish.nd)) (fun _ _ _ _ _ => dts_nil) (fun _ _ _ _ _ => (de_if (dt_cmp2 (op_eqA (ru64 hr)) ok_eq (do_e (de_fz (dr_ix (ix_A (ru1 hr)) ok_ix (do_v 2) (do_e de_int)))) (do_e de_str)) (de_fz (dr_ix (ix_A (ru1 hr)) ok_ix (do_v 7) (do_e de_int))) (de_var 7))) (sw_true rfl rfl rfl (by decide +kernel)))
      (dss_cons (ds_for (passes_of rfl) (di_enum rfl (da_cons (de_var 3) da_nil) T.z_enumerate) (dg_tup rfl rfl (dgs_cons (dg_name (i := 4) sc_judge_wish.nd) (dgs_cons (dg_name (i := 5) sc_judge_wish.nd) dgs_nil))) (dss_one (ds_if (dw_or (dt_not (dt_val (de_fz (dr_meth (c := (liftC (c_Standing_has_name T.CS))) (de_var 0) T.cl_Standing T.m_Standing_has_name (G_Standing_has_name.imp fun _ _ _ _ h => spP_of h) (hr.mono (by decide)) T.b_Standing_has_name (takes_of rfl rfl rfl rfl) (da_cons (de_var 5) da_nil))))) (dw_or1 (dt_cmp2 (op_inA (ru65 hr)) ok_in (do_v 5) (do_e (de_fz (dr_sl rfl (do_v 3) dp_none (dp_some (de_var 4)))))))).pt (dss_one (ds_ret (dr_sh (de_tup (da_cons de_str (da_cons (de_var 4) da_nil)))))) dss_nil)))
      (dss_cons (ds_set (i := 6) sc_judge_wish.nd (dr_sh (de_fz (dr_callP G_wished (hr.mono (by decide)) T.g_wished T.F_wished.kp T.b_wished (takes_of rfl rfl rfl rfl) (da_cons (de_var 0) (da_cons (de_var 2) da_nil))))))
      (dss_cons (ds_if (dt_cmp2 (op_eqA (ru64 hr)) ok_eq (do_e (de_fz (dr_op2 op_mod ok_mod (do_e (de_fz (dr_meth0 (c := (liftC (c_Standing_voices T.CS))) (de_var 6) T.cl_Standing T.m_Standing_voices (G_Standing_voices.imp fun _ _ _ _ h => spP_of h) (hr.mono (by decide)) T.b_Standing_voices (takes_of rfl rfl rfl rfl)))) (do_e de_int)))) (do_e de_int)) (dss_one (ds_ret (dr_sh (de_tup (da_cons de_str da_nil))))) dss_nil)
      (dss_one (ds_ret (dr_if (dt_cmp2 (op_eqA (ru64 hr)) ok_eq (do_e (de_fz (dr_callP G_turn_sum (hr.mono (by decide)) T.g_turn_sum T.F_turn_sum.kp T.b_turn_sum (takes_of rfl rfl rfl rfl) (da_cons (de_var 6) da_nil)))) (do_v 1)) (dr_sh de_non) (dr_sh (de_tup (da_cons de_str (da_cons (de_fz (dr_callP G_turn_sum (hr.mono (by decide)) T.g_turn_sum T.F_turn_sum.kp T.b_turn_sum (takes_of rfl rfl rfl rfl) (da_cons (de_var 6) da_nil))) da_nil))))))))))))) (h_judge_wish T.CS)
theorem ok_law (T : Txt K mg) {A : Around} (hgd : A.guards = some []) (room : Room 10 A) (G__law_source : FnOk P w K mg base (L2.CX P w) 1 T.a__law_source T.d__law_source ["_law_script"] (spD K srcW (c__law_source T.CS))) (G__law_pick : FnOk P w K mg base (L2.CX P w) 1 T.a__law_pick T.d__law_pick ["_law_source_here", "_law_many"] (spD K srcW (c__law_pick T.CS))) (G__law_made : FnOk P w K mg base (L2.CX P w) 6 T.a__law_made T.d__law_made ["_law_people"] (spP K (c__law_made T.CS))) (G__law_of : FnOk P w K mg base (L2.CX P w) 2 T.a__law_of T.d__law_of ["_law_source_here", "_law_some"] (spD K srcW (c__law_of T.CS))) (G__law_world : FnOk P w K mg base (L2.CX P w) 7 T.a__law_world T.d__law_world ["_law_source_here", "_law_most", "_law_far", "_law_parity"] (spD K srcW (c__law_world T.CS))) (G__law_at : FnOk P w K mg base (L2.CX P w) 7 T.a__law_at T.d__law_at ["_law_world_here", "_law_spots_here"] (spP K (c__law_at T.CS))) (G__law_spots : FnOk P w K mg base (L2.CX P w) 1 T.a__law_spots T.d__law_spots ["_law_world_here"] (spP K (c__law_spots T.CS))) (G__law_crowded : FnOk P w K mg base (L2.CX P w) 8 T.a__law_crowded T.d__law_crowded ["_law_source_here", "_law_most", "_law_far", "_law_parity"] (spD K srcW (c__law_crowded T.CS))) (G__law_by_turns : FnOk P w K mg base (L2.CX P w) 1 T.a__law_by_turns T.d__law_by_turns ["_law_world_here", "_law_spots_here"] (spP K (c__law_by_turns T.CS))) (G_wished_steps : FnOk P w K mg base (L2.CX P w) 9 T.a_wished_steps T.d_wished_steps ["standing", "place"] (spP K (c_wished_steps T.CS))) (G_meeting_place : FnOk P w K mg base (L2.CX P w) 4 T.a_meeting_place T.d_meeting_place ["standing"] (spP K (c_meeting_place T.CS))) (G__law_stepped : FnOk P w K mg base (L2.CX P w) 1 T.a__law_stepped T.d__law_stepped ["_law_world_here", "_law_rows"] (spP K (c__law_stepped T.CS))) (G__law_verdict : FnOk P w K mg base (L2.CX P w) 8 T.a__law_verdict T.d__law_verdict ["_law_world_here", "_law_place", "_law_value"] (spP K (c__law_verdict T.CS))) (G_judge_wish : FnOk P w K mg base (L2.CX P w) 9 T.a_judge_wish T.d_judge_wish ["standing", "place", "value"] (spP K (c_judge_wish T.CS))) : RunAt P w K mg base A T.a_law T.d_law ["_law_script"] (spD K srcW (c_law T.CS)) :=
  okAt (M := srcW) (wb := w_law_v3 T.CS) T.F_law sc_law room (fun cdv outer s H F t E hr =>
    (dss_cons (ds_set (i := 1) sc_law.nd (dr_call G__law_source (hr.mono (by decide)) T.g__law_source T.F__law_source.kp T.b__law_source (takes_of rfl rfl rfl rfl) (da_cons (de_var 0) da_nil)))
      (dss_cons (ds_for (passes_of rfl) (di_range1 (da_cons de_int da_nil) T.z_range) (dg_name (i := 2) sc_law.nd) (dss_cons (ds_set (i := 3) sc_law.nd (dr_call G__law_crowded (hr.mono (by decide)) T.g__law_crowded T.F__law_crowded.kp T.b__law_crowded (takes_of rfl rfl rfl rfl) (da_cons (de_var 1) (da_cons (de_fz (dr_ix (ix_A (ru1 hr)) ok_ix (do_e (de_fz (dr_lst (da_cons de_int (da_cons de_int (da_cons de_int (da_cons de_int (da_cons de_int da_nil)))))))) (do_v 2))) (da_cons de_int (da_cons de_int da_nil))))))
      (dss_cons (ds_par (i := 4) (j := 5) rfl sc_law.nd (db_cons (dr_callP G__law_spots (hr.mono (by decide)) T.g__law_spots T.F__law_spots.kp T.b__law_spots (takes_of rfl rfl rfl rfl) (da_cons (de_var 3) da_nil)) (db_cons (dr_ix (ix_A (ru1 hr)) ok_ix (do_v 3) (do_e de_str)) db_nil)))
      (dss_cons (ds_set (i := 6) sc_law.nd (dr_callP G__law_by_turns (hr.mono (by decide)) T.g__law_by_turns T.F__law_by_turns.kp T.b__law_by_turns (takes_of rfl rfl rfl rfl) (da_cons (de_var 3) (da_cons (de_var 4) da_nil))))
      (dss_cons (ds_if (dt_cmp2 (op_neA (ru64 hr)) ok_ne (do_e (de_fz (dr_bi call_reprA ok_repr T.z_repr (dos_cons (do_e (de_fz (dr_callP G_meeting_place (hr.mono (by decide)) T.g_meeting_place T.F_meeting_place.kp T.b_meeting_place (takes_of rfl rfl rfl rfl) (da_cons (de_var 5) da_nil)))) dos_nil)))) (do_e (de_fz (dr_bi call_reprA ok_repr T.z_repr (dos_cons (do_v 6) dos_nil))))) (dss_one (ds_ret (dr_sh de_bl))) dss_nil)
      (dss_cons (ds_for (passes_of rfl) (di_any rfl (de_fz (dr_lst (da_cons (de_var 6) (da_cons (de_fz (dr_op2 op_sub ok_sub (do_e (de_fz (dr_op2 op_addA ok_add (do_v 6) (do_e (de_fz (dr_call G__law_pick (hr.mono (by decide)) T.g__law_pick T.F__law_pick.kp T.b__law_pick (takes_of rfl rfl rfl rfl) (da_cons (de_var 1) (da_cons de_int da_nil)))))))) (do_e de_int))) (da_cons (de_fz (dr_call G__law_of (hr.mono (by decide)) T.g__law_of T.F__law_of.kp T.b__law_of (takes_of rfl rfl rfl rfl) (da_cons (de_var 1) (da_cons (de_fz (dr_lst (da_cons (de_fz (dr_op2 op_pow ok_pow (do_e de_int) (do_e de_int))) (da_cons (de_fz (dr_un1 un_neg ok_neg (do_e (de_fz (dr_op2 op_pow ok_pow (do_e de_int) (do_e de_int)))))) (da_cons de_int da_nil))))) da_nil)))) da_nil)))))) (dg_name (i := 7) sc_law.nd) (dss_cons (ds_set (i := 8) sc_law.nd (dr_callP G_wished_steps (hr.mono (by decide)) T.g_wished_steps T.F_wished_steps.kp T.b_wished_steps (takes_of rfl rfl rfl rfl) (da_cons (de_var 5) (da_cons (de_var 7) da_nil))))
      (dss_cons (ds_if (dw_or (dt_cmp2 op_notN ok_isN (do_e (de_fz (dr_callP G__law_verdict (hr.mono (by decide)) T.g__law_verdict T.F__law_verdict.kp T.b__law_verdict (takes_of rfl rfl rfl rfl) (da_cons (de_var 3) (da_cons (de_var 7) (da_cons (de_var 8) da_nil)))))) (do_e de_non)) (dw_or1 (dt_cmp2 (op_neA (ru64 hr)) ok_ne (do_e (de_fz (dr_bi call_reprA ok_repr T.z_repr (dos_cons (do_e (de_fz (dr_ix (ix_A (ru1 hr)) ok_ix (do_v 8) (do_e de_int)))) dos_nil)))) (do_e (de_fz (dr_bi call_reprA ok_repr T.z_repr (dos_cons (do_e de_str) dos_nil))))))).pt (dss_one (ds_ret (dr_sh de_bl))) dss_nil)
      (dss_cons (ds_if (dw_or (dt_cmp2 (op_neA (ru64 hr)) ok_ne (do_e (de_fz (dr_bi (cr_sum rfl) ok_sum T.z_sum (dos_cons (do_e (de_fz (dr_lcV sc_law.nd (di_any rfl (de_fz (dr_ix (ix_A (ru1 hr)) ok_ix (do_v 8) (do_e de_int)))) (blkOk_by (own := [("_law_name", 9), ("_law_by", 12)]) (N := N_law_v3) (sc := defScope s_law) (by decide +kernel)) (fun _ _ _ _ _ => (dn_tup rfl rfl (dns_cons (dn_name (i := 9) sc_law.nd) (dns_cons (dn_name (i := 12) sc_law.nd) dns_nil)))) (fun _ _ _ _ _ => dts_nil) (fun _ _ _ _ _ => (de_fz (dr_bi call_abs ok_abs T.z_abs (dos_cons (do_v 12) dos_nil))))))) dos_nil)))) (do_e (de_fz (dr_bi call_abs ok_abs T.z_abs (dos_cons (do_e (de_fz (dr_op2 op_sub ok_sub (do_v 7) (do_v 6)))) dos_nil))))) (dw_or1 (dt_cmp2 op_notN ok_isN (do_e (de_fz (dr_callP G_judge_wish (hr.mono (by decide)) T.g_judge_wish T.F_judge_wish.kp T.b_judge_wish (takes_of rfl rfl rfl rfl) (da_cons (de_var 5) (da_cons (de_var 7) (da_cons (de_var 8) da_nil)))))) (do_e de_non)))).pt (dss_one (ds_ret (dr_sh de_bl))) dss_nil)
      (dss_one (ds_if (dw_and (dt_cmp2 (op_eqA (ru64 hr)) ok_eq (do_v 7) (do_v 6)) (dw_and1 (dt_cmp2 (op_neA (ru64 hr)) ok_ne (do_v 8) (do_e (de_tup (da_cons de_str (da_cons (de_tup da_nil) da_nil))))))).pt (dss_one (ds_ret (dr_sh de_bl))) dss_nil))))))
      (dss_cons (ds_for (passes_of rfl) (di_any rfl (de_fz (dr_ix (ix_A (ru1 hr)) ok_ix (do_v 3) (do_e de_str)))) (dg_tup rfl rfl (dgs_cons (dg_name (i := 9) sc_law.nd) (dgs_cons (dg_name (i := 10) sc_law.nd) (dgs_cons (dg_name (i := 11) sc_law.nd) dgs_nil)))) (dss_one (ds_for (passes_of rfl) (di_any rfl (de_fz (dr_lst (da_cons (de_fz (dr_un1 un_neg ok_neg (do_e de_int))) (da_cons (de_fz (dr_un1 un_neg ok_neg (do_e de_int))) (da_cons de_int (da_cons de_int da_nil))))))) (dg_name (i := 12) sc_law.nd) (dss_cons (ds_set (i := 13) sc_law.nd (dr_callP G__law_at (hr.mono (by decide)) T.g__law_at T.F__law_at.kp T.b__law_at (takes_of rfl rfl rfl rfl) (da_cons (de_var 3) (da_cons (de_fz (dr_callP G__law_stepped (hr.mono (by decide)) T.g__law_stepped T.F__law_stepped.kp T.b__law_stepped (takes_of rfl rfl rfl rfl) (da_cons (de_var 3) (da_cons (de_fz (dr_lst (da_cons (de_tup (da_cons (de_var 9) (da_cons (de_var 12) da_nil))) da_nil))) da_nil)))) da_nil))))
      (dss_cons (ds_set (i := 14) sc_law.nd (dr_op2 op_sub ok_sub (do_e (de_fz (dr_callP G__law_by_turns (hr.mono (by decide)) T.g__law_by_turns T.F__law_by_turns.kp T.b__law_by_turns (takes_of rfl rfl rfl rfl) (da_cons (de_var 13) (da_cons (de_fz (dr_callP G__law_spots (hr.mono (by decide)) T.g__law_spots T.F__law_spots.kp T.b__law_spots (takes_of rfl rfl rfl rfl) (da_cons (de_var 13) da_nil))) da_nil))))) (do_v 6)))
      (dss_one (ds_if (dw_or (dt_cmp2 op_gt ok_gt (do_e (de_fz (dr_bi call_abs ok_abs T.z_abs (dos_cons (do_v 14) dos_nil)))) (do_e (de_fz (dr_op2 op_mulA ok_mul (do_e (de_fz (dr_bi call_abs ok_abs T.z_abs (dos_cons (do_v 12) dos_nil)))) (do_v 11))))) (dw_or1 (dt_cmp2 (op_neA (ru64 hr)) ok_ne (do_e (de_fz (dr_op2 op_mod ok_mod (do_e (de_fz (dr_ty call_intA ok_int T.z_int (dos_cons (do_e (de_fz (dr_op2 op_sub ok_sub (do_v 14) (do_e (de_fz (dr_op2 op_mulA ok_mul (do_v 12) (do_v 11))))))) dos_nil)))) (do_e de_int)))) (do_e de_int)))).pt (dss_one (ds_ret (dr_sh de_bl))) dss_nil)))))))
      (dss_one (ds_for (passes_of rfl) (di_any rfl (de_fz (dr_lst (da_cons (de_fz (dr_call G__law_world (hr.mono (by decide)) T.g__law_world T.F__law_world.kp T.b__law_world (takes_of rfl rfl rfl rfl) (da_cons (de_var 1) (da_cons de_int (da_cons de_int (da_cons de_int da_nil)))))) (da_cons (de_fz (dr_callP G__law_made (hr.mono (by decide)) T.g__law_made T.F__law_made.kp T.b__law_made (takes_of rfl rfl rfl rfl) (da_cons (de_fz (dr_lst da_nil)) da_nil))) da_nil))))) (dg_name (i := 15) sc_law.nd) (dss_cons (ds_set (i := 16) sc_law.nd (dr_sh de_bl))
      (dss_cons (ds_try [(.ref T.CS.EvenVoices, true)] rfl rfl ⟨rfl, by decide, .inl T.e_EvenVoices.gl⟩ (takes_of rfl rfl rfl rfl) (fun p hp => by simp only [List.mem_cons, List.not_mem_nil, or_false] at hp; obtain rfl := hp; exact T.em_EvenVoices_EvenVoices) (fun F0 W pn xe tk1 hp1 => (dss_one (ds_expr (dr_callP G_wished_steps (hr.mono (by decide)) T.g_wished_steps T.F_wished_steps.kp T.b_wished_steps tk1 (da_cons (de_fz (dr_ix (ix_A (ru1 hr)) ok_ix (do_v 15) (do_e de_str))) (da_cons (de_var 6) da_nil)))))) (fun F0 a oe pn => (dss_one (ds_set (i := 16) sc_law.nd (dr_sh de_bl)))))
      (dss_one (ds_if (dt_not (dt_val (de_var 16))) (dss_one (ds_ret (dr_sh de_bl))) dss_nil)))))))))))))
      (dss_one (ds_ret (dr_sh de_bl)))))) (h_law_v3 T.CS)
end VL

set_option Elab.async false
set_option linter.all false
set_option maxRecDepth 100000
set_option maxHeartbeats 4000000
namespace VL
open PySem PySem.Spec PyProof.Rows L2
local macro_rules
  | `(tactic| walk_at "vs") => `(tactic| try simp only [wSeq, wNx, wNever, wSet, wDrop, wRet, wRetV, wRetN, wIf, wAsg, wPar, wPar3, wBnil, wBcons, wGname, wGtup, wGcons, wGnil, wFor, wFz, wSh, wVar, wC, wOe, wOv, wOnil, wOcons, wXL, wX2, wX2T, wX1, wTst, wAnd, wOr, wNot, wAndV, wOrV, wUn, dNot, wIfE, wIfD, wNil, wCons, wTup, wTupF, wRaise, wTry, wLst,
  wItK, wItF, wLc, wDc, wipeE, wYes, wCall, wCallB2, wThawL, wMeth, wMake, wFldO, wGet1, wGet2, wVals, wM, wMO, wSub, wDnK, wDnT, wStar, wDspK, wDspT, wSl, wSl3, wPnone, wPsome, wSetS, wSrtM, wSrc, wSrcLen, wSrcPop, wSrcSet, wSrcNew, liftC, liftCI, wPs, gAdd, gSub, gLt, gLe, gGt, gGe, gNeg, gRng, gLen, gInt, gList, gTuple, gIs, gIsN, isNon, anyD,
  startE, List.map_cons, List.map_nil, List.length_cons, List.length_nil, Nat.reduceAdd, Nat.reduceSub, List.replicate_succ, List.replicate_zero, List.cons_append, List.nil_append, List.getElem?_cons_zero, List.getElem?_cons_succ, List.getElem?_nil, List.set_cons_zero, List.set_cons_succ, List.set_nil,
  rs, rss, slD, R.d, R.sl, oL, ob, oD, owD, isLO, tR, Option.bind_some, Option.isSome_some, true_and, and_true, if_true, if_false, Bool.false_eq_true, Bool.not_true, Bool.not_false, ite_true, ite_false, reduceIte, reduceCtorEq])
theorem law_any {K : PySem.W.Frag} {C C' : CS} : spD K srcW (c_law C) = spD K srcW (c_law C') := rfl
abbrev C0 : CS := ⟨0, 0, 0, 0, 0, 0, 0, 0, 0, 0, 0, 0, 0, 0, 0, 0, 0, 0, 0, 0, 0, 0, 0⟩
theorem all_mk {l : PySem.W.OpenLaw} {w : World} {K : PySem.W.Frag} {h : Heap} {mg : Str → Option Value} {fa C_Standing f__law_source f__law_pick f__law_names f_is_row f_is_integer f_is_word f_wrong_person f_wrong_people f_Standing_init f__law_made f__law_mixed f__law_of f__law_world f__law_at f__law_spots f__law_crowded f__law_by_turns f_Standing_has_name f_Standing_person f_Standing_place f_Standing_names f_Standing_line f_Standing_voice f_with_voice f_Standing_people f_voice_places f_turn_sum f_Standing_voices f_wished_steps f_need_odd f_meeting_place f__law_turned_voices f__law_stepped f__law_voices f__law_is_whole f__law_verdict f_exchanged f_moved_person f_voiced f_wished f_is_row_wishes f_has_form f_judge_wish f_law C_EvenVoices : Addr} (X : K.In h) (G : h.Ns mainGlobals mg) (hfa : mg "law" = some (.ref fa))
    {od__law_source an__law_source od__law_pick an__law_pick od__law_names an__law_names od_is_row an_is_row od_is_integer an_is_integer od_is_word an_is_word od_wrong_person an_wrong_person od_wrong_people an_wrong_people od_Standing_init an_Standing_init od__law_made an__law_made od__law_mixed an__law_mixed od__law_of an__law_of od__law_world an__law_world od__law_at an__law_at od__law_spots an__law_spots od__law_crowded an__law_crowded od__law_by_turns an__law_by_turns od_Standing_has_name an_Standing_has_name od_Standing_person an_Standing_person od_Standing_place an_Standing_place od_Standing_names an_Standing_names od_Standing_line an_Standing_line od_Standing_voice an_Standing_voice od_with_voice an_with_voice od_Standing_people an_Standing_people od_voice_places an_voice_places od_turn_sum an_turn_sum od_Standing_voices an_Standing_voices od_wished_steps an_wished_steps od_need_odd an_need_odd od_meeting_place an_meeting_place od__law_turned_voices an__law_turned_voices od__law_stepped an__law_stepped od__law_voices an__law_voices od__law_is_whole an__law_is_whole od__law_verdict an__law_verdict od_exchanged an_exchanged od_moved_person an_moved_person od_voiced an_voiced od_wished an_wished od_is_row_wishes an_is_row_wishes od_has_form an_has_form od_judge_wish an_judge_wish od_law an_law : Option Addr} {sl__law_source sl__law_pick sl__law_names sl_is_row sl_is_integer sl_is_word sl_wrong_person sl_wrong_people sl_Standing_init sl__law_made sl__law_mixed sl__law_of sl__law_world sl__law_at sl__law_spots sl__law_crowded sl__law_by_turns sl_Standing_has_name sl_Standing_person sl_Standing_place sl_Standing_names sl_Standing_line sl_Standing_voice sl_with_voice sl_Standing_people sl_voice_places sl_turn_sum sl_Standing_voices sl_wished_steps sl_need_odd sl_meeting_place sl__law_turned_voices sl__law_stepped sl__law_voices sl__law_is_whole sl__law_verdict sl_exchanged sl_moved_person sl_voiced sl_wished sl_is_row_wishes sl_has_form sl_judge_wish sl_law : Array (Option Value)} {oc__law_source kV__law_source dc__law_source pm__law_source cd__law_source ct__law_source oc__law_pick kV__law_pick dc__law_pick pm__law_pick cd__law_pick ct__law_pick oc__law_names kV__law_names dc__law_names pm__law_names cd__law_names ct__law_names oc_is_row kV_is_row dc_is_row pm_is_row cd_is_row ct_is_row oc_is_integer kV_is_integer dc_is_integer pm_is_integer cd_is_integer ct_is_integer oc_is_word kV_is_word dc_is_word pm_is_word cd_is_word ct_is_word oc_wrong_person kV_wrong_person dc_wrong_person pm_wrong_person cd_wrong_person ct_wrong_person oc_wrong_people kV_wrong_people dc_wrong_people pm_wrong_people cd_wrong_people ct_wrong_people oc_Standing_init kV_Standing_init dc_Standing_init pm_Standing_init cd_Standing_init ct_Standing_init oc__law_made kV__law_made dc__law_made pm__law_made cd__law_made ct__law_made oc__law_mixed kV__law_mixed dc__law_mixed pm__law_mixed cd__law_mixed ct__law_mixed oc__law_of kV__law_of dc__law_of pm__law_of cd__law_of ct__law_of oc__law_world kV__law_world dc__law_world pm__law_world cd__law_world ct__law_world oc__law_at kV__law_at dc__law_at pm__law_at cd__law_at ct__law_at oc__law_spots kV__law_spots dc__law_spots pm__law_spots cd__law_spots ct__law_spots oc__law_crowded kV__law_crowded dc__law_crowded pm__law_crowded cd__law_crowded ct__law_crowded oc__law_by_turns kV__law_by_turns dc__law_by_turns pm__law_by_turns cd__law_by_turns ct__law_by_turns oc_Standing_has_name kV_Standing_has_name dc_Standing_has_name pm_Standing_has_name cd_Standing_has_name ct_Standing_has_name oc_Standing_person kV_Standing_person dc_Standing_person pm_Standing_person cd_Standing_person ct_Standing_person oc_Standing_place kV_Standing_place dc_Standing_place pm_Standing_place cd_Standing_place ct_Standing_place oc_Standing_names kV_Standing_names dc_Standing_names pm_Standing_names cd_Standing_names ct_Standing_names oc_Standing_line kV_Standing_line dc_Standing_line pm_Standing_line cd_Standing_line ct_Standing_line oc_Standing_voice kV_Standing_voice dc_Standing_voice pm_Standing_voice cd_Standing_voice ct_Standing_voice oc_with_voice kV_with_voice dc_with_voice pm_with_voice cd_with_voice ct_with_voice oc_Standing_people kV_Standing_people dc_Standing_people pm_Standing_people cd_Standing_people ct_Standing_people oc_voice_places kV_voice_places dc_voice_places pm_voice_places cd_voice_places ct_voice_places oc_turn_sum kV_turn_sum dc_turn_sum pm_turn_sum cd_turn_sum ct_turn_sum oc_Standing_voices kV_Standing_voices dc_Standing_voices pm_Standing_voices cd_Standing_voices ct_Standing_voices oc_wished_steps kV_wished_steps dc_wished_steps pm_wished_steps cd_wished_steps ct_wished_steps oc_need_odd kV_need_odd dc_need_odd pm_need_odd cd_need_odd ct_need_odd oc_meeting_place kV_meeting_place dc_meeting_place pm_meeting_place cd_meeting_place ct_meeting_place oc__law_turned_voices kV__law_turned_voices dc__law_turned_voices pm__law_turned_voices cd__law_turned_voices ct__law_turned_voices oc__law_stepped kV__law_stepped dc__law_stepped pm__law_stepped cd__law_stepped ct__law_stepped oc__law_voices kV__law_voices dc__law_voices pm__law_voices cd__law_voices ct__law_voices oc__law_is_whole kV__law_is_whole dc__law_is_whole pm__law_is_whole cd__law_is_whole ct__law_is_whole oc__law_verdict kV__law_verdict dc__law_verdict pm__law_verdict cd__law_verdict ct__law_verdict oc_exchanged kV_exchanged dc_exchanged pm_exchanged cd_exchanged ct_exchanged oc_moved_person kV_moved_person dc_moved_person pm_moved_person cd_moved_person ct_moved_person oc_voiced kV_voiced dc_voiced pm_voiced cd_voiced ct_voiced oc_wished kV_wished dc_wished pm_wished cd_wished ct_wished oc_is_row_wishes kV_is_row_wishes dc_is_row_wishes pm_is_row_wishes cd_is_row_wishes ct_is_row_wishes oc_has_form kV_has_form dc_has_form pm_has_form cd_has_form ct_has_form oc_judge_wish kV_judge_wish dc_judge_wish pm_judge_wish cd_judge_wish ct_judge_wish oc_law kV_law dc_law pm_law cd_law ct_law : Value} {tk_LETTERS tk_FIGURES : Nat}
    (aC_Standing : PySem.W.nsIn K mainGlobals "Standing" = some (some (.ref C_Standing)))
    (pg_Standing : PySem.W.plainGet K C_Standing Str.empty = true)
    (hd_Standing : PySem.W.hasDictIn K C_Standing = true)
    (po_Standing : PySem.W.plainOver K C_Standing = true)
    (sa_Standing : PySem.W.findIn K (.ref C_Standing) "__setattr__" = some (some (.builtin "object.__setattr__")))
    (ha__law_source : PySem.W.nsIn K mainGlobals "_law_source" = some (some (.ref f__law_source)))
    (hl__law_source : K.lookup f__law_source = some ⟨oc__law_source, od__law_source, .func (PySem.W.fnOf "_law_source" "_law_source" (defArgs s__law_source) (defBody s__law_source) (defScope s__law_source) .none kV__law_source dc__law_source pm__law_source an__law_source cd__law_source ct__law_source), sl__law_source⟩)
    (hc__law_source : PySem.W.codeIn K cd__law_source "_law_source" = true)
    (hk__law_source : PySem.W.keepIn K (.ref f__law_source) = true)
    (ha__law_pick : PySem.W.nsIn K mainGlobals "_law_pick" = some (some (.ref f__law_pick)))
    (hl__law_pick : K.lookup f__law_pick = some ⟨oc__law_pick, od__law_pick, .func (PySem.W.fnOf "_law_pick" "_law_pick" (defArgs s__law_pick) (defBody s__law_pick) (defScope s__law_pick) .none kV__law_pick dc__law_pick pm__law_pick an__law_pick cd__law_pick ct__law_pick), sl__law_pick⟩)
    (hc__law_pick : PySem.W.codeIn K cd__law_pick "_law_pick" = true)
    (hk__law_pick : PySem.W.keepIn K (.ref f__law_pick) = true)
    (ha__law_names : PySem.W.nsIn K mainGlobals "_law_names" = some (some (.ref f__law_names)))
    (hl__law_names : K.lookup f__law_names = some ⟨oc__law_names, od__law_names, .func (PySem.W.fnOf "_law_names" "_law_names" (defArgs s__law_names) (defBody s__law_names) (defScope s__law_names) .none kV__law_names dc__law_names pm__law_names an__law_names cd__law_names ct__law_names), sl__law_names⟩)
    (hc__law_names : PySem.W.codeIn K cd__law_names "_law_names" = true)
    (hk__law_names : PySem.W.keepIn K (.ref f__law_names) = true)
    (ha_is_row : PySem.W.nsIn K mainGlobals "is_row_words" = some (some (.ref f_is_row)))
    (hl_is_row : K.lookup f_is_row = some ⟨oc_is_row, od_is_row, .func (PySem.W.fnOf "is_row" "is_row" (defArgs s_is_row) (defBody s_is_row) (defScope s_is_row) .none kV_is_row dc_is_row pm_is_row an_is_row cd_is_row ct_is_row), sl_is_row⟩)
    (hc_is_row : PySem.W.codeIn K cd_is_row "is_row" = true)
    (hk_is_row : PySem.W.keepIn K (.ref f_is_row) = true)
    (ha_is_integer : PySem.W.nsIn K mainGlobals "is_integer" = some (some (.ref f_is_integer)))
    (hl_is_integer : K.lookup f_is_integer = some ⟨oc_is_integer, od_is_integer, .func (PySem.W.fnOf "is_integer" "is_integer" (defArgs s_is_integer) (defBody s_is_integer) (defScope s_is_integer) .none kV_is_integer dc_is_integer pm_is_integer an_is_integer cd_is_integer ct_is_integer), sl_is_integer⟩)
    (hc_is_integer : PySem.W.codeIn K cd_is_integer "is_integer" = true)
    (hk_is_integer : PySem.W.keepIn K (.ref f_is_integer) = true)
    (ha_is_word : PySem.W.nsIn K mainGlobals "is_word" = some (some (.ref f_is_word)))
    (hl_is_word : K.lookup f_is_word = some ⟨oc_is_word, od_is_word, .func (PySem.W.fnOf "is_word" "is_word" (defArgs s_is_word) (defBody s_is_word) (defScope s_is_word) .none kV_is_word dc_is_word pm_is_word an_is_word cd_is_word ct_is_word), sl_is_word⟩)
    (hc_is_word : PySem.W.codeIn K cd_is_word "is_word" = true)
    (hk_is_word : PySem.W.keepIn K (.ref f_is_word) = true)
    (ha_wrong_person : PySem.W.nsIn K mainGlobals "wrong_person" = some (some (.ref f_wrong_person)))
    (hl_wrong_person : K.lookup f_wrong_person = some ⟨oc_wrong_person, od_wrong_person, .func (PySem.W.fnOf "wrong_person" "wrong_person" (defArgs s_wrong_person) (defBody s_wrong_person) (defScope s_wrong_person) .none kV_wrong_person dc_wrong_person pm_wrong_person an_wrong_person cd_wrong_person ct_wrong_person), sl_wrong_person⟩)
    (hc_wrong_person : PySem.W.codeIn K cd_wrong_person "wrong_person" = true)
    (hk_wrong_person : PySem.W.keepIn K (.ref f_wrong_person) = true)
    (ha_wrong_people : PySem.W.nsIn K mainGlobals "wrong_people" = some (some (.ref f_wrong_people)))
    (hl_wrong_people : K.lookup f_wrong_people = some ⟨oc_wrong_people, od_wrong_people, .func (PySem.W.fnOf "wrong_people" "wrong_people" (defArgs s_wrong_people) (defBody s_wrong_people) (defScope s_wrong_people) .none kV_wrong_people dc_wrong_people pm_wrong_people an_wrong_people cd_wrong_people ct_wrong_people), sl_wrong_people⟩)
    (hc_wrong_people : PySem.W.codeIn K cd_wrong_people "wrong_people" = true)
    (hk_wrong_people : PySem.W.keepIn K (.ref f_wrong_people) = true)
    (ha_Standing_init : PySem.W.findIn K (.ref C_Standing) "__init__" = some (some (.ref f_Standing_init)))
    (hi_Standing_init : PySem.W.isFn K (.ref f_Standing_init) = true)
    (hl_Standing_init : K.lookup f_Standing_init = some ⟨oc_Standing_init, od_Standing_init, .func (PySem.W.fnOf "__init__" "Standing.__init__" (defArgs s_Standing_init) (defBody s_Standing_init) (defScope s_Standing_init) .none kV_Standing_init dc_Standing_init pm_Standing_init an_Standing_init cd_Standing_init ct_Standing_init), sl_Standing_init⟩)
    (hc_Standing_init : PySem.W.codeIn K cd_Standing_init "Standing.__init__" = true)
    (hk_Standing_init : PySem.W.keepIn K (.ref f_Standing_init) = true)
    (mk_Standing : PySem.W.makesIn K C_Standing = true)
    (kc_Standing : PySem.W.keepIn K (.ref C_Standing) = true)
    (ha__law_made : PySem.W.nsIn K mainGlobals "_law_made" = some (some (.ref f__law_made)))
    (hl__law_made : K.lookup f__law_made = some ⟨oc__law_made, od__law_made, .func (PySem.W.fnOf "_law_made" "_law_made" (defArgs s__law_made) (defBody s__law_made) (defScope s__law_made) .none kV__law_made dc__law_made pm__law_made an__law_made cd__law_made ct__law_made), sl__law_made⟩)
    (hc__law_made : PySem.W.codeIn K cd__law_made "_law_made" = true)
    (hk__law_made : PySem.W.keepIn K (.ref f__law_made) = true)
    (ha__law_mixed : PySem.W.nsIn K mainGlobals "_law_mixed" = some (some (.ref f__law_mixed)))
    (hl__law_mixed : K.lookup f__law_mixed = some ⟨oc__law_mixed, od__law_mixed, .func (PySem.W.fnOf "_law_mixed" "_law_mixed" (defArgs s__law_mixed) (defBody s__law_mixed) (defScope s__law_mixed) .none kV__law_mixed dc__law_mixed pm__law_mixed an__law_mixed cd__law_mixed ct__law_mixed), sl__law_mixed⟩)
    (hc__law_mixed : PySem.W.codeIn K cd__law_mixed "_law_mixed" = true)
    (hk__law_mixed : PySem.W.keepIn K (.ref f__law_mixed) = true)
    (ha__law_of : PySem.W.nsIn K mainGlobals "_law_of" = some (some (.ref f__law_of)))
    (hl__law_of : K.lookup f__law_of = some ⟨oc__law_of, od__law_of, .func (PySem.W.fnOf "_law_of" "_law_of" (defArgs s__law_of) (defBody s__law_of) (defScope s__law_of) .none kV__law_of dc__law_of pm__law_of an__law_of cd__law_of ct__law_of), sl__law_of⟩)
    (hc__law_of : PySem.W.codeIn K cd__law_of "_law_of" = true)
    (hk__law_of : PySem.W.keepIn K (.ref f__law_of) = true)
    (ha__law_world : PySem.W.nsIn K mainGlobals "_law_world" = some (some (.ref f__law_world)))
    (hl__law_world : K.lookup f__law_world = some ⟨oc__law_world, od__law_world, .func (PySem.W.fnOf "_law_world" "_law_world" (defArgs s__law_world) (defBody s__law_world) (defScope s__law_world) .none kV__law_world dc__law_world pm__law_world an__law_world cd__law_world ct__law_world), sl__law_world⟩)
    (hc__law_world : PySem.W.codeIn K cd__law_world "_law_world" = true)
    (hk__law_world : PySem.W.keepIn K (.ref f__law_world) = true)
    (ha__law_at : PySem.W.nsIn K mainGlobals "_law_at" = some (some (.ref f__law_at)))
    (hl__law_at : K.lookup f__law_at = some ⟨oc__law_at, od__law_at, .func (PySem.W.fnOf "_law_at" "_law_at" (defArgs s__law_at) (defBody s__law_at) (defScope s__law_at) .none kV__law_at dc__law_at pm__law_at an__law_at cd__law_at ct__law_at), sl__law_at⟩)
    (hc__law_at : PySem.W.codeIn K cd__law_at "_law_at" = true)
    (hk__law_at : PySem.W.keepIn K (.ref f__law_at) = true)
    (ha__law_spots : PySem.W.nsIn K mainGlobals "_law_spots" = some (some (.ref f__law_spots)))
    (hl__law_spots : K.lookup f__law_spots = some ⟨oc__law_spots, od__law_spots, .func (PySem.W.fnOf "_law_spots" "_law_spots" (defArgs s__law_spots) (defBody s__law_spots) (defScope s__law_spots) .none kV__law_spots dc__law_spots pm__law_spots an__law_spots cd__law_spots ct__law_spots), sl__law_spots⟩)
    (hc__law_spots : PySem.W.codeIn K cd__law_spots "_law_spots" = true)
    (hk__law_spots : PySem.W.keepIn K (.ref f__law_spots) = true)
    (ha__law_crowded : PySem.W.nsIn K mainGlobals "_law_crowded" = some (some (.ref f__law_crowded)))
    (hl__law_crowded : K.lookup f__law_crowded = some ⟨oc__law_crowded, od__law_crowded, .func (PySem.W.fnOf "_law_crowded" "_law_crowded" (defArgs s__law_crowded) (defBody s__law_crowded) (defScope s__law_crowded) .none kV__law_crowded dc__law_crowded pm__law_crowded an__law_crowded cd__law_crowded ct__law_crowded), sl__law_crowded⟩)
    (hc__law_crowded : PySem.W.codeIn K cd__law_crowded "_law_crowded" = true)
    (hk__law_crowded : PySem.W.keepIn K (.ref f__law_crowded) = true)
    (ha__law_by_turns : PySem.W.nsIn K mainGlobals "_law_by_turns" = some (some (.ref f__law_by_turns)))
    (hl__law_by_turns : K.lookup f__law_by_turns = some ⟨oc__law_by_turns, od__law_by_turns, .func (PySem.W.fnOf "_law_by_turns" "_law_by_turns" (defArgs s__law_by_turns) (defBody s__law_by_turns) (defScope s__law_by_turns) .none kV__law_by_turns dc__law_by_turns pm__law_by_turns an__law_by_turns cd__law_by_turns ct__law_by_turns), sl__law_by_turns⟩)
    (hc__law_by_turns : PySem.W.codeIn K cd__law_by_turns "_law_by_turns" = true)
    (hk__law_by_turns : PySem.W.keepIn K (.ref f__law_by_turns) = true)
    (ha_Standing_has_name : PySem.W.findIn K (.ref C_Standing) "has_name" = some (some (.ref f_Standing_has_name)))
    (hi_Standing_has_name : PySem.W.isFn K (.ref f_Standing_has_name) = true)
    (hl_Standing_has_name : K.lookup f_Standing_has_name = some ⟨oc_Standing_has_name, od_Standing_has_name, .func (PySem.W.fnOf "has_name" "Standing.has_name" (defArgs s_Standing_has_name) (defBody s_Standing_has_name) (defScope s_Standing_has_name) .none kV_Standing_has_name dc_Standing_has_name pm_Standing_has_name an_Standing_has_name cd_Standing_has_name ct_Standing_has_name), sl_Standing_has_name⟩)
    (hc_Standing_has_name : PySem.W.codeIn K cd_Standing_has_name "Standing.has_name" = true)
    (hk_Standing_has_name : PySem.W.keepIn K (.ref f_Standing_has_name) = true)
    (ha_Standing_person : PySem.W.findIn K (.ref C_Standing) "person" = some (some (.ref f_Standing_person)))
    (hi_Standing_person : PySem.W.isFn K (.ref f_Standing_person) = true)
    (hl_Standing_person : K.lookup f_Standing_person = some ⟨oc_Standing_person, od_Standing_person, .func (PySem.W.fnOf "person" "Standing.person" (defArgs s_Standing_person) (defBody s_Standing_person) (defScope s_Standing_person) .none kV_Standing_person dc_Standing_person pm_Standing_person an_Standing_person cd_Standing_person ct_Standing_person), sl_Standing_person⟩)
    (hc_Standing_person : PySem.W.codeIn K cd_Standing_person "Standing.person" = true)
    (hk_Standing_person : PySem.W.keepIn K (.ref f_Standing_person) = true)
    (ha_Standing_place : PySem.W.findIn K (.ref C_Standing) "place" = some (some (.ref f_Standing_place)))
    (hi_Standing_place : PySem.W.isFn K (.ref f_Standing_place) = true)
    (hl_Standing_place : K.lookup f_Standing_place = some ⟨oc_Standing_place, od_Standing_place, .func (PySem.W.fnOf "place" "Standing.place" (defArgs s_Standing_place) (defBody s_Standing_place) (defScope s_Standing_place) .none kV_Standing_place dc_Standing_place pm_Standing_place an_Standing_place cd_Standing_place ct_Standing_place), sl_Standing_place⟩)
    (hc_Standing_place : PySem.W.codeIn K cd_Standing_place "Standing.place" = true)
    (hk_Standing_place : PySem.W.keepIn K (.ref f_Standing_place) = true)
    (gf_Standing_place : PySem.W.specialIn K (.ref f_Standing_place) "__get__" = some (some (.builtin "function.__get__")))
    (tk_Standing_place : PySem.W.takesIn K (.ref f_Standing_place) = some false)
    (fi_Standing_place : PySem.W.fnIn K f_Standing_place = true)
    (ha_Standing_names : PySem.W.findIn K (.ref C_Standing) "names" = some (some (.ref f_Standing_names)))
    (hi_Standing_names : PySem.W.isFn K (.ref f_Standing_names) = true)
    (hl_Standing_names : K.lookup f_Standing_names = some ⟨oc_Standing_names, od_Standing_names, .func (PySem.W.fnOf "names" "Standing.names" (defArgs s_Standing_names) (defBody s_Standing_names) (defScope s_Standing_names) .none kV_Standing_names dc_Standing_names pm_Standing_names an_Standing_names cd_Standing_names ct_Standing_names), sl_Standing_names⟩)
    (hc_Standing_names : PySem.W.codeIn K cd_Standing_names "Standing.names" = true)
    (hk_Standing_names : PySem.W.keepIn K (.ref f_Standing_names) = true)
    (ha_Standing_line : PySem.W.findIn K (.ref C_Standing) "line" = some (some (.ref f_Standing_line)))
    (hi_Standing_line : PySem.W.isFn K (.ref f_Standing_line) = true)
    (hl_Standing_line : K.lookup f_Standing_line = some ⟨oc_Standing_line, od_Standing_line, .func (PySem.W.fnOf "line" "Standing.line" (defArgs s_Standing_line) (defBody s_Standing_line) (defScope s_Standing_line) .none kV_Standing_line dc_Standing_line pm_Standing_line an_Standing_line cd_Standing_line ct_Standing_line), sl_Standing_line⟩)
    (hc_Standing_line : PySem.W.codeIn K cd_Standing_line "Standing.line" = true)
    (hk_Standing_line : PySem.W.keepIn K (.ref f_Standing_line) = true)
    (ha_Standing_voice : PySem.W.findIn K (.ref C_Standing) "voice" = some (some (.ref f_Standing_voice)))
    (hi_Standing_voice : PySem.W.isFn K (.ref f_Standing_voice) = true)
    (hl_Standing_voice : K.lookup f_Standing_voice = some ⟨oc_Standing_voice, od_Standing_voice, .func (PySem.W.fnOf "voice" "Standing.voice" (defArgs s_Standing_voice) (defBody s_Standing_voice) (defScope s_Standing_voice) .none kV_Standing_voice dc_Standing_voice pm_Standing_voice an_Standing_voice cd_Standing_voice ct_Standing_voice), sl_Standing_voice⟩)
    (hc_Standing_voice : PySem.W.codeIn K cd_Standing_voice "Standing.voice" = true)
    (hk_Standing_voice : PySem.W.keepIn K (.ref f_Standing_voice) = true)
    (ha_with_voice : PySem.W.nsIn K mainGlobals "with_voice" = some (some (.ref f_with_voice)))
    (hl_with_voice : K.lookup f_with_voice = some ⟨oc_with_voice, od_with_voice, .func (PySem.W.fnOf "with_voice" "with_voice" (defArgs s_with_voice) (defBody s_with_voice) (defScope s_with_voice) .none kV_with_voice dc_with_voice pm_with_voice an_with_voice cd_with_voice ct_with_voice), sl_with_voice⟩)
    (hc_with_voice : PySem.W.codeIn K cd_with_voice "with_voice" = true)
    (hk_with_voice : PySem.W.keepIn K (.ref f_with_voice) = true)
    (ha_Standing_people : PySem.W.findIn K (.ref C_Standing) "people" = some (some (.ref f_Standing_people)))
    (hi_Standing_people : PySem.W.isFn K (.ref f_Standing_people) = true)
    (hl_Standing_people : K.lookup f_Standing_people = some ⟨oc_Standing_people, od_Standing_people, .func (PySem.W.fnOf "people" "Standing.people" (defArgs s_Standing_people) (defBody s_Standing_people) (defScope s_Standing_people) .none kV_Standing_people dc_Standing_people pm_Standing_people an_Standing_people cd_Standing_people ct_Standing_people), sl_Standing_people⟩)
    (hc_Standing_people : PySem.W.codeIn K cd_Standing_people "Standing.people" = true)
    (hk_Standing_people : PySem.W.keepIn K (.ref f_Standing_people) = true)
    (ha_voice_places : PySem.W.nsIn K mainGlobals "voice_places" = some (some (.ref f_voice_places)))
    (hl_voice_places : K.lookup f_voice_places = some ⟨oc_voice_places, od_voice_places, .func (PySem.W.fnOf "voice_places" "voice_places" (defArgs s_voice_places) (defBody s_voice_places) (defScope s_voice_places) .none kV_voice_places dc_voice_places pm_voice_places an_voice_places cd_voice_places ct_voice_places), sl_voice_places⟩)
    (hc_voice_places : PySem.W.codeIn K cd_voice_places "voice_places" = true)
    (hk_voice_places : PySem.W.keepIn K (.ref f_voice_places) = true)
    (ha_turn_sum : PySem.W.nsIn K mainGlobals "turn_sum" = some (some (.ref f_turn_sum)))
    (hl_turn_sum : K.lookup f_turn_sum = some ⟨oc_turn_sum, od_turn_sum, .func (PySem.W.fnOf "turn_sum" "turn_sum" (defArgs s_turn_sum) (defBody s_turn_sum) (defScope s_turn_sum) .none kV_turn_sum dc_turn_sum pm_turn_sum an_turn_sum cd_turn_sum ct_turn_sum), sl_turn_sum⟩)
    (hc_turn_sum : PySem.W.codeIn K cd_turn_sum "turn_sum" = true)
    (hk_turn_sum : PySem.W.keepIn K (.ref f_turn_sum) = true)
    (ha_Standing_voices : PySem.W.findIn K (.ref C_Standing) "voices" = some (some (.ref f_Standing_voices)))
    (hi_Standing_voices : PySem.W.isFn K (.ref f_Standing_voices) = true)
    (hl_Standing_voices : K.lookup f_Standing_voices = some ⟨oc_Standing_voices, od_Standing_voices, .func (PySem.W.fnOf "voices" "Standing.voices" (defArgs s_Standing_voices) (defBody s_Standing_voices) (defScope s_Standing_voices) .none kV_Standing_voices dc_Standing_voices pm_Standing_voices an_Standing_voices cd_Standing_voices ct_Standing_voices), sl_Standing_voices⟩)
    (hc_Standing_voices : PySem.W.codeIn K cd_Standing_voices "Standing.voices" = true)
    (hk_Standing_voices : PySem.W.keepIn K (.ref f_Standing_voices) = true)
    (ha_wished_steps : PySem.W.nsIn K mainGlobals "wished_steps" = some (some (.ref f_wished_steps)))
    (hl_wished_steps : K.lookup f_wished_steps = some ⟨oc_wished_steps, od_wished_steps, .func (PySem.W.fnOf "wished_steps" "wished_steps" (defArgs s_wished_steps) (defBody s_wished_steps) (defScope s_wished_steps) .none kV_wished_steps dc_wished_steps pm_wished_steps an_wished_steps cd_wished_steps ct_wished_steps), sl_wished_steps⟩)
    (hc_wished_steps : PySem.W.codeIn K cd_wished_steps "wished_steps" = true)
    (hk_wished_steps : PySem.W.keepIn K (.ref f_wished_steps) = true)
    (ha_need_odd : PySem.W.nsIn K mainGlobals "need_odd" = some (some (.ref f_need_odd)))
    (hl_need_odd : K.lookup f_need_odd = some ⟨oc_need_odd, od_need_odd, .func (PySem.W.fnOf "need_odd" "need_odd" (defArgs s_need_odd) (defBody s_need_odd) (defScope s_need_odd) .none kV_need_odd dc_need_odd pm_need_odd an_need_odd cd_need_odd ct_need_odd), sl_need_odd⟩)
    (hc_need_odd : PySem.W.codeIn K cd_need_odd "need_odd" = true)
    (hk_need_odd : PySem.W.keepIn K (.ref f_need_odd) = true)
    (ha_meeting_place : PySem.W.nsIn K mainGlobals "meeting_place" = some (some (.ref f_meeting_place)))
    (hl_meeting_place : K.lookup f_meeting_place = some ⟨oc_meeting_place, od_meeting_place, .func (PySem.W.fnOf "meeting_place" "meeting_place" (defArgs s_meeting_place) (defBody s_meeting_place) (defScope s_meeting_place) .none kV_meeting_place dc_meeting_place pm_meeting_place an_meeting_place cd_meeting_place ct_meeting_place), sl_meeting_place⟩)
    (hc_meeting_place : PySem.W.codeIn K cd_meeting_place "meeting_place" = true)
    (hk_meeting_place : PySem.W.keepIn K (.ref f_meeting_place) = true)
    (ha__law_turned_voices : PySem.W.nsIn K mainGlobals "_law_turned_voices" = some (some (.ref f__law_turned_voices)))
    (hl__law_turned_voices : K.lookup f__law_turned_voices = some ⟨oc__law_turned_voices, od__law_turned_voices, .func (PySem.W.fnOf "_law_turned_voices" "_law_turned_voices" (defArgs s__law_turned_voices) (defBody s__law_turned_voices) (defScope s__law_turned_voices) .none kV__law_turned_voices dc__law_turned_voices pm__law_turned_voices an__law_turned_voices cd__law_turned_voices ct__law_turned_voices), sl__law_turned_voices⟩)
    (hc__law_turned_voices : PySem.W.codeIn K cd__law_turned_voices "_law_turned_voices" = true)
    (hk__law_turned_voices : PySem.W.keepIn K (.ref f__law_turned_voices) = true)
    (ha__law_stepped : PySem.W.nsIn K mainGlobals "_law_stepped" = some (some (.ref f__law_stepped)))
    (hl__law_stepped : K.lookup f__law_stepped = some ⟨oc__law_stepped, od__law_stepped, .func (PySem.W.fnOf "_law_stepped" "_law_stepped" (defArgs s__law_stepped) (defBody s__law_stepped) (defScope s__law_stepped) .none kV__law_stepped dc__law_stepped pm__law_stepped an__law_stepped cd__law_stepped ct__law_stepped), sl__law_stepped⟩)
    (hc__law_stepped : PySem.W.codeIn K cd__law_stepped "_law_stepped" = true)
    (hk__law_stepped : PySem.W.keepIn K (.ref f__law_stepped) = true)
    (ha__law_voices : PySem.W.nsIn K mainGlobals "_law_voices" = some (some (.ref f__law_voices)))
    (hl__law_voices : K.lookup f__law_voices = some ⟨oc__law_voices, od__law_voices, .func (PySem.W.fnOf "_law_voices" "_law_voices" (defArgs s__law_voices) (defBody s__law_voices) (defScope s__law_voices) .none kV__law_voices dc__law_voices pm__law_voices an__law_voices cd__law_voices ct__law_voices), sl__law_voices⟩)
    (hc__law_voices : PySem.W.codeIn K cd__law_voices "_law_voices" = true)
    (hk__law_voices : PySem.W.keepIn K (.ref f__law_voices) = true)
    (ha__law_is_whole : PySem.W.nsIn K mainGlobals "_law_is_whole" = some (some (.ref f__law_is_whole)))
    (hl__law_is_whole : K.lookup f__law_is_whole = some ⟨oc__law_is_whole, od__law_is_whole, .func (PySem.W.fnOf "_law_is_whole" "_law_is_whole" (defArgs s__law_is_whole) (defBody s__law_is_whole) (defScope s__law_is_whole) .none kV__law_is_whole dc__law_is_whole pm__law_is_whole an__law_is_whole cd__law_is_whole ct__law_is_whole), sl__law_is_whole⟩)
    (hc__law_is_whole : PySem.W.codeIn K cd__law_is_whole "_law_is_whole" = true)
    (hk__law_is_whole : PySem.W.keepIn K (.ref f__law_is_whole) = true)
    (ha__law_verdict : PySem.W.nsIn K mainGlobals "_law_verdict" = some (some (.ref f__law_verdict)))
    (hl__law_verdict : K.lookup f__law_verdict = some ⟨oc__law_verdict, od__law_verdict, .func (PySem.W.fnOf "_law_verdict" "_law_verdict" (defArgs s__law_verdict) (defBody s__law_verdict) (defScope s__law_verdict) .none kV__law_verdict dc__law_verdict pm__law_verdict an__law_verdict cd__law_verdict ct__law_verdict), sl__law_verdict⟩)
    (hc__law_verdict : PySem.W.codeIn K cd__law_verdict "_law_verdict" = true)
    (hk__law_verdict : PySem.W.keepIn K (.ref f__law_verdict) = true)
    (ha_exchanged : PySem.W.nsIn K mainGlobals "exchanged" = some (some (.ref f_exchanged)))
    (hl_exchanged : K.lookup f_exchanged = some ⟨oc_exchanged, od_exchanged, .func (PySem.W.fnOf "exchanged" "exchanged" (defArgs s_exchanged) (defBody s_exchanged) (defScope s_exchanged) .none kV_exchanged dc_exchanged pm_exchanged an_exchanged cd_exchanged ct_exchanged), sl_exchanged⟩)
    (hc_exchanged : PySem.W.codeIn K cd_exchanged "exchanged" = true)
    (hk_exchanged : PySem.W.keepIn K (.ref f_exchanged) = true)
    (ha_moved_person : PySem.W.nsIn K mainGlobals "moved_person" = some (some (.ref f_moved_person)))
    (hl_moved_person : K.lookup f_moved_person = some ⟨oc_moved_person, od_moved_person, .func (PySem.W.fnOf "moved_person" "moved_person" (defArgs s_moved_person) (defBody s_moved_person) (defScope s_moved_person) .none kV_moved_person dc_moved_person pm_moved_person an_moved_person cd_moved_person ct_moved_person), sl_moved_person⟩)
    (hc_moved_person : PySem.W.codeIn K cd_moved_person "moved_person" = true)
    (hk_moved_person : PySem.W.keepIn K (.ref f_moved_person) = true)
    (ha_voiced : PySem.W.nsIn K mainGlobals "voiced" = some (some (.ref f_voiced)))
    (hl_voiced : K.lookup f_voiced = some ⟨oc_voiced, od_voiced, .func (PySem.W.fnOf "voiced" "voiced" (defArgs s_voiced) (defBody s_voiced) (defScope s_voiced) .none kV_voiced dc_voiced pm_voiced an_voiced cd_voiced ct_voiced), sl_voiced⟩)
    (hc_voiced : PySem.W.codeIn K cd_voiced "voiced" = true)
    (hk_voiced : PySem.W.keepIn K (.ref f_voiced) = true)
    (ha_wished : PySem.W.nsIn K mainGlobals "wished" = some (some (.ref f_wished)))
    (hl_wished : K.lookup f_wished = some ⟨oc_wished, od_wished, .func (PySem.W.fnOf "wished" "wished" (defArgs s_wished) (defBody s_wished) (defScope s_wished) .none kV_wished dc_wished pm_wished an_wished cd_wished ct_wished), sl_wished⟩)
    (hc_wished : PySem.W.codeIn K cd_wished "wished" = true)
    (hk_wished : PySem.W.keepIn K (.ref f_wished) = true)
    (ha_is_row_wishes : PySem.W.nsIn K mainGlobals "is_row" = some (some (.ref f_is_row_wishes)))
    (hl_is_row_wishes : K.lookup f_is_row_wishes = some ⟨oc_is_row_wishes, od_is_row_wishes, .func (PySem.W.fnOf "is_row" "is_row" (defArgs s_is_row_wishes) (defBody s_is_row_wishes) (defScope s_is_row_wishes) .none kV_is_row_wishes dc_is_row_wishes pm_is_row_wishes an_is_row_wishes cd_is_row_wishes ct_is_row_wishes), sl_is_row_wishes⟩)
    (hc_is_row_wishes : PySem.W.codeIn K cd_is_row_wishes "is_row" = true)
    (hk_is_row_wishes : PySem.W.keepIn K (.ref f_is_row_wishes) = true)
    (ha_has_form : PySem.W.nsIn K mainGlobals "has_form" = some (some (.ref f_has_form)))
    (hl_has_form : K.lookup f_has_form = some ⟨oc_has_form, od_has_form, .func (PySem.W.fnOf "has_form" "has_form" (defArgs s_has_form) (defBody s_has_form) (defScope s_has_form) .none kV_has_form dc_has_form pm_has_form an_has_form cd_has_form ct_has_form), sl_has_form⟩)
    (hc_has_form : PySem.W.codeIn K cd_has_form "has_form" = true)
    (hk_has_form : PySem.W.keepIn K (.ref f_has_form) = true)
    (ha_judge_wish : PySem.W.nsIn K mainGlobals "judge_wish" = some (some (.ref f_judge_wish)))
    (hl_judge_wish : K.lookup f_judge_wish = some ⟨oc_judge_wish, od_judge_wish, .func (PySem.W.fnOf "judge_wish" "judge_wish" (defArgs s_judge_wish) (defBody s_judge_wish) (defScope s_judge_wish) .none kV_judge_wish dc_judge_wish pm_judge_wish an_judge_wish cd_judge_wish ct_judge_wish), sl_judge_wish⟩)
    (hc_judge_wish : PySem.W.codeIn K cd_judge_wish "judge_wish" = true)
    (hk_judge_wish : PySem.W.keepIn K (.ref f_judge_wish) = true)
    (ha_law : PySem.W.nsIn K mainGlobals "law" = some (some (.ref f_law)))
    (hl_law : K.lookup f_law = some ⟨oc_law, od_law, .func (PySem.W.fnOf "law" "law" (defArgs s_law) (defBody s_law) (defScope s_law) .none kV_law dc_law pm_law an_law cd_law ct_law), sl_law⟩)
    (hc_law : PySem.W.codeIn K cd_law "law" = true)
    (hk_law : PySem.W.keepIn K (.ref f_law) = true)
    (al_is_row_wishes : PySem.W.nsIn K mainGlobals "is_row_wishes" = some (some (.ref f_is_row_wishes)))
    (al_is_row_words : PySem.W.nsIn K mainGlobals "is_row_words" = some (some (.ref f_is_row)))
    (n_Standing_own_people : PySem.W.findIn K (.ref C_Standing) "own_people" = some none)
    (kk_LETTERS : PySem.W.nsIn K mainGlobals "LETTERS" = some (some (.str "abcdefghijklmnopqrstuvwxyz" tk_LETTERS)))
    (kk_FIGURES : PySem.W.nsIn K mainGlobals "FIGURES" = some (some (.str "0123456789" tk_FIGURES)))
    (xg_EvenVoices : PySem.W.nsIn K mainGlobals "EvenVoices" = some (some (.ref C_EvenVoices)))
    (xx_EvenVoices : PySem.W.excIn K C_EvenVoices [.type "ValueError", .type "Exception", .type "BaseException", .type "object"] "ValueError.__new__" = true)
    (xk_EvenVoices : PySem.W.keepIn K (.ref C_EvenVoices) = true)
    (xs_EvenVoices : PySem.W.subIn K (.ref C_EvenVoices) (.type "BaseException") = some true)
    (xt_EvenVoices : PySem.W.typeIn K (.ref C_EvenVoices) = some (.type "type"))
    (xi_EvenVoices : PySem.W.isClsIn K C_EvenVoices = true)
    (xq_EvenVoices_EvenVoices : PySem.W.subIn K (.ref C_EvenVoices) (.ref C_EvenVoices) = some true)
    (z_abs : PySem.W.nsIn K mainGlobals "abs" = some none)
    (z_all : PySem.W.nsIn K mainGlobals "all" = some none)
    (z_bool : PySem.W.nsIn K mainGlobals "bool" = some none)
    (z_dict : PySem.W.nsIn K mainGlobals "dict" = some none)
    (z_enumerate : PySem.W.nsIn K mainGlobals "enumerate" = some none)
    (z_int : PySem.W.nsIn K mainGlobals "int" = some none)
    (z_isinstance : PySem.W.nsIn K mainGlobals "isinstance" = some none)
    (z_len : PySem.W.nsIn K mainGlobals "len" = some none)
    (z_list : PySem.W.nsIn K mainGlobals "list" = some none)
    (z_max : PySem.W.nsIn K mainGlobals "max" = some none)
    (z_range : PySem.W.nsIn K mainGlobals "range" = some none)
    (z_repr : PySem.W.nsIn K mainGlobals "repr" = some none)
    (z_sorted : PySem.W.nsIn K mainGlobals "sorted" = some none)
    (z_str : PySem.W.nsIn K mainGlobals "str" = some none)
    (z_sum : PySem.W.nsIn K mainGlobals "sum" = some none)
    (z_tuple : PySem.W.nsIn K mainGlobals "tuple" = some none)
    (z_zip : PySem.W.nsIn K mainGlobals "zip" = some none)
    : ∃ fd : FuncData, (∀ (s : Shared) (v : Value), BindsTo s fd ⟨[v], []⟩ [("_law_script", v)]) ∧ ∀ base : Heap, K.In base → base.Ns mainGlobals mg → RunAt l.prog w K mg base callerA fa fd ["_law_script"] (spD K srcW (c_law C0)) := by
  have e := hfa.symm.trans (PySem.W.mg_of X G ha_law)
  cases e
  have F__law_source := fun_mk (st := s__law_source) hl__law_source hc__law_source hk__law_source
  have b__law_source := F__law_source.binds (ps := ["_law_script"]) fun _ _ _ _ _ _ us hl => match us, hl with | [_], _ => rfl
  have F__law_pick := fun_mk (st := s__law_pick) hl__law_pick hc__law_pick hk__law_pick
  have b__law_pick := F__law_pick.binds (ps := ["_law_source_here", "_law_many"]) fun _ _ _ _ _ _ us hl => match us, hl with | [_, _], _ => rfl
  have F__law_names := fun_mk (st := s__law_names) hl__law_names hc__law_names hk__law_names
  have b__law_names := F__law_names.binds (ps := ["_law_source_here", "_law_many"]) fun _ _ _ _ _ _ us hl => match us, hl with | [_, _], _ => rfl
  have F_is_row := fun_mk (st := s_is_row) hl_is_row hc_is_row hk_is_row
  have b_is_row := F_is_row.binds (ps := ["value", "many"]) fun _ _ _ _ _ _ us hl => match us, hl with | [_, _], _ => rfl
  have F_is_integer := fun_mk (st := s_is_integer) hl_is_integer hc_is_integer hk_is_integer
  have b_is_integer := F_is_integer.binds (ps := ["value"]) fun _ _ _ _ _ _ us hl => match us, hl with | [_], _ => rfl
  have F_is_word := fun_mk (st := s_is_word) hl_is_word hc_is_word hk_is_word
  have b_is_word := F_is_word.binds (ps := ["value"]) fun _ _ _ _ _ _ us hl => match us, hl with | [_], _ => rfl
  have F_wrong_person := fun_mk (st := s_wrong_person) hl_wrong_person hc_wrong_person hk_wrong_person
  have b_wrong_person := F_wrong_person.binds (ps := ["value", "names"]) fun _ _ _ _ _ _ us hl => match us, hl with | [_, _], _ => rfl
  have F_wrong_people := fun_mk (st := s_wrong_people) hl_wrong_people hc_wrong_people hk_wrong_people
  have b_wrong_people := F_wrong_people.binds (ps := ["value"]) fun _ _ _ _ _ _ us hl => match us, hl with | [_], _ => rfl
  have F_Standing_init := fun_mk (st := s_Standing_init) hl_Standing_init hc_Standing_init hk_Standing_init
  have b_Standing_init := F_Standing_init.binds (ps := ["self", "people"]) fun _ _ _ _ _ _ us hl => match us, hl with | [_, _], _ => rfl
  have F__law_made := fun_mk (st := s__law_made) hl__law_made hc__law_made hk__law_made
  have b__law_made := F__law_made.binds (ps := ["_law_people"]) fun _ _ _ _ _ _ us hl => match us, hl with | [_], _ => rfl
  have F__law_mixed := fun_mk (st := s__law_mixed) hl__law_mixed hc__law_mixed hk__law_mixed
  have b__law_mixed := F__law_mixed.binds (ps := ["_law_source_here", "_law_things"]) fun _ _ _ _ _ _ us hl => match us, hl with | [_, _], _ => rfl
  have F__law_of := fun_mk (st := s__law_of) hl__law_of hc__law_of hk__law_of
  have b__law_of := F__law_of.binds (ps := ["_law_source_here", "_law_some"]) fun _ _ _ _ _ _ us hl => match us, hl with | [_, _], _ => rfl
  have F__law_world := fun_mk (st := s__law_world) hl__law_world hc__law_world hk__law_world
  have b__law_world := F__law_world.binds (ps := ["_law_source_here", "_law_most", "_law_far", "_law_parity"]) fun _ _ _ _ _ _ us hl => match us, hl with | [_, _, _, _], _ => rfl
  have F__law_at := fun_mk (st := s__law_at) hl__law_at hc__law_at hk__law_at
  have b__law_at := F__law_at.binds (ps := ["_law_world_here", "_law_spots_here"]) fun _ _ _ _ _ _ us hl => match us, hl with | [_, _], _ => rfl
  have F__law_spots := fun_mk (st := s__law_spots) hl__law_spots hc__law_spots hk__law_spots
  have b__law_spots := F__law_spots.binds (ps := ["_law_world_here"]) fun _ _ _ _ _ _ us hl => match us, hl with | [_], _ => rfl
  have F__law_crowded := fun_mk (st := s__law_crowded) hl__law_crowded hc__law_crowded hk__law_crowded
  have b__law_crowded := F__law_crowded.binds (ps := ["_law_source_here", "_law_most", "_law_far", "_law_parity"]) fun _ _ _ _ _ _ us hl => match us, hl with | [_, _, _, _], _ => rfl
  have F__law_by_turns := fun_mk (st := s__law_by_turns) hl__law_by_turns hc__law_by_turns hk__law_by_turns
  have b__law_by_turns := F__law_by_turns.binds (ps := ["_law_world_here", "_law_spots_here"]) fun _ _ _ _ _ _ us hl => match us, hl with | [_, _], _ => rfl
  have F_Standing_has_name := fun_mk (st := s_Standing_has_name) hl_Standing_has_name hc_Standing_has_name hk_Standing_has_name
  have b_Standing_has_name := F_Standing_has_name.binds (ps := ["self", "value"]) fun _ _ _ _ _ _ us hl => match us, hl with | [_, _], _ => rfl
  have F_Standing_person := fun_mk (st := s_Standing_person) hl_Standing_person hc_Standing_person hk_Standing_person
  have b_Standing_person := F_Standing_person.binds (ps := ["self", "name"]) fun _ _ _ _ _ _ us hl => match us, hl with | [_, _], _ => rfl
  have F_Standing_place := fun_mk (st := s_Standing_place) hl_Standing_place hc_Standing_place hk_Standing_place
  have b_Standing_place := F_Standing_place.binds (ps := ["self", "name"]) fun _ _ _ _ _ _ us hl => match us, hl with | [_, _], _ => rfl
  have F_Standing_names := fun_mk (st := s_Standing_names) hl_Standing_names hc_Standing_names hk_Standing_names
  have b_Standing_names := F_Standing_names.binds (ps := ["self"]) fun _ _ _ _ _ _ us hl => match us, hl with | [_], _ => rfl
  have F_Standing_line := fun_mk (st := s_Standing_line) hl_Standing_line hc_Standing_line hk_Standing_line
  have b_Standing_line := F_Standing_line.binds (ps := ["self"]) fun _ _ _ _ _ _ us hl => match us, hl with | [_], _ => rfl
  have F_Standing_voice := fun_mk (st := s_Standing_voice) hl_Standing_voice hc_Standing_voice hk_Standing_voice
  have b_Standing_voice := F_Standing_voice.binds (ps := ["self", "name"]) fun _ _ _ _ _ _ us hl => match us, hl with | [_, _], _ => rfl
  have F_with_voice := fun_mk (st := s_with_voice) hl_with_voice hc_with_voice hk_with_voice
  have b_with_voice := F_with_voice.binds (ps := ["standing"]) fun _ _ _ _ _ _ us hl => match us, hl with | [_], _ => rfl
  have F_Standing_people := fun_mk (st := s_Standing_people) hl_Standing_people hc_Standing_people hk_Standing_people
  have b_Standing_people := F_Standing_people.binds (ps := ["self"]) fun _ _ _ _ _ _ us hl => match us, hl with | [_], _ => rfl
  have F_voice_places := fun_mk (st := s_voice_places) hl_voice_places hc_voice_places hk_voice_places
  have b_voice_places := F_voice_places.binds (ps := ["standing"]) fun _ _ _ _ _ _ us hl => match us, hl with | [_], _ => rfl
  have F_turn_sum := fun_mk (st := s_turn_sum) hl_turn_sum hc_turn_sum hk_turn_sum
  have b_turn_sum := F_turn_sum.binds (ps := ["standing"]) fun _ _ _ _ _ _ us hl => match us, hl with | [_], _ => rfl
  have F_Standing_voices := fun_mk (st := s_Standing_voices) hl_Standing_voices hc_Standing_voices hk_Standing_voices
  have b_Standing_voices := F_Standing_voices.binds (ps := ["self"]) fun _ _ _ _ _ _ us hl => match us, hl with | [_], _ => rfl
  have F_wished_steps := fun_mk (st := s_wished_steps) hl_wished_steps hc_wished_steps hk_wished_steps
  have b_wished_steps := F_wished_steps.binds (ps := ["standing", "place"]) fun _ _ _ _ _ _ us hl => match us, hl with | [_, _], _ => rfl
  have F_need_odd := fun_mk (st := s_need_odd) hl_need_odd hc_need_odd hk_need_odd
  have b_need_odd := F_need_odd.binds (ps := ["standing"]) fun _ _ _ _ _ _ us hl => match us, hl with | [_], _ => rfl
  have F_meeting_place := fun_mk (st := s_meeting_place) hl_meeting_place hc_meeting_place hk_meeting_place
  have b_meeting_place := F_meeting_place.binds (ps := ["standing"]) fun _ _ _ _ _ _ us hl => match us, hl with | [_], _ => rfl
  have F__law_turned_voices := fun_mk (st := s__law_turned_voices) hl__law_turned_voices hc__law_turned_voices hk__law_turned_voices
  have b__law_turned_voices := F__law_turned_voices.binds (ps := ["_law_world_here", "_law_names_here"]) fun _ _ _ _ _ _ us hl => match us, hl with | [_, _], _ => rfl
  have F__law_stepped := fun_mk (st := s__law_stepped) hl__law_stepped hc__law_stepped hk__law_stepped
  have b__law_stepped := F__law_stepped.binds (ps := ["_law_world_here", "_law_rows"]) fun _ _ _ _ _ _ us hl => match us, hl with | [_, _], _ => rfl
  have F__law_voices := fun_mk (st := s__law_voices) hl__law_voices hc__law_voices hk__law_voices
  have b__law_voices := F__law_voices.binds (ps := ["_law_world_here"]) fun _ _ _ _ _ _ us hl => match us, hl with | [_], _ => rfl
  have F__law_is_whole := fun_mk (st := s__law_is_whole) hl__law_is_whole hc__law_is_whole hk__law_is_whole
  have b__law_is_whole := F__law_is_whole.binds (ps := ["_law_value"]) fun _ _ _ _ _ _ us hl => match us, hl with | [_], _ => rfl
  have F__law_verdict := fun_mk (st := s__law_verdict) hl__law_verdict hc__law_verdict hk__law_verdict
  have b__law_verdict := F__law_verdict.binds (ps := ["_law_world_here", "_law_place", "_law_value"]) fun _ _ _ _ _ _ us hl => match us, hl with | [_, _, _], _ => rfl
  have F_exchanged := fun_mk (st := s_exchanged) hl_exchanged hc_exchanged hk_exchanged
  have b_exchanged := F_exchanged.binds (ps := ["standing", "person"]) fun _ _ _ _ _ _ us hl => match us, hl with | [_, _], _ => rfl
  have F_moved_person := fun_mk (st := s_moved_person) hl_moved_person hc_moved_person hk_moved_person
  have b_moved_person := F_moved_person.binds (ps := ["standing", "name", "place"]) fun _ _ _ _ _ _ us hl => match us, hl with | [_, _, _], _ => rfl
  have F_voiced := fun_mk (st := s_voiced) hl_voiced hc_voiced hk_voiced
  have b_voiced := F_voiced.binds (ps := ["standing", "name", "voice"]) fun _ _ _ _ _ _ us hl => match us, hl with | [_, _, _], _ => rfl
  have F_wished := fun_mk (st := s_wished) hl_wished hc_wished hk_wished
  have b_wished := F_wished.binds (ps := ["standing", "value"]) fun _ _ _ _ _ _ us hl => match us, hl with | [_, _], _ => rfl
  have F_is_row_wishes := fun_mk (st := s_is_row_wishes) hl_is_row_wishes hc_is_row_wishes hk_is_row_wishes
  have b_is_row_wishes := F_is_row_wishes.binds (ps := ["value"]) fun _ _ _ _ _ _ us hl => match us, hl with | [_], _ => rfl
  have F_has_form := fun_mk (st := s_has_form) hl_has_form hc_has_form hk_has_form
  have b_has_form := F_has_form.binds (ps := ["value"]) fun _ _ _ _ _ _ us hl => match us, hl with | [_], _ => rfl
  have F_judge_wish := fun_mk (st := s_judge_wish) hl_judge_wish hc_judge_wish hk_judge_wish
  have b_judge_wish := F_judge_wish.binds (ps := ["standing", "place", "value"]) fun _ _ _ _ _ _ us hl => match us, hl with | [_, _, _], _ => rfl
  have F_law := fun_mk (st := s_law) hl_law hc_law hk_law
  have b_law := F_law.binds (ps := ["_law_script"]) fun _ _ _ _ _ _ us hl => match us, hl with | [_], _ => rfl
  let T : Txt K mg := { CS := ⟨C_Standing, 0, 0, 0, 0, 0, 0, 0, 0, 0, 0, C_EvenVoices, 0, 0, 0, 0, 0, 0, 0, 0, 0, 0, 0⟩, cl_Standing := ⟨pg_Standing, hd_Standing, po_Standing, sa_Standing⟩, gc_Standing := PySem.W.mg_of X G aC_Standing, a__law_source := f__law_source, d__law_source := _, F__law_source := F__law_source, b__law_source := b__law_source, g__law_source := PySem.W.mg_of X G ha__law_source, a__law_pick := f__law_pick, d__law_pick := _, F__law_pick := F__law_pick, b__law_pick := b__law_pick, g__law_pick := PySem.W.mg_of X G ha__law_pick, a__law_names := f__law_names, d__law_names := _, F__law_names := F__law_names, b__law_names := b__law_names, g__law_names := PySem.W.mg_of X G ha__law_names, a_is_row := f_is_row, d_is_row := _, F_is_row := F_is_row, b_is_row := b_is_row, a_is_integer := f_is_integer, d_is_integer := _, F_is_integer := F_is_integer, b_is_integer := b_is_integer, g_is_integer := PySem.W.mg_of X G ha_is_integer, a_is_word := f_is_word, d_is_word := _, F_is_word := F_is_word, b_is_word := b_is_word, g_is_word := PySem.W.mg_of X G ha_is_word, a_wrong_person := f_wrong_person, d_wrong_person := _, F_wrong_person := F_wrong_person, b_wrong_person := b_wrong_person, g_wrong_person := PySem.W.mg_of X G ha_wrong_person, a_wrong_people := f_wrong_people, d_wrong_people := _, F_wrong_people := F_wrong_people, b_wrong_people := b_wrong_people, g_wrong_people := PySem.W.mg_of X G ha_wrong_people, a_Standing_init := f_Standing_init, d_Standing_init := _, F_Standing_init := F_Standing_init, b_Standing_init := b_Standing_init, mk_Standing := ⟨mk_Standing, ha_Standing_init, hi_Standing_init, kc_Standing⟩, a__law_made := f__law_made, d__law_made := _, F__law_made := F__law_made, b__law_made := b__law_made, g__law_made := PySem.W.mg_of X G ha__law_made, a__law_mixed := f__law_mixed, d__law_mixed := _, F__law_mixed := F__law_mixed, b__law_mixed := b__law_mixed, g__law_mixed := PySem.W.mg_of X G ha__law_mixed, a__law_of := f__law_of, d__law_of := _, F__law_of := F__law_of, b__law_of := b__law_of, g__law_of := PySem.W.mg_of X G ha__law_of, a__law_world := f__law_world, d__law_world := _, F__law_world := F__law_world, b__law_world := b__law_world, g__law_world := PySem.W.mg_of X G ha__law_world, a__law_at := f__law_at, d__law_at := _, F__law_at := F__law_at, b__law_at := b__law_at, g__law_at := PySem.W.mg_of X G ha__law_at, a__law_spots := f__law_spots, d__law_spots := _, F__law_spots := F__law_spots, b__law_spots := b__law_spots, g__law_spots := PySem.W.mg_of X G ha__law_spots, a__law_crowded := f__law_crowded, d__law_crowded := _, F__law_crowded := F__law_crowded, b__law_crowded := b__law_crowded, g__law_crowded := PySem.W.mg_of X G ha__law_crowded, a__law_by_turns := f__law_by_turns, d__law_by_turns := _, F__law_by_turns := F__law_by_turns, b__law_by_turns := b__law_by_turns, g__law_by_turns := PySem.W.mg_of X G ha__law_by_turns, a_Standing_has_name := f_Standing_has_name, d_Standing_has_name := _, F_Standing_has_name := F_Standing_has_name, b_Standing_has_name := b_Standing_has_name, m_Standing_has_name := ⟨ha_Standing_has_name, hi_Standing_has_name, hk_Standing_has_name⟩, a_Standing_person := f_Standing_person, d_Standing_person := _, F_Standing_person := F_Standing_person, b_Standing_person := b_Standing_person, m_Standing_person := ⟨ha_Standing_person, hi_Standing_person, hk_Standing_person⟩, a_Standing_place := f_Standing_place, d_Standing_place := _, F_Standing_place := F_Standing_place, b_Standing_place := b_Standing_place, m_Standing_place := ⟨ha_Standing_place, hi_Standing_place, hk_Standing_place⟩, bm_Standing_place := ⟨⟨ha_Standing_place, hi_Standing_place, hk_Standing_place⟩, gf_Standing_place, tk_Standing_place, by decide +kernel, fi_Standing_place⟩, a_Standing_names := f_Standing_names, d_Standing_names := _, F_Standing_names := F_Standing_names, b_Standing_names := b_Standing_names, m_Standing_names := ⟨ha_Standing_names, hi_Standing_names, hk_Standing_names⟩, a_Standing_line := f_Standing_line, d_Standing_line := _, F_Standing_line := F_Standing_line, b_Standing_line := b_Standing_line, m_Standing_line := ⟨ha_Standing_line, hi_Standing_line, hk_Standing_line⟩, a_Standing_voice := f_Standing_voice, d_Standing_voice := _, F_Standing_voice := F_Standing_voice, b_Standing_voice := b_Standing_voice, m_Standing_voice := ⟨ha_Standing_voice, hi_Standing_voice, hk_Standing_voice⟩, a_with_voice := f_with_voice, d_with_voice := _, F_with_voice := F_with_voice, b_with_voice := b_with_voice, g_with_voice := PySem.W.mg_of X G ha_with_voice, a_Standing_people := f_Standing_people, d_Standing_people := _, F_Standing_people := F_Standing_people, b_Standing_people := b_Standing_people, m_Standing_people := ⟨ha_Standing_people, hi_Standing_people, hk_Standing_people⟩, a_voice_places := f_voice_places, d_voice_places := _, F_voice_places := F_voice_places, b_voice_places := b_voice_places, g_voice_places := PySem.W.mg_of X G ha_voice_places, a_turn_sum := f_turn_sum, d_turn_sum := _, F_turn_sum := F_turn_sum, b_turn_sum := b_turn_sum, g_turn_sum := PySem.W.mg_of X G ha_turn_sum, a_Standing_voices := f_Standing_voices, d_Standing_voices := _, F_Standing_voices := F_Standing_voices, b_Standing_voices := b_Standing_voices, m_Standing_voices := ⟨ha_Standing_voices, hi_Standing_voices, hk_Standing_voices⟩, a_wished_steps := f_wished_steps, d_wished_steps := _, F_wished_steps := F_wished_steps, b_wished_steps := b_wished_steps, g_wished_steps := PySem.W.mg_of X G ha_wished_steps, a_need_odd := f_need_odd, d_need_odd := _, F_need_odd := F_need_odd, b_need_odd := b_need_odd, g_need_odd := PySem.W.mg_of X G ha_need_odd, a_meeting_place := f_meeting_place, d_meeting_place := _, F_meeting_place := F_meeting_place, b_meeting_place := b_meeting_place, g_meeting_place := PySem.W.mg_of X G ha_meeting_place, a__law_turned_voices := f__law_turned_voices, d__law_turned_voices := _, F__law_turned_voices := F__law_turned_voices, b__law_turned_voices := b__law_turned_voices, g__law_turned_voices := PySem.W.mg_of X G ha__law_turned_voices, a__law_stepped := f__law_stepped, d__law_stepped := _, F__law_stepped := F__law_stepped, b__law_stepped := b__law_stepped, g__law_stepped := PySem.W.mg_of X G ha__law_stepped, a__law_voices := f__law_voices, d__law_voices := _, F__law_voices := F__law_voices, b__law_voices := b__law_voices, g__law_voices := PySem.W.mg_of X G ha__law_voices, a__law_is_whole := f__law_is_whole, d__law_is_whole := _, F__law_is_whole := F__law_is_whole, b__law_is_whole := b__law_is_whole, g__law_is_whole := PySem.W.mg_of X G ha__law_is_whole, a__law_verdict := f__law_verdict, d__law_verdict := _, F__law_verdict := F__law_verdict, b__law_verdict := b__law_verdict, g__law_verdict := PySem.W.mg_of X G ha__law_verdict, a_exchanged := f_exchanged, d_exchanged := _, F_exchanged := F_exchanged, b_exchanged := b_exchanged, g_exchanged := PySem.W.mg_of X G ha_exchanged, a_moved_person := f_moved_person, d_moved_person := _, F_moved_person := F_moved_person, b_moved_person := b_moved_person, g_moved_person := PySem.W.mg_of X G ha_moved_person, a_voiced := f_voiced, d_voiced := _, F_voiced := F_voiced, b_voiced := b_voiced, g_voiced := PySem.W.mg_of X G ha_voiced, a_wished := f_wished, d_wished := _, F_wished := F_wished, b_wished := b_wished, g_wished := PySem.W.mg_of X G ha_wished, a_is_row_wishes := f_is_row_wishes, d_is_row_wishes := _, F_is_row_wishes := F_is_row_wishes, b_is_row_wishes := b_is_row_wishes, g_is_row_wishes := PySem.W.mg_of X G ha_is_row_wishes, a_has_form := f_has_form, d_has_form := _, F_has_form := F_has_form, b_has_form := b_has_form, g_has_form := PySem.W.mg_of X G ha_has_form, a_judge_wish := f_judge_wish, d_judge_wish := _, F_judge_wish := F_judge_wish, b_judge_wish := b_judge_wish, g_judge_wish := PySem.W.mg_of X G ha_judge_wish, a_law := fa, d_law := _, F_law := F_law, b_law := b_law, g_law := PySem.W.mg_of X G ha_law, al_is_row_wishes := PySem.W.mg_of X G al_is_row_wishes, al_is_row_words := PySem.W.mg_of X G al_is_row_words, n_Standing_own_people := n_Standing_own_people, k_LETTERS := ⟨_, PySem.W.mg_of X G kk_LETTERS⟩, k_FIGURES := ⟨_, PySem.W.mg_of X G kk_FIGURES⟩, e_EvenVoices := ⟨xx_EvenVoices, PySem.W.mg_of X G xg_EvenVoices, xk_EvenVoices, xs_EvenVoices, xt_EvenVoices⟩, em_EvenVoices_EvenVoices := exm_mk xs_EvenVoices xi_EvenVoices xt_EvenVoices xq_EvenVoices_EvenVoices, z_abs := PySem.W.mg_none_of X G z_abs, z_all := PySem.W.mg_none_of X G z_all, z_bool := PySem.W.mg_none_of X G z_bool, z_dict := PySem.W.mg_none_of X G z_dict, z_enumerate := PySem.W.mg_none_of X G z_enumerate, z_int := PySem.W.mg_none_of X G z_int, z_isinstance := PySem.W.mg_none_of X G z_isinstance, z_len := PySem.W.mg_none_of X G z_len, z_list := PySem.W.mg_none_of X G z_list, z_max := PySem.W.mg_none_of X G z_max, z_range := PySem.W.mg_none_of X G z_range, z_repr := PySem.W.mg_none_of X G z_repr, z_sorted := PySem.W.mg_none_of X G z_sorted, z_str := PySem.W.mg_none_of X G z_str, z_sum := PySem.W.mg_none_of X G z_sum, z_tuple := PySem.W.mg_none_of X G z_tuple, z_zip := PySem.W.mg_none_of X G z_zip }
  refine ⟨PySem.W.fnOf "law" "law" (defArgs s_law) (defBody s_law) (defScope s_law) .none kV_law dc_law pm_law an_law cd_law ct_law, fun s v => .of_eq rfl, fun base KI GI => ?_⟩
  have G__law_source := ok__law_source (P := l.prog) (w := w) (base := base) T 
  have G__law_pick := ok__law_pick (P := l.prog) (w := w) (base := base) T 
  have G__law_names := ok__law_names (P := l.prog) (w := w) (base := base) T G__law_pick
  have G_is_row := ok_is_row (P := l.prog) (w := w) (base := base) T 
  have G_is_integer := ok_is_integer (P := l.prog) (w := w) (base := base) T 
  have G_is_word := ok_is_word (P := l.prog) (w := w) (base := base) T 
  have G_wrong_person := ok_wrong_person (P := l.prog) (w := w) (base := base) T G_is_row G_is_integer G_is_word
  have G_wrong_people := ok_wrong_people (P := l.prog) (w := w) (base := base) T G_wrong_person
  have G_Standing_init := ok_Standing_init (P := l.prog) (w := w) (base := base) T G_wrong_people
  have G__law_made := ok__law_made (P := l.prog) (w := w) (base := base) T G_Standing_init
  have G__law_mixed := ok__law_mixed (P := l.prog) (w := w) (base := base) T G__law_pick
  have G__law_of := ok__law_of (P := l.prog) (w := w) (base := base) T G__law_pick
  have G__law_world := ok__law_world (P := l.prog) (w := w) (base := base) T G__law_pick G__law_names G__law_made G__law_mixed G__law_of
  have G__law_at := ok__law_at (P := l.prog) (w := w) (base := base) T G__law_made
  have G__law_spots := ok__law_spots (P := l.prog) (w := w) (base := base) T 
  have G__law_crowded := ok__law_crowded (P := l.prog) (w := w) (base := base) T G__law_pick G__law_world G__law_at G__law_spots
  have G__law_by_turns := ok__law_by_turns (P := l.prog) (w := w) (base := base) T 
  have G_Standing_has_name := ok_Standing_has_name (P := l.prog) (w := w) (base := base) T G_is_word
  have G_Standing_person := ok_Standing_person (P := l.prog) (w := w) (base := base) T G_Standing_has_name
  have G_Standing_place := ok_Standing_place (P := l.prog) (w := w) (base := base) T G_Standing_person
  have G_Standing_names := ok_Standing_names (P := l.prog) (w := w) (base := base) T 
  have G_Standing_line := ok_Standing_line (P := l.prog) (w := w) (base := base) T G_Standing_place G_Standing_names
  have G_Standing_voice := ok_Standing_voice (P := l.prog) (w := w) (base := base) T G_Standing_person
  have G_with_voice := ok_with_voice (P := l.prog) (w := w) (base := base) T G_Standing_line G_Standing_voice
  have G_Standing_people := ok_Standing_people (P := l.prog) (w := w) (base := base) T 
  have G_voice_places := ok_voice_places (P := l.prog) (w := w) (base := base) T G_Standing_people
  have G_turn_sum := ok_turn_sum (P := l.prog) (w := w) (base := base) T G_voice_places
  have G_Standing_voices := ok_Standing_voices (P := l.prog) (w := w) (base := base) T G_Standing_people
  have G_wished_steps := ok_wished_steps (P := l.prog) (w := w) (base := base) T G_with_voice G_turn_sum G_Standing_voices
  have G_need_odd := ok_need_odd (P := l.prog) (w := w) (base := base) T G_Standing_voices
  have G_meeting_place := ok_meeting_place (P := l.prog) (w := w) (base := base) T G_turn_sum G_need_odd
  have G__law_turned_voices := ok__law_turned_voices (P := l.prog) (w := w) (base := base) T G__law_made
  have G__law_stepped := ok__law_stepped (P := l.prog) (w := w) (base := base) T 
  have G__law_voices := ok__law_voices (P := l.prog) (w := w) (base := base) T 
  have G__law_is_whole := ok__law_is_whole (P := l.prog) (w := w) (base := base) T 
  have G__law_verdict := ok__law_verdict (P := l.prog) (w := w) (base := base) T G__law_at G__law_spots G__law_by_turns G__law_turned_voices G__law_stepped G__law_voices G__law_is_whole
  have G_exchanged := ok_exchanged (P := l.prog) (w := w) (base := base) T G_Standing_init G_Standing_person G_Standing_people
  have G_moved_person := ok_moved_person (P := l.prog) (w := w) (base := base) T G_Standing_voice G_exchanged
  have G_voiced := ok_voiced (P := l.prog) (w := w) (base := base) T G_Standing_place G_exchanged
  have G_wished := ok_wished (P := l.prog) (w := w) (base := base) T G_Standing_place G_Standing_voice G_moved_person G_voiced
  have G_is_row_wishes := ok_is_row_wishes (P := l.prog) (w := w) (base := base) T G_is_integer
  have G_has_form := ok_has_form (P := l.prog) (w := w) (base := base) T G_is_row_wishes
  have G_judge_wish := ok_judge_wish (P := l.prog) (w := w) (base := base) T G_Standing_has_name G_turn_sum G_Standing_voices G_wished G_has_form
  exact ok_law (P := l.prog) (w := w) (base := base) (A := callerA) T rfl ⟨rfl, by decide, by decide⟩ G__law_source G__law_pick G__law_made G__law_of G__law_world G__law_at G__law_spots G__law_crowded G__law_by_turns G_wished_steps G_meeting_place G__law_stepped G__law_verdict G_judge_wish
theorem meets_law {K : PySem.W.Frag} {H : Hp} {a : Addr} {ns : List Int} (hn : ns.length ≤ 63) (hs : SqL K H a (ns.map V.int)) : spD K srcW (c_law C0) [.ref a] H (fun v _ => v = .bl true) fun _ _ _ => False := by
  refine ⟨H, none, [.kt (intsD ns)], fun r _ => r = .sh (.bl true), fun _ _ => False, L2.Same.refl H, trivial, fun a ha => (nomatch ha), .cons ?_ .nil, ⟨ns, rfl, Nat.le_trans hn (by decide), rfl, fun _ => rfl⟩, ?_, fun _ _ _ _ _ _ _ _ z => z⟩
  · unfold Rep
    exact ⟨a, _, rfl, hs, ints_rep ns⟩
  · rintro v H' F' t' r _ hr rfl
    exact (rep_bl (K := K) (F := F')).mp hr
theorem walk_law {l : PySem.W.OpenLaw} {q : Program} {loose : List Str} {XP : (Str → Option Value) → Heap → Prop} {YP : World → Heap → Prop} {d : DefRec} {K : Params → PySem.W.Frag} (hn : l.most = some 63) (hdf : d.params.defaults = [])
    (hY : ∀ (w : World) (h : Heap), YP w h → (K w.params).In h)
    (F : ∀ (w : World) (mg : Str → Option Value) (fa : Addr) (h : Heap), (K w.params).In h → h.Ns mainGlobals mg → mg d.name = some (.ref fa) →
      ∃ fd : FuncData, (∀ (s : Shared) (u : Value), BindsTo s fd ⟨[u], []⟩ [("_law_script", u)]) ∧ ∀ base : Heap, (K w.params).In base → base.Ns mainGlobals mg → RunAt l.prog w (K w.params) mg base callerA fa fd ["_law_script"] (spD (K w.params) srcW (c_law C0))) :
    PySem.W.WalkO q loose XP YP l.row.toRowW d [] (fun f vs => PySem.call f vs) :=
  walk_at (n := 63) (k := 0) (x := "_law_script") (sp := fun w => spD (K w.params) srcW (c_law C0)) hn (by decide) hdf hY F (fun _ _ _ ns hl _ _ hS => meets_law hl hS) fun _ _ _ _ _ ⟨_, _, _, _, _, _, _, _, _, _, _, _, z⟩ => z
end VL
open PySem PySem.W PyProof.Rows
set_option maxRecDepth 100000 in
set_option maxHeartbeats 0 in
theorem PySem.Challenge.cw_oddcrowds_k76_whole_steps_wished_holds : PySem.Challenge.rw_oddcrowds_k76_whole_steps_wished.Holds := by
  w_on; o_law; k_head; (case hw => w_witness2)
  k_fill
  refine VL.walk_law (l := PySem.Challenge.rw_oddcrowds_k76_whole_steps_wished) rfl rfl (fun w h Y => PySem.W.kIn_of Y) ?F
  case F =>
    intro w mg fa h KX G hmg
    refine' VL.all_mk KX G hmg ?aC_Standing ?pg_Standing ?hd_Standing ?po_Standing ?sa_Standing ?ha__law_source ?hl__law_source ?hc__law_source ?hk__law_source ?ha__law_pick ?hl__law_pick ?hc__law_pick ?hk__law_pick ?ha__law_names ?hl__law_names ?hc__law_names ?hk__law_names ?ha_is_row ?hl_is_row ?hc_is_row ?hk_is_row ?ha_is_integer ?hl_is_integer ?hc_is_integer ?hk_is_integer ?ha_is_word ?hl_is_word ?hc_is_word ?hk_is_word ?ha_wrong_person ?hl_wrong_person ?hc_wrong_person ?hk_wrong_person ?ha_wrong_people ?hl_wrong_people ?hc_wrong_people ?hk_wrong_people ?ha_Standing_init ?hi_Standing_init ?hl_Standing_init ?hc_Standing_init ?hk_Standing_init ?mk_Standing ?kc_Standing ?ha__law_made ?hl__law_made ?hc__law_made ?hk__law_made ?ha__law_mixed ?hl__law_mixed ?hc__law_mixed ?hk__law_mixed ?ha__law_of ?hl__law_of ?hc__law_of ?hk__law_of ?ha__law_world ?hl__law_world ?hc__law_world ?hk__law_world ?ha__law_at ?hl__law_at ?hc__law_at ?hk__law_at ?ha__law_spots ?hl__law_spots ?hc__law_spots ?hk__law_spots ?ha__law_crowded ?hl__law_crowded ?hc__law_crowded ?hk__law_crowded ?ha__law_by_turns ?hl__law_by_turns ?hc__law_by_turns ?hk__law_by_turns ?ha_Standing_has_name ?hi_Standing_has_name ?hl_Standing_has_name ?hc_Standing_has_name ?hk_Standing_has_name ?ha_Standing_person ?hi_Standing_person ?hl_Standing_person ?hc_Standing_person ?hk_Standing_person ?ha_Standing_place ?hi_Standing_place ?hl_Standing_place ?hc_Standing_place ?hk_Standing_place ?gf_Standing_place ?tk_Standing_place ?fi_Standing_place ?ha_Standing_names ?hi_Standing_names ?hl_Standing_names ?hc_Standing_names ?hk_Standing_names ?ha_Standing_line ?hi_Standing_line ?hl_Standing_line ?hc_Standing_line ?hk_Standing_line ?ha_Standing_voice ?hi_Standing_voice ?hl_Standing_voice ?hc_Standing_voice ?hk_Standing_voice ?ha_with_voice ?hl_with_voice ?hc_with_voice ?hk_with_voice ?ha_Standing_people ?hi_Standing_people ?hl_Standing_people ?hc_Standing_people ?hk_Standing_people ?ha_voice_places ?hl_voice_places ?hc_voice_places ?hk_voice_places ?ha_turn_sum ?hl_turn_sum ?hc_turn_sum ?hk_turn_sum ?ha_Standing_voices ?hi_Standing_voices ?hl_Standing_voices ?hc_Standing_voices ?hk_Standing_voices ?ha_wished_steps ?hl_wished_steps ?hc_wished_steps ?hk_wished_steps ?ha_need_odd ?hl_need_odd ?hc_need_odd ?hk_need_odd ?ha_meeting_place ?hl_meeting_place ?hc_meeting_place ?hk_meeting_place ?ha__law_turned_voices ?hl__law_turned_voices ?hc__law_turned_voices ?hk__law_turned_voices ?ha__law_stepped ?hl__law_stepped ?hc__law_stepped ?hk__law_stepped ?ha__law_voices ?hl__law_voices ?hc__law_voices ?hk__law_voices ?ha__law_is_whole ?hl__law_is_whole ?hc__law_is_whole ?hk__law_is_whole ?ha__law_verdict ?hl__law_verdict ?hc__law_verdict ?hk__law_verdict ?ha_exchanged ?hl_exchanged ?hc_exchanged ?hk_exchanged ?ha_moved_person ?hl_moved_person ?hc_moved_person ?hk_moved_person ?ha_voiced ?hl_voiced ?hc_voiced ?hk_voiced ?ha_wished ?hl_wished ?hc_wished ?hk_wished ?ha_is_row_wishes ?hl_is_row_wishes ?hc_is_row_wishes ?hk_is_row_wishes ?ha_has_form ?hl_has_form ?hc_has_form ?hk_has_form ?ha_judge_wish ?hl_judge_wish ?hc_judge_wish ?hk_judge_wish ?ha_law ?hl_law ?hc_law ?hk_law ?al_is_row_wishes ?al_is_row_words ?n_Standing_own_people ?kk_LETTERS ?kk_FIGURES ?xg_EvenVoices ?xx_EvenVoices ?xk_EvenVoices ?xs_EvenVoices ?xt_EvenVoices ?xi_EvenVoices ?xq_EvenVoices_EvenVoices ?z_abs ?z_all ?z_bool ?z_dict ?z_enumerate ?z_int ?z_isinstance ?z_len ?z_list ?z_max ?z_range ?z_repr ?z_sorted ?z_str ?z_sum ?z_tuple ?z_zip
    (case aC_Standing => k_is)
    (case pg_Standing => k_is)
    (case hd_Standing => k_is)
    (case po_Standing => k_is)
    (case sa_Standing => k_is)
    (case ha__law_source => k_is)
    (case hl__law_source => k_is)
    (case hc__law_source => k_is)
    (case hk__law_source => k_is)
    (case ha__law_pick => k_is)
    (case hl__law_pick => k_is)
    (case hc__law_pick => k_is)
    (case hk__law_pick => k_is)
    (case ha__law_names => k_is)
    (case hl__law_names => k_is)
    (case hc__law_names => k_is)
    (case hk__law_names => k_is)
    (case ha_is_row => k_is)
    (case hl_is_row => k_is)
    (case hc_is_row => k_is)
    (case hk_is_row => k_is)
    (case ha_is_integer => k_is)
    (case hl_is_integer => k_is)
    (case hc_is_integer => k_is)
    (case hk_is_integer => k_is)
    (case ha_is_word => k_is)
    (case hl_is_word => k_is)
    (case hc_is_word => k_is)
    (case hk_is_word => k_is)
    (case ha_wrong_person => k_is)
    (case hl_wrong_person => k_is)
    (case hc_wrong_person => k_is)
    (case hk_wrong_person => k_is)
    (case ha_wrong_people => k_is)
    (case hl_wrong_people => k_is)
    (case hc_wrong_people => k_is)
    (case hk_wrong_people => k_is)
    (case ha_Standing_init => k_is)
    (case hi_Standing_init => k_is)
    (case hl_Standing_init => k_is)
    (case hc_Standing_init => k_is)
    (case hk_Standing_init => k_is)
    (case mk_Standing => k_is)
    (case kc_Standing => k_is)
    (case ha__law_made => k_is)
    (case hl__law_made => k_is)
    (case hc__law_made => k_is)
    (case hk__law_made => k_is)
    (case ha__law_mixed => k_is)
    (case hl__law_mixed => k_is)
    (case hc__law_mixed => k_is)
    (case hk__law_mixed => k_is)
    (case ha__law_of => k_is)
    (case hl__law_of => k_is)
    (case hc__law_of => k_is)
    (case hk__law_of => k_is)
    (case ha__law_world => k_is)
    (case hl__law_world => k_is)
    (case hc__law_world => k_is)
    (case hk__law_world => k_is)
    (case ha__law_at => k_is)
    (case hl__law_at => k_is)
    (case hc__law_at => k_is)
    (case hk__law_at => k_is)
    (case ha__law_spots => k_is)
    (case hl__law_spots => k_is)
    (case hc__law_spots => k_is)
    (case hk__law_spots => k_is)
    (case ha__law_crowded => k_is)
    (case hl__law_crowded => k_is)
    (case hc__law_crowded => k_is)
    (case hk__law_crowded => k_is)
    (case ha__law_by_turns => k_is)
    (case hl__law_by_turns => k_is)
    (case hc__law_by_turns => k_is)
    (case hk__law_by_turns => k_is)
    (case ha_Standing_has_name => k_is)
    (case hi_Standing_has_name => k_is)
    (case hl_Standing_has_name => k_is)
    (case hc_Standing_has_name => k_is)
    (case hk_Standing_has_name => k_is)
    (case ha_Standing_person => k_is)
    (case hi_Standing_person => k_is)
    (case hl_Standing_person => k_is)
    (case hc_Standing_person => k_is)
    (case hk_Standing_person => k_is)
    (case ha_Standing_place => k_is)
    (case hi_Standing_place => k_is)
    (case hl_Standing_place => k_is)
    (case hc_Standing_place => k_is)
    (case hk_Standing_place => k_is)
    (case gf_Standing_place => k_is)
    (case tk_Standing_place => k_is)
    (case fi_Standing_place => k_is)
    (case ha_Standing_names => k_is)
    (case hi_Standing_names => k_is)
    (case hl_Standing_names => k_is)
    (case hc_Standing_names => k_is)
    (case hk_Standing_names => k_is)
    (case ha_Standing_line => k_is)
    (case hi_Standing_line => k_is)
    (case hl_Standing_line => k_is)
    (case hc_Standing_line => k_is)
    (case hk_Standing_line => k_is)
    (case ha_Standing_voice => k_is)
    (case hi_Standing_voice => k_is)
    (case hl_Standing_voice => k_is)
    (case hc_Standing_voice => k_is)
    (case hk_Standing_voice => k_is)
    (case ha_with_voice => k_is)
    (case hl_with_voice => k_is)
    (case hc_with_voice => k_is)
    (case hk_with_voice => k_is)
    (case ha_Standing_people => k_is)
    (case hi_Standing_people => k_is)
    (case hl_Standing_people => k_is)
    (case hc_Standing_people => k_is)
    (case hk_Standing_people => k_is)
    (case ha_voice_places => k_is)
    (case hl_voice_places => k_is)
    (case hc_voice_places => k_is)
    (case hk_voice_places => k_is)
    (case ha_turn_sum => k_is)
    (case hl_turn_sum => k_is)
    (case hc_turn_sum => k_is)
    (case hk_turn_sum => k_is)
    (case ha_Standing_voices => k_is)
    (case hi_Standing_voices => k_is)
    (case hl_Standing_voices => k_is)
    (case hc_Standing_voices => k_is)
    (case hk_Standing_voices => k_is)
    (case ha_wished_steps => k_is)
    (case hl_wished_steps => k_is)
    (case hc_wished_steps => k_is)
    (case hk_wished_steps => k_is)
    (case ha_need_odd => k_is)
    (case hl_need_odd => k_is)
    (case hc_need_odd => k_is)
    (case hk_need_odd => k_is)
    (case ha_meeting_place => k_is)
    (case hl_meeting_place => k_is)
    (case hc_meeting_place => k_is)
    (case hk_meeting_place => k_is)
    (case ha__law_turned_voices => k_is)
    (case hl__law_turned_voices => k_is)
    (case hc__law_turned_voices => k_is)
    (case hk__law_turned_voices => k_is)
    (case ha__law_stepped => k_is)
    (case hl__law_stepped => k_is)
    (case hc__law_stepped => k_is)
    (case hk__law_stepped => k_is)
    (case ha__law_voices => k_is)
    (case hl__law_voices => k_is)
    (case hc__law_voices => k_is)
    (case hk__law_voices => k_is)
    (case ha__law_is_whole => k_is)
    (case hl__law_is_whole => k_is)
    (case hc__law_is_whole => k_is)
    (case hk__law_is_whole => k_is)
    (case ha__law_verdict => k_is)
    (case hl__law_verdict => k_is)
    (case hc__law_verdict => k_is)
    (case hk__law_verdict => k_is)
    (case ha_exchanged => k_is)
    (case hl_exchanged => k_is)
    (case hc_exchanged => k_is)
    (case hk_exchanged => k_is)
    (case ha_moved_person => k_is)
    (case hl_moved_person => k_is)
    (case hc_moved_person => k_is)
    (case hk_moved_person => k_is)
    (case ha_voiced => k_is)
    (case hl_voiced => k_is)
    (case hc_voiced => k_is)
    (case hk_voiced => k_is)
    (case ha_wished => k_is)
    (case hl_wished => k_is)
    (case hc_wished => k_is)
    (case hk_wished => k_is)
    (case ha_is_row_wishes => k_is)
    (case hl_is_row_wishes => k_is)
    (case hc_is_row_wishes => k_is)
    (case hk_is_row_wishes => k_is)
    (case ha_has_form => k_is)
    (case hl_has_form => k_is)
    (case hc_has_form => k_is)
    (case hk_has_form => k_is)
    (case ha_judge_wish => k_is)
    (case hl_judge_wish => k_is)
    (case hc_judge_wish => k_is)
    (case hk_judge_wish => k_is)
    (case ha_law => k_is)
    (case hl_law => k_is)
    (case hc_law => k_is)
    (case hk_law => k_is)
    (case al_is_row_wishes => k_is)
    (case al_is_row_words => k_is)
    (case n_Standing_own_people => k_is)
    (case kk_LETTERS => k_is)
    (case kk_FIGURES => k_is)
    (case xg_EvenVoices => k_is)
    (case xx_EvenVoices => k_exc)
    (case xk_EvenVoices => k_is)
    (case xs_EvenVoices => k_is)
    (case xt_EvenVoices => k_is)
    (case xi_EvenVoices => k_is)
    (case xq_EvenVoices_EvenVoices => k_is)
    (case z_abs => k_is)
    (case z_all => k_is)
    (case z_bool => k_is)
    (case z_dict => k_is)
    (case z_enumerate => k_is)
    (case z_int => k_is)
    (case z_isinstance => k_is)
    (case z_len => k_is)
    (case z_list => k_is)
    (case z_max => k_is)
    (case z_range => k_is)
    (case z_repr => k_is)
    (case z_sorted => k_is)
    (case z_str => k_is)
    (case z_sum => k_is)
    (case z_tuple => k_is)
    (case z_zip => k_is)

