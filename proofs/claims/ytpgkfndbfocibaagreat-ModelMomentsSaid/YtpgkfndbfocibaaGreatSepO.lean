import Derived.Test.YtpgkfndbfocibaaGreatSepQ
import Derived.Test.YtpgkfndbfocibaaGreatSepH
namespace Go.Own
open Go Go.RowKit
section
variable {P : Program} {ops : Array Oper} {l : List Oper} {o : Oper} {A : Act} {Q : Exit → Act → World → Prop} {w0 w : World} {X : Nat → Prop} {cs : List HP} {c : HP} {d : Tmp} {n s : Nat} {v v1 : Value} {xs ys : List Value} {x y : Operand} {T dT el : TypeId}
end
end Go.Own

namespace Go.Own
open Go Go.RowKit
def owl (k : IntKind) (L : List (Value × List Int)) : HP where
 p w f := ∃ fs : Nat → Nat → Prop, (∀ (i : Nat) (y : Value × List Int), L[i]? = some y → (io k y.1 y.2).p w (fs i)) ∧ (∀ i b, fs i b → i < L.length ∧ f b) ∧ ∀ i j b, fs i b → fs j b → i = j
 loc := fun ⟨fs, h1, h2, h3⟩ hlt hb => ⟨fs, fun i y hy => (io k y.1 y.2).loc (h1 i y hy) (fun b hf => hlt b (h2 i b hf).2) fun b hf => hb b (h2 i b hf).2, h2, h3⟩
def nilp : Value × List Int := (.slice none 0 0, [])
theorem io_nil {k : IntKind} {w : World} : (io k nilp.1 nilp.2).p w fun _ => False := ⟨rfl, .inl ⟨none, rfl, rfl, fun b e => by cases e⟩⟩
section
variable {w0 w : World} {X : Nat → Prop} {l : List HP} {k : IntKind} {L : List (Value × List Int)} {v : Value} {xs : List Int}
theorem St.emp {c : HP} (h : St w0 X l w) (hc : c.p w fun _ => False) : St w0 X (c :: l) w := h.push (Ext.rfl' w) hc fun _ hb => hb.elim
theorem owl_nils (n : Nat) (h : St w0 X l w) : St w0 X (owl k (List.replicate n nilp) :: l) w :=
 h.emp ⟨fun _ _ => False, fun i y hy => by
  have : y = nilp := List.eq_of_mem_replicate (List.mem_of_getElem? hy)
  subst this; exact io_nil, fun _ _ h => h.elim, fun _ _ _ h => h.elim⟩
theorem St.two {a b c : HP} (h : St w0 X (a :: b :: l) w) (hc : ∀ f g : Nat → Prop, a.p w f → b.p w g → (∀ q, f q → ¬ g q) → ∃ f', c.p w f' ∧ ∀ q, f' q → f q ∨ g q) : St w0 X (c :: l) w := by
 obtain ⟨he, fs, h1, h2, h3⟩ := h
 obtain ⟨f', k1, k2⟩ := hc (fs 0) (fs 1) (h1 0 a rfl) (h1 1 b rfl) fun q p1 p2 => by have := h3 0 1 q p1 p2; omega
 refine ⟨he, fun i b => if i = 0 then f' b else fs (i + 1) b, fun i d hd => ?_, fun i b hb => ?_, fun i j b hi hj => ?_⟩
 ·cases i with
  | zero => simp at hd; subst hd; exact HP.eq_p (by funext b; simp) k1
  | succ i => exact HP.eq_p (by funext b; simp) (h1 (i + 2) d (by simpa using hd))
 ·by_cases e : i = 0
  ·subst e
   simp only [if_true] at hb
   rcases k2 b hb with q | q
   ·exact ⟨by simp, (h2 0 b q).2⟩
   ·exact ⟨by simp, (h2 1 b q).2⟩
  ·simp only [e, if_false] at hb
   have := h2 _ b hb
   exact ⟨by simp at this ⊢; omega, this.2⟩
 ·have key : ∀ i b, i ≠ 0 → f' b → fs (i + 1) b → False := fun i b hi hf hs => by
   rcases k2 b hf with q | q
   ·have := h3 _ _ b q hs; omega
   ·have := h3 _ _ b q hs; omega
  by_cases ei : i = 0 <;> by_cases ej : j = 0
  ·omega
  ·simp only [ei, if_true, ej, if_false] at hi hj; exact (key j b ej hi hj).elim
  ·simp only [ei, if_false, ej, if_true] at hi hj; exact (key i b ei hj hi).elim
  ·simp only [ei, ej, if_false] at hi hj; have := h3 _ _ b hi hj; omega
theorem St.split {a b c : HP} (h : St w0 X (c :: l) w) (hc : ∀ f : Nat → Prop, c.p w f → ∃ f1 f2 : Nat → Prop, a.p w f1 ∧ b.p w f2 ∧ (∀ q, f1 q → f q) ∧ (∀ q, f2 q → f q) ∧ ∀ q, f1 q → ¬ f2 q) : St w0 X (a :: b :: l) w := by
 obtain ⟨he, fs, h1, h2, h3⟩ := h
 obtain ⟨f1, f2, k1, k2, k3, k4, k5⟩ := hc (fs 0) (h1 0 c rfl)
 refine ⟨he, fun i b => if i = 0 then f1 b else if i = 1 then f2 b else fs (i - 1) b, fun i d hd => ?_, fun i b hb => ?_, fun i j b hi hj => ?_⟩
 ·match i, hd with
  | 0, hd => simp at hd; subst hd; exact HP.eq_p (by funext b; simp) k1
  | 1, hd => simp at hd; subst hd; exact HP.eq_p (by funext b; simp) k2
  | i + 2, hd => exact HP.eq_p (by funext b; simp) (h1 (i + 1) d (by simpa using hd))
 ·by_cases e0 : i = 0
  ·subst e0; simp only [if_true] at hb; exact ⟨by simp, (h2 0 b (k3 b hb)).2⟩
  ·by_cases e1 : i = 1
   ·subst e1; simp at hb; exact ⟨by simp, (h2 0 b (k4 b hb)).2⟩
   ·simp only [e0, e1, if_false] at hb
    have := h2 _ b hb
    exact ⟨by simp at this ⊢; omega, this.2⟩
 ·have n1 : ∀ i b, i ≠ 0 → i ≠ 1 → f1 b → fs (i - 1) b → False := fun i b e0 e1 p q => by have := h3 _ _ b (k3 b p) q; omega
  have n2 : ∀ i b, i ≠ 0 → i ≠ 1 → f2 b → fs (i - 1) b → False := fun i b e0 e1 p q => by have := h3 _ _ b (k4 b p) q; omega
  by_cases i0 : i = 0 <;> by_cases j0 : j = 0
  ·omega
  ·by_cases j1 : j = 1
   ·simp [i0] at hi; simp [j0, j1] at hj; exact (k5 b hi hj).elim
   ·simp [i0] at hi; simp only [j0, j1, if_false] at hj; exact (n1 j b j0 j1 hi hj).elim
  ·by_cases i1 : i = 1
   ·simp [j0] at hj; simp [i0, i1] at hi; exact (k5 b hj hi).elim
   ·simp [j0] at hj; simp only [i0, i1, if_false] at hi; exact (n1 i b i0 i1 hj hi).elim
  ·by_cases i1 : i = 1 <;> by_cases j1 : j = 1
   ·omega
   ·simp [i0, i1] at hi; simp only [j0, j1, if_false] at hj; exact (n2 j b j0 j1 hi hj).elim
   ·simp [j0, j1] at hj; simp only [i0, i1, if_false] at hi; exact (n2 i b i0 i1 hj hi).elim
   ·simp only [i0, i1, j0, j1, if_false] at hi hj; have := h3 _ _ b hi hj; omega
theorem owl_push (h : St w0 X (io k v xs :: owl k L :: l) w) : St w0 X (owl k (L ++ [(v, xs)]) :: l) w :=
 h.two fun f g h1 ⟨fs, q1, q2, q3⟩ hd => ⟨fun b => f b ∨ g b, ⟨fun i b => if i = L.length then f b else fs i b, fun i y hy => by
   by_cases e : i = L.length
   ·subst e
    rw [List.getElem?_append_right (Nat.le_refl _), Nat.sub_self] at hy
    have : (v, xs) = y := by simpa using hy
    subst this
    exact HP.eq_p (by funext b; simp) h1
   ·have hlt : i < (L ++ [(v, xs)]).length := (List.getElem?_eq_some_iff.1 hy).1
    rw [List.length_append, List.length_singleton] at hlt
    rw [List.getElem?_append_left (by omega)] at hy
    exact HP.eq_p (by funext b; simp [e]) (q1 i y hy), fun i b hb => by
   rw [List.length_append, List.length_singleton]
   by_cases e : i = L.length
   ·simp only [e, if_true] at hb; exact ⟨by omega, .inl hb⟩
   ·simp only [e, if_false] at hb; have := q2 i b hb; exact ⟨by omega, .inr this.2⟩, fun i j b hi hj => by
   by_cases ei : i = L.length <;> by_cases ej : j = L.length
   ·omega
   ·simp only [ei, if_true] at hi; simp only [ej, if_false] at hj; exact absurd (q2 j b hj).2 (hd b hi)
   ·simp only [ej, if_true] at hj; simp only [ei, if_false] at hi; exact absurd (q2 i b hi).2 (hd b hj)
   ·simp only [ei, ej, if_false] at hi hj; exact q3 i j b hi hj⟩, fun _ h => h⟩
theorem owl_set {i : Nat} (hi : i < L.length) (h : St w0 X (io k v xs :: owl k L :: l) w) : St w0 X (owl k (L.set i (v, xs)) :: l) w :=
 h.two fun f g h1 ⟨fs, q1, q2, q3⟩ hd => ⟨fun b => f b ∨ g b, ⟨fun j b => if j = i then f b else fs j b, fun j y hy => by
   by_cases e : j = i
   ·subst e
    rw [List.getElem?_set_self hi] at hy
    have := Option.some.inj hy
    subst this
    exact HP.eq_p (by funext b; simp) h1
   ·rw [List.getElem?_set_ne (fun q => e q.symm)] at hy
    exact HP.eq_p (by funext b; simp [e]) (q1 j y hy), fun j b hb => by
   rw [List.length_set]
   by_cases e : j = i
   ·simp only [e, if_true] at hb; exact ⟨by omega, .inl hb⟩
   ·simp only [e, if_false] at hb; have := q2 j b hb; exact ⟨this.1, .inr this.2⟩, fun p q b hp hq => by
   by_cases ep : p = i <;> by_cases eq : q = i
   ·omega
   ·simp only [ep, if_true] at hp; simp only [eq, if_false] at hq; exact absurd (q2 q b hq).2 (hd b hp)
   ·simp only [eq, if_true] at hq; simp only [ep, if_false] at hp; exact absurd (q2 p b hp).2 (hd b hq)
   ·simp only [ep, eq, if_false] at hp hq; exact q3 p q b hp hq⟩, fun _ h => h⟩
theorem owl_out {i : Nat} {y : Value × List Int} (hy : L[i]? = some y) (h : St w0 X (owl k L :: l) w) : St w0 X (io k y.1 y.2 :: owl k (L.set i nilp) :: l) w :=
 h.split fun f ⟨fs, q1, q2, q3⟩ => ⟨fs i, fun b => ∃ j, j ≠ i ∧ fs j b, q1 i y hy, ⟨fun j b => j ≠ i ∧ fs j b, fun j z hz => by
   have hi := (List.getElem?_eq_some_iff.1 hy).1
   by_cases e : j = i
   ·subst e
    rw [List.getElem?_set_self hi] at hz
    have := Option.some.inj hz
    subst this
    exact HP.eq_p (by funext b; simp) io_nil
   ·rw [List.getElem?_set_ne (fun q => e q.symm)] at hz
    exact HP.eq_p (by funext b; simp [e]) (q1 j z hz), fun j b hb => ⟨by rw [List.length_set]; exact (q2 j b hb.2).1, j, hb⟩, fun p q b hp hq => q3 p q b hp.2 hq.2⟩,
  fun b hb => (q2 i b hb).2, fun b ⟨j, _, hj⟩ => (q2 j b hj).2, fun b hb ⟨j, hj, hjb⟩ => hj (q3 j i b hjb hb)⟩
theorem owl_at {i : Nat} {y : Value × List Int} (hy : L[i]? = some y) (h : (owl k L).at w) : (il k y.1 y.2).at w := by
 obtain ⟨f, fs, q1, _, _⟩ := h
 exact ow_sl_at ⟨fs i, q1 i y hy⟩
end
end Go.Own
