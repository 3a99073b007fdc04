import Derived.Test.YtdilbnmaihmgnaaPl19
import Derived.Lib.SlicesCompact
namespace Go.Own.R
open Go Go.Own
/-! Into -/
def hitB (f t a : Int) : Bool := decide (¬ a = 0 ∧ f ≤ a ∧ a < t)
def inE (l : List Int) (f t : Int) : Int := if (ckR l).2 ≠ 0 then (ckR l).2 else if f < 0 ∨ 1601 < t ∨ t < f then 7 else if l.countP (hitB f t) = 0 then 4 else 0
def inN (l : List Int) (f t : Int) : Int := if inE l f t ≠ 0 then 0 else ((l.countP (hitB f t) : Nat) : Int)
def inI (l : List Int) (f t : Int) : Int := if inE l f t ≠ 0 then 0 else idxF (hitB f t) l
/-- behind k registers: the first that is hit. -/
def inK (l : List Int) (f t : Int) (k : Nat) : Int := idxF (hitB f t) (l.take k)
def inC (l : List Int) (f t : Int) (k : Nat) : Int := (((l.take k).countP (hitB f t) : Nat) : Int)
/-! Targets -/
def sortL (l : List Int) : List Int := l.mergeSort fun x y => decide (x ≤ y)
theorem sortL_len (l : List Int) : (sortL l).length = l.length := List.length_mergeSort _
theorem sortL_mem {l : List Int} {x : Int} : x ∈ sortL l ↔ x ∈ l := List.mem_mergeSort
theorem sortL_asc (l : List Int) : (sortL l).Pairwise (fun x y => x ≤ y) := by
  have h := List.pairwise_mergeSort (le := fun x y : Int => decide (x ≤ y)) (fun a b c h1 h2 => by simp at *; omega) (fun a b => by simp; omega) l
  exact h.imp (fun h => by simpa using h)
theorem asc_unique : ∀ {xs ys : List Int}, xs.Pairwise (· < ·) → ys.Pairwise (· < ·) → (∀ a, a ∈ xs ↔ a ∈ ys) → xs = ys
  | [], [], _, _, _ => rfl
  | [], y :: ys, _, _, h => absurd ((h y).2 (by simp)) (by simp)
  | x :: xs, [], _, _, h => absurd ((h x).1 (by simp)) (by simp)
  | x :: xs, y :: ys, h1, h2, h => by
    rw [List.pairwise_cons] at h1 h2
    have e : x = y := by
      have a := (h x).1 (by simp)
      have b := (h y).2 (by simp)
      rcases List.mem_cons.1 a with a | a
      · exact a
      · rcases List.mem_cons.1 b with b | b
        · exact b.symm
        · have := h1.1 _ b; have := h2.1 _ a; omega
    subst e
    rw [asc_unique h1.2 h2.2 fun a => ?_]
    constructor
    · intro ha
      have := h1.1 a ha
      rcases List.mem_cons.1 ((h a).1 (List.mem_cons_of_mem _ ha)) with q | q
      · omega
      · exact q
    · intro ha
      have := h2.1 a ha
      rcases List.mem_cons.1 ((h a).2 (List.mem_cons_of_mem _ ha)) with q | q
      · omega
      · exact q
def tgK (l : List Int) (k : Nat) : List Int := ((List.range k).map fun (i : Nat) => ((i : Int) + 1)).filter fun a => decide (a ∈ l)
def tgT (l : List Int) : List Int := if (ckR l).2 ≠ 0 then [] else tgK l 1600
theorem tgK_len (l : List Int) (k : Nat) : (tgK l k).length ≤ k := by unfold tgK; exact Nat.le_trans (List.length_filter_le _ _) (by simp)
theorem tgK_asc (l : List Int) (k : Nat) : (tgK l k).Pairwise (· < ·) := by
  unfold tgK
  exact List.Pairwise.filter _ (List.pairwise_map.2 (List.pairwise_lt_range.imp fun h => by omega))
theorem tgK_mem {l : List Int} {k : Nat} {x : Int} : x ∈ tgK l k ↔ 1 ≤ x ∧ x ≤ k ∧ x ∈ l := by
  unfold tgK
  rw [List.mem_filter]
  constructor
  · rintro ⟨h1, h2⟩
    obtain ⟨i, hi, rfl⟩ := List.mem_map.1 h1
    rw [List.mem_range] at hi
    exact ⟨by omega, by omega, by simpa using h2⟩
  · rintro ⟨h1, h2, h3⟩
    exact ⟨List.mem_map.2 ⟨(x - 1).toNat, List.mem_range.2 (by omega), by omega⟩, by simpa using h3⟩
end Go.Own.R
