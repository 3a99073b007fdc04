import Derived.Test.YtdilbnmaihmgnaaPl15b
namespace Go.Own.Gr
open Go Go.Own Go.Own.R Go.Own.G
theorem any_idx {n : Nat} {m : Int} {l : List Int} (hm : m = (n : Int)) (h : 0 ≤ idxFG (fun x => decide (x < 0 ∨ m < x)) l) : l.any (noB n) = true := by
  subst hm
  obtain ⟨k, y, _, hy, hp, _⟩ := idxF_specG (p := fun x => decide (x < 0 ∨ (n : Int) < x)) (l := l) (by omega)
  exact List.any_eq_true.2 ⟨y, List.mem_of_getElem? hy, hp⟩
theorem idx_any {n : Nat} {m : Int} {l : List Int} (hm : m = (n : Int)) (h : l.any (noB n) = true) : 0 ≤ idxFG (fun x => decide (x < 0 ∨ m < x)) l := by
  subst hm
  apply Classical.byContradiction
  intro q
  have e : idxFG (fun x => decide (x < 0 ∨ (n : Int) < x)) l = -1 := by have := (idxF_bdG (fun x => decide (x < 0 ∨ (n : Int) < x)) l).1; omega
  have := fl_noG e
  obtain ⟨y, hy, hp⟩ := List.any_eq_true.1 h
  rw [this] at hy
  have h2 := (List.mem_filter.1 hy).2
  unfold noB at hp
  simp only [hp] at h2; cases h2
theorem no_idx {n : Nat} {m : Int} {l : List Int} (hm : m = (n : Int)) (h : ¬ 0 ≤ idxFG (fun x => decide (x < 0 ∨ m < x)) l) : l.any (noB n) = false := by
  cases e : l.any (noB n)
  · rfl
  · exact absurd (idx_any hm e) h
end Go.Own.Gr
