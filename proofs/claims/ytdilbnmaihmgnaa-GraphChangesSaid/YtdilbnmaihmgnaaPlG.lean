import Derived.Test.YtdilbnmaihmgnaaSp11
/-! the library's IndexFunc and DeleteFunc over any elements -/
namespace Go.Own.G
open Go Go.Own
variable {α : Type}
def idxFG (p : α → Bool) (l : List α) : Int := match l.findIdx? p with | some i => (i : Int) | none => -1
theorem idxF_noG {p : α → Bool} {l : List α} (h : ∀ i, i < l.length → ∀ x, l[i]? = some x → p x = false) : idxFG p l = -1 := by
  have : l.findIdx? p = none := by
    rw [List.findIdx?_eq_none_iff]; intro x hx
    obtain ⟨i, hi, rfl⟩ := List.mem_iff_getElem.1 hx
    exact h i hi _ (List.getElem?_eq_getElem hi)
  unfold idxFG; rw [this]
theorem idxF_atG {p : α → Bool} {l : List α} {k : Nat} {y : α} (hn : ∀ i, i < k → ∀ x, l[i]? = some x → p x = false) (hy : l[k]? = some y) (h : p y = true) : idxFG p l = k := by
  obtain ⟨hk, rfl⟩ := List.getElem?_eq_some_iff.1 hy
  have : l.findIdx? p = some k := by
    rw [List.findIdx?_eq_some_iff_getElem]
    refine ⟨hk, h, fun j hj => ?_⟩
    have := hn j hj _ (List.getElem?_eq_getElem (by omega)); simp [this]
  unfold idxFG; rw [this]
theorem no_stepG {p : α → Bool} {l : List α} {k : Nat} {y : α} (hn : ∀ i, i < k → ∀ x, l[i]? = some x → p x = false) (hy : l[k]? = some y) (h : p y = false) : ∀ i, i < k + 1 → ∀ x, l[i]? = some x → p x = false := by
  intro i hi x hx
  by_cases e : i = k
  · subst e; rw [hy] at hx; cases hx; exact h
  · exact hn i (by omega) x hx
theorem idxF_bdG (p : α → Bool) (l : List α) : -1 ≤ idxFG p l ∧ idxFG p l < l.length := by
  unfold idxFG
  cases h : l.findIdx? p with
  | none => simp; omega
  | some i =>
    rw [List.findIdx?_eq_some_iff_getElem] at h
    obtain ⟨hi, _⟩ := h
    simp; omega
theorem idxF_specG {p : α → Bool} {l : List α} (h : ¬ idxFG p l = -1) : ∃ (k : Nat) (y : α), idxFG p l = (k : Int) ∧ l[k]? = some y ∧ p y = true ∧ ∀ i, i < k → ∀ x, l[i]? = some x → p x = false := by
  unfold idxFG at h ⊢
  cases e : l.findIdx? p with
  | none => rw [e] at h; exact absurd rfl h
  | some k =>
    rw [List.findIdx?_eq_some_iff_getElem] at e
    obtain ⟨hk, h1, h2⟩ := e
    refine ⟨k, l[k], rfl, List.getElem?_eq_getElem hk, h1, fun i hi x hx => ?_⟩
    obtain ⟨hi2, rfl⟩ := List.getElem?_eq_some_iff.1 hx
    simpa using h2 i hi
def flG (p : α → Bool) (l : List α) : List α := l.filter fun x => !p x
theorem fl_noG {p : α → Bool} {l : List α} (h : idxFG p l = -1) : l = flG p l := by
  unfold flG; symm; rw [List.filter_eq_self]
  intro x hx
  unfold idxFG at h
  cases e : l.findIdx? p with
  | none => rw [List.findIdx?_eq_none_iff] at e; simp [e x hx]
  | some k => rw [e] at h; simp at h <;> omega
def dfDG (p : α → Bool) (l gar : List α) (j : Nat) : List α := flG p (l.take j) ++ gar ++ l.drop j
end Go.Own.G
