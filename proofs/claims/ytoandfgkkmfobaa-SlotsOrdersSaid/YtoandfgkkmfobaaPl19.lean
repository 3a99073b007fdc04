import Derived.Test.YtoandfgkkmfobaaSepM
import Derived.Test.YtoandfgkkmfobaaSp11
namespace Go.Own.R
open Go Go.Own
def outB (a : Int) : Bool := decide (a < 0 ∨ 1600 < a)
/-- the first place at which p holds, or -1. -/
def idxF (p : Int → Bool) (l : List Int) : Int := match l.findIdx? p with | some i => (i : Int) | none => -1
theorem idxF_no {p : Int → Bool} {l : List Int} (h : ∀ i, i < l.length → ∀ x, l[i]? = some x → p x = false) : idxF p l = -1 := by
  have : l.findIdx? p = none := by
    rw [List.findIdx?_eq_none_iff]; intro x hx
    obtain ⟨i, hi, rfl⟩ := List.mem_iff_getElem.1 hx
    exact h i hi _ (List.getElem?_eq_getElem hi)
  unfold idxF; rw [this]
theorem idxF_at {p : Int → Bool} {l : List Int} {k : Nat} {y : Int} (hn : ∀ i, i < k → ∀ x, l[i]? = some x → p x = false) (hy : l[k]? = some y) (h : p y = true) : idxF p l = k := by
  obtain ⟨hk, rfl⟩ := List.getElem?_eq_some_iff.1 hy
  have : l.findIdx? p = some k := by
    rw [List.findIdx?_eq_some_iff_getElem]
    refine ⟨hk, h, fun j hj => ?_⟩
    have := hn j hj _ (List.getElem?_eq_getElem (by omega)); simp [this]
  unfold idxF; rw [this]
theorem no_step {p : Int → Bool} {l : List Int} {k : Nat} {y : Int} (hn : ∀ i, i < k → ∀ x, l[i]? = some x → p x = false) (hy : l[k]? = some y) (h : p y = false) : ∀ i, i < k + 1 → ∀ x, l[i]? = some x → p x = false := by
  intro i hi x hx
  by_cases e : i = k
  · subst e; rw [hy] at hx; cases hx; exact h
  · exact hn i (by omega) x hx
theorem idxF_bd (p : Int → Bool) (l : List Int) : -1 ≤ idxF p l ∧ idxF p l < l.length := by
  unfold idxF
  cases h : l.findIdx? p with
  | none => simp; omega
  | some i =>
    rw [List.findIdx?_eq_some_iff_getElem] at h
    obtain ⟨hi, _⟩ := h
    simp; omega
def ckR (l : List Int) : Int × Int := if l.length < 1 ∨ 8 < l.length then (-1, 7) else if 0 ≤ idxF outB l then (idxF outB l, 7) else (0, 0)
theorem ckR_len {l : List Int} (h : (l.length : Int) < 1 ∨ 8 < (l.length : Int)) : ckR l = (-1, 7) := by unfold ckR; rw [if_pos (by omega)]
theorem ckR_bad {l : List Int} (h : ¬ ((l.length : Int) < 1 ∨ 8 < (l.length : Int))) (h2 : 0 ≤ idxF outB l) : ckR l = (idxF outB l, 7) := by unfold ckR; rw [if_neg (by omega), if_pos h2]
theorem ckR_ok {l : List Int} (h : ¬ ((l.length : Int) < 1 ∨ 8 < (l.length : Int))) (h2 : ¬ 0 ≤ idxF outB l) : ckR l = (0, 0) := by unfold ckR; rw [if_neg (by omega), if_neg h2]
theorem ckR_good {l : List Int} (h : (ckR l).2 = 0) : 1 ≤ l.length ∧ l.length ≤ 8 ∧ ∀ x ∈ l, 0 ≤ x ∧ x ≤ 1600 := by
  unfold ckR at h
  split at h
  · cases h
  · split at h
    · cases h
    · rename_i a b
      refine ⟨by omega, by omega, fun x hx => ?_⟩
      apply Classical.byContradiction
      intro hc
      obtain ⟨i, hi, rfl⟩ := List.mem_iff_getElem.1 hx
      have hne : l.findIdx? outB ≠ none := by
        intro e
        rw [List.findIdx?_eq_none_iff] at e
        have := e _ hx
        simp [outB] at this; omega
      unfold idxF at b
      cases e : l.findIdx? outB with
      | none => exact hne e
      | some j => rw [e] at b; simp at b <;> omega
/-! names -/
def inB (n : Nat) (a : Int) : Bool := decide (0 ≤ a ∧ a < n)
def nmE (l ns : List Int) : Int := if (ckR l).2 ≠ 0 then (ckR l).2 else if ns.all (inB l.length) then 0 else 10
def nmT (l ns : List Int) : List Int := if nmE l ns ≠ 0 then [] else l
theorem nmE_ck {l ns : List Int} (h : (ckR l).2 ≠ 0) : nmE l ns = (ckR l).2 := by unfold nmE; rw [if_pos h]
theorem nmE_bad {l ns : List Int} {j : Nat} {y : Int} (h : (ckR l).2 = 0) (hy : ns[j]? = some y) (hb : y < 0 ∨ (l.length : Int) ≤ y) : nmE l ns = 10 := by
  unfold nmE; rw [if_neg (by simpa using h), if_neg]
  intro ha
  have := List.all_eq_true.1 ha y (List.mem_of_getElem? hy)
  simp [inB] at this; omega
theorem nmE_ok {l ns : List Int} {j : Nat} (h : (ckR l).2 = 0) (hj : ∀ i, i < j → ∀ x, ns[i]? = some x → 0 ≤ x ∧ x < (l.length : Int)) (hl : ns.length ≤ j) : nmE l ns = 0 := by
  unfold nmE; rw [if_neg (by simpa using h), if_pos]
  rw [List.all_eq_true]; intro x hx
  obtain ⟨i, hi, rfl⟩ := List.mem_iff_getElem.1 hx
  have := hj i (by omega) _ (List.getElem?_eq_getElem hi)
  simp [inB]; omega
theorem nm_step {l ns : List Int} {j : Nat} {y : Int} (h : ∀ i, i < j → ∀ x, ns[i]? = some x → 0 ≤ x ∧ x < (l.length : Int)) (hy : ns[j]? = some y) (hr : 0 ≤ y ∧ y < (l.length : Int)) : ∀ i, i < j + 1 → ∀ x, ns[i]? = some x → 0 ≤ x ∧ x < (l.length : Int) := by
  intro i hi x hx
  by_cases e : i = j
  · subst e; rw [hy] at hx; cases hx; exact hr
  · exact h i (by omega) x hx
theorem nmE_good {l ns : List Int} (h : nmE l ns = 0) : (ckR l).2 = 0 ∧ ∀ x ∈ ns, 0 ≤ x ∧ x < (l.length : Int) := by
  unfold nmE at h
  split at h
  · rename_i a; exact absurd h a
  · rename_i a
    split at h
    · rename_i b
      refine ⟨by simpa using a, fun x hx => ?_⟩
      have := List.all_eq_true.1 b x hx
      simpa [inB] using this
    · cases h
theorem nmT_err {l ns : List Int} (h : nmE l ns ≠ 0) : nmT l ns = [] := by unfold nmT; rw [if_pos h]
theorem nmT_ok {l ns : List Int} (h : nmE l ns = 0) : nmT l ns = l := by unfold nmT; rw [if_neg (by simpa using h)]
/-! Get, Set, Move, Alike -/
def gtN (l : List Int) (a : Int) : Int := if nmE l [a] ≠ 0 then 0 else l.getD a.toNat 0
def stE (l : List Int) (a x : Int) : Int := if nmE l [a] ≠ 0 then nmE l [a] else if x < 0 ∨ 1600 < x then 7 else 0
def stT (l : List Int) (a x : Int) : List Int := if stE l a x ≠ 0 then [] else l.set a.toNat x
def mvT (l : List Int) (a b : Int) : List Int := if nmE l [a, b] ≠ 0 then [] else l.set a.toNat (l.getD b.toNat 0)
def alB (l : List Int) (a b : Int) : Bool := decide (nmE l [a, b] = 0 ∧ l.getD a.toNat 0 = l.getD b.toNat 0)
theorem gtN_err {l : List Int} {a : Int} (h : nmE l [a] ≠ 0) : gtN l a = 0 := by unfold gtN; rw [if_pos h]
theorem gtN_ok {l : List Int} {a y : Int} (h : nmE l [a] = 0) (hy : l[a.toNat]? = some y) : gtN l a = y := by unfold gtN; rw [if_neg (by simpa using h)]; simp [List.getD_eq_getElem?_getD, hy]
theorem getD_of {l : List Int} {k : Nat} {y : Int} (hy : l[k]? = some y) : l.getD k 0 = y := by simp [List.getD_eq_getElem?_getD, hy]
theorem stE_nm {l : List Int} {a x : Int} (h : nmE l [a] ≠ 0) : stE l a x = nmE l [a] := by unfold stE; rw [if_pos h]
theorem stE_out {l : List Int} {a x : Int} (h : nmE l [a] = 0) (h2 : x < 0 ∨ 1600 < x) : stE l a x = 7 := by unfold stE; rw [if_neg (by simpa using h), if_pos h2]
theorem stE_ok {l : List Int} {a x : Int} (h : nmE l [a] = 0) (h2 : ¬ (x < 0 ∨ 1600 < x)) : stE l a x = 0 := by unfold stE; rw [if_neg (by simpa using h), if_neg h2]
theorem stT_err {l : List Int} {a x : Int} (h : stE l a x ≠ 0) : stT l a x = [] := by unfold stT; rw [if_pos h]
theorem stT_ok {l : List Int} {a x : Int} (h : stE l a x = 0) : stT l a x = l.set a.toNat x := by unfold stT; rw [if_neg (by simpa using h)]
theorem mvT_err {l : List Int} {a b : Int} (h : nmE l [a, b] ≠ 0) : mvT l a b = [] := by unfold mvT; rw [if_pos h]
theorem mvT_ok {l : List Int} {a b y : Int} (h : nmE l [a, b] = 0) (hy : l[b.toNat]? = some y) : mvT l a b = l.set a.toNat y := by unfold mvT; rw [if_neg (by simpa using h), getD_of hy]
theorem set_len {l : List Int} {k : Nat} {x : Int} : (l.set k x).length = l.length := List.length_set
theorem alB_ok {l : List Int} {a b y z : Int} (h : nmE l [a, b] = 0) (hy : l[a.toNat]? = some y) (hz : l[b.toNat]? = some z) : alB l a b = decide (y = z) := by
  unfold alB; rw [getD_of hy, getD_of hz]; simp [h]
theorem alB_err {l : List Int} {a b : Int} (h : ¬ nmE l [a, b] = 0) : alB l a b = false := by unfold alB; simp [h]
/-- where asked stands behind j names. -/
theorem as_step {l ns : List Int} {j : Nat} {y e : Int} (he : e = if (ckR l).2 ≠ 0 then (ckR l).2 else if (ns.take j).all (inB l.length) then 0 else 10) (h0 : e = 0) (hy : ns[j]? = some y) (e' : Int) (h1 : (y < 0 ∨ (l.length : Int) ≤ y) → e' = 10) (h2 : ¬ (y < 0 ∨ (l.length : Int) ≤ y) → e' = 0) :
    e' = if (ckR l).2 ≠ 0 then (ckR l).2 else if (ns.take (j + 1)).all (inB l.length) then 0 else 10 := by
  have hc : (ckR l).2 = 0 := by
    apply Classical.byContradiction; intro h; rw [if_pos h] at he; omega
  rw [if_neg (by simpa using hc)] at he ⊢
  rw [take_snoc' ns j y hy, List.all_append]
  have ha : (ns.take j).all (inB l.length) = true := by
    apply Classical.byContradiction; intro h; rw [if_neg h] at he; omega
  rw [ha]
  by_cases hb : y < 0 ∨ (l.length : Int) ≤ y
  · rw [h1 hb]
    have : inB l.length y = false := by simp [inB]; omega
    simp [this]
  · rw [h2 hb]
    have : inB l.length y = true := by simp [inB]; omega
    simp [this]
theorem as_init (l ns : List Int) : (ckR l).2 = if (ckR l).2 ≠ 0 then (ckR l).2 else if (ns.take 0).all (inB l.length) then 0 else 10 := by
  by_cases h : (ckR l).2 = 0 <;> simp [h]
theorem as_done {l ns : List Int} {j : Nat} {e : Int} (he : e = if (ckR l).2 ≠ 0 then (ckR l).2 else if (ns.take j).all (inB l.length) then 0 else 10) (h : ¬ e = 0 ∨ ns.length ≤ j) (hj : j ≤ ns.length) : e = nmE l ns := by
  unfold nmE
  by_cases hc : (ckR l).2 = 0
  · rw [if_neg (by simpa using hc)] at he ⊢
    rcases h with h | h
    · have : ¬ (ns.take j).all (inB l.length) = true := fun q => by rw [if_pos q] at he; exact h he
      rw [if_neg this] at he
      rw [if_neg, he]
      intro q
      exact this (List.all_eq_true.2 fun x hx => List.all_eq_true.1 q x (List.mem_of_mem_take hx))
    · rw [List.take_of_length_le h] at he; exact he
  · rw [if_pos hc] at he ⊢; exact he
theorem eq_all {xs ys : List Int} (h1 : xs.length = ys.length) {k : Nat} (hk : xs.length ≤ k) (h : ∀ i, i < k → xs[i]? = ys[i]?) : xs = ys := by
  apply List.ext_getElem?
  intro i
  by_cases hi : i < k
  · exact h i hi
  · rw [List.getElem?_eq_none (by omega), List.getElem?_eq_none (by omega)]
theorem eq_step {xs ys : List Int} {k : Nat} {x y : Int} (h : ∀ i, i < k → xs[i]? = ys[i]?) (hx : xs[k]? = some x) (hy : ys[k]? = some y) (e : x = y) : ∀ i, i < k + 1 → xs[i]? = ys[i]? := by
  intro i hi
  by_cases q : i = k
  · subst q; rw [hx, hy, e]
  · exact h i (by omega)
theorem eq_ne {xs ys : List Int} {k : Nat} {x y : Int} (hx : xs[k]? = some x) (hy : ys[k]? = some y) (e : x ≠ y) : xs ≠ ys := by
  rintro rfl; rw [hx] at hy; cases hy; exact e rfl
end Go.Own.R
