import Derived.Test.YteppjefmlibmoaaSepM
import Derived.Test.YteppjefmlibmoaaSp11
import Derived.Lib.SlicesCompact
namespace Go.Own.R
open Go Go.Own
def outB (a : Int) : Bool := decide (a < 0 ∨ 1600 < a)
/-- the first place at which p holds, or -1. -/
def idxF (p : Int → Bool) (l : List Int) : Int := match l.findIdx? p with | some i => (i : Int) | none => -1
theorem idxF_no {p : Int → Bool} {l : List Int} (h : ∀ i, i < l.length → ∀ x, l[i]? = some x → p x = false) : idxF p l = -1 := by
  have : l.findIdx? p = none := by
    rw [List.findIdx?_eq_none_iff]; intro x hx
    obtain ⟨i, hi, rfl⟩ := List.mem_iff_getElem.1 hx
    exact h i hi _ (List.getElem?_eq_getElem hi)
  unfold idxF; rw [this]
theorem idxF_at {p : Int → Bool} {l : List Int} {k : Nat} {y : Int} (hn : ∀ i, i < k → ∀ x, l[i]? = some x → p x = false) (hy : l[k]? = some y) (h : p y = true) : idxF p l = k := by
  obtain ⟨hk, rfl⟩ := List.getElem?_eq_some_iff.1 hy
  have : l.findIdx? p = some k := by
    rw [List.findIdx?_eq_some_iff_getElem]
    refine ⟨hk, h, fun j hj => ?_⟩
    have := hn j hj _ (List.getElem?_eq_getElem (by omega)); simp [this]
  unfold idxF; rw [this]
theorem no_step {p : Int → Bool} {l : List Int} {k : Nat} {y : Int} (hn : ∀ i, i < k → ∀ x, l[i]? = some x → p x = false) (hy : l[k]? = some y) (h : p y = false) : ∀ i, i < k + 1 → ∀ x, l[i]? = some x → p x = false := by
  intro i hi x hx
  by_cases e : i = k
  · subst e; rw [hy] at hx; cases hx; exact h
  · exact hn i (by omega) x hx
def ckR (l : List Int) : Int × Int := if l.length < 1 ∨ 8 < l.length then (-1, 7) else if 0 ≤ idxF outB l then (idxF outB l, 7) else (0, 0)
/-! names -/
def inB (n : Nat) (a : Int) : Bool := decide (0 ≤ a ∧ a < n)
def nmE (l ns : List Int) : Int := if (ckR l).2 ≠ 0 then (ckR l).2 else if ns.all (inB l.length) then 0 else 10
def nmT (l ns : List Int) : List Int := if nmE l ns ≠ 0 then [] else l
/-! Get, Set, Move, Alike -/
def gtN (l : List Int) (a : Int) : Int := if nmE l [a] ≠ 0 then 0 else l.getD a.toNat 0
def stE (l : List Int) (a x : Int) : Int := if nmE l [a] ≠ 0 then nmE l [a] else if x < 0 ∨ 1600 < x then 7 else 0
def stT (l : List Int) (a x : Int) : List Int := if stE l a x ≠ 0 then [] else l.set a.toNat x
def mvT (l : List Int) (a b : Int) : List Int := if nmE l [a, b] ≠ 0 then [] else l.set a.toNat (l.getD b.toNat 0)
def alB (l : List Int) (a b : Int) : Bool := decide (nmE l [a, b] = 0 ∧ l.getD a.toNat 0 = l.getD b.toNat 0)
theorem eq_all {xs ys : List Int} (h1 : xs.length = ys.length) {k : Nat} (hk : xs.length ≤ k) (h : ∀ i, i < k → xs[i]? = ys[i]?) : xs = ys := by
  apply List.ext_getElem?
  intro i
  by_cases hi : i < k
  · exact h i hi
  · rw [List.getElem?_eq_none (by omega), List.getElem?_eq_none (by omega)]
theorem eq_step {xs ys : List Int} {k : Nat} {x y : Int} (h : ∀ i, i < k → xs[i]? = ys[i]?) (hx : xs[k]? = some x) (hy : ys[k]? = some y) (e : x = y) : ∀ i, i < k + 1 → xs[i]? = ys[i]? := by
  intro i hi
  by_cases q : i = k
  · subst q; rw [hx, hy, e]
  · exact h i (by omega)
theorem eq_ne {xs ys : List Int} {k : Nat} {x y : Int} (hx : xs[k]? = some x) (hy : ys[k]? = some y) (e : x ≠ y) : xs ≠ ys := by
  rintro rfl; rw [hx] at hy; cases hy; exact e rfl
end Go.Own.R

namespace Go.Own.R
open Go Go.Own
/-! Into -/
def hitB (f t a : Int) : Bool := decide (¬ a = 0 ∧ f ≤ a ∧ a < t)
def inE (l : List Int) (f t : Int) : Int := if (ckR l).2 ≠ 0 then (ckR l).2 else if f < 0 ∨ 1601 < t ∨ t < f then 7 else if l.countP (hitB f t) = 0 then 4 else 0
def inN (l : List Int) (f t : Int) : Int := if inE l f t ≠ 0 then 0 else ((l.countP (hitB f t) : Nat) : Int)
def inI (l : List Int) (f t : Int) : Int := if inE l f t ≠ 0 then 0 else idxF (hitB f t) l
/-- behind k registers: the first that is hit. -/
def inK (l : List Int) (f t : Int) (k : Nat) : Int := idxF (hitB f t) (l.take k)
def inC (l : List Int) (f t : Int) (k : Nat) : Int := (((l.take k).countP (hitB f t) : Nat) : Int)
/-! Targets -/
def sortL (l : List Int) : List Int := l.mergeSort fun x y => decide (x ≤ y)
theorem sortL_len (l : List Int) : (sortL l).length = l.length := List.length_mergeSort _
theorem sortL_mem {l : List Int} {x : Int} : x ∈ sortL l ↔ x ∈ l := List.mem_mergeSort
theorem sortL_asc (l : List Int) : (sortL l).Pairwise (fun x y => x ≤ y) := by
  have h := List.pairwise_mergeSort (le := fun x y : Int => decide (x ≤ y)) (fun a b c h1 h2 => by simp at *; omega) (fun a b => by simp; omega) l
  exact h.imp (fun h => by simpa using h)
theorem cmp_len (l : List Int) : (Lib.compact l).length ≤ l.length := by
  unfold Lib.compact Lib.compactUpTo
  rw [List.length_map]
  exact Nat.le_trans (List.length_filter_le _ _) (by simp)
theorem cmp_inv {l : List Int} (hs : l.Pairwise (fun x y => x ≤ y)) (m : Nat) (hm : m ≤ l.length) :
    (Lib.compactUpTo l.toArray m).Pairwise (· < ·) ∧ ∀ x, x ∈ Lib.compactUpTo l.toArray m ↔ x ∈ l.take m := by
  induction m with
  | zero => exact ⟨List.Pairwise.nil, fun x => by simp [Lib.compactUpTo]⟩
  | succ m ih =>
    obtain ⟨h1, h2⟩ := ih (by omega)
    have hlt : m < l.length := by omega
    have hg : l.toArray[m]! = l[m] := by simp [hlt]
    have ht : l.take (m + 1) = l.take m ++ [l[m]] := by rw [List.take_add_one, List.getElem?_eq_getElem hlt]; rfl
    rw [Lib.compactUpTo_succ, ht]
    by_cases hk : Lib.keeps l.toArray m = true
    · rw [if_pos hk, hg]
      refine ⟨List.pairwise_append.2 ⟨h1, List.pairwise_singleton _ _, fun x hx y hy => ?_⟩, fun x => ?_⟩
      · rw [List.mem_singleton] at hy; subst hy
        rw [h2] at hx
        obtain ⟨i, hi, rfl⟩ := List.mem_iff_getElem.1 hx
        rw [List.length_take] at hi
        rw [List.getElem_take]
        unfold Lib.keeps at hk
        rw [hg] at hk
        have hm1 : m - 1 < l.length := by omega
        have hg1 : l.toArray[m - 1]! = l[m - 1] := by simp [hm1]
        rw [hg1] at hk
        simp only [decide_eq_true_eq] at hk
        have hne : l[m] ≠ l[m - 1] := hk.resolve_left (by omega)
        have ha : l[m - 1] ≤ l[m] := List.pairwise_iff_getElem.1 hs _ _ hm1 hlt (by omega)
        have hb : l[i] ≤ l[m - 1] := by
          by_cases e : i = m - 1
          · subst e; omega
          · exact List.pairwise_iff_getElem.1 hs _ _ (by omega) hm1 (by omega)
        omega
      · rw [List.mem_append, List.mem_append, h2]
    · rw [if_neg hk, List.append_nil]
      refine ⟨h1, fun x => ?_⟩
      rw [h2, List.mem_append, List.mem_singleton]
      constructor
      · exact .inl
      · rintro (h | rfl)
        · exact h
        · unfold Lib.keeps at hk
          rw [hg] at hk
          have hm1 : m - 1 < l.length := by omega
          have hg1 : l.toArray[m - 1]! = l[m - 1] := by simp [hm1]
          rw [hg1] at hk
          simp only [decide_eq_true_eq, not_or, Classical.not_not] at hk
          rw [hk.2]
          have : (l.take m)[m - 1]? = some l[m - 1] := by rw [List.getElem?_take, if_pos (by omega), List.getElem?_eq_getElem hm1]
          exact List.mem_of_getElem? this
theorem asc_unique : ∀ {xs ys : List Int}, xs.Pairwise (· < ·) → ys.Pairwise (· < ·) → (∀ a, a ∈ xs ↔ a ∈ ys) → xs = ys
  | [], [], _, _, _ => rfl
  | [], y :: ys, _, _, h => absurd ((h y).2 (by simp)) (by simp)
  | x :: xs, [], _, _, h => absurd ((h x).1 (by simp)) (by simp)
  | x :: xs, y :: ys, h1, h2, h => by
    rw [List.pairwise_cons] at h1 h2
    have e : x = y := by
      have a := (h x).1 (by simp)
      have b := (h y).2 (by simp)
      rcases List.mem_cons.1 a with a | a
      · exact a
      · rcases List.mem_cons.1 b with b | b
        · exact b.symm
        · have := h1.1 _ b; have := h2.1 _ a; omega
    subst e
    rw [asc_unique h1.2 h2.2 fun a => ?_]
    constructor
    · intro ha
      have := h1.1 a ha
      rcases List.mem_cons.1 ((h a).1 (List.mem_cons_of_mem _ ha)) with q | q
      · omega
      · exact q
    · intro ha
      have := h2.1 a ha
      rcases List.mem_cons.1 ((h a).2 (List.mem_cons_of_mem _ ha)) with q | q
      · omega
      · exact q
def tgK (l : List Int) (k : Nat) : List Int := ((List.range k).map fun (i : Nat) => ((i : Int) + 1)).filter fun a => decide (a ∈ l)
def tgT (l : List Int) : List Int := if (ckR l).2 ≠ 0 then [] else tgK l 1600
theorem tgK_len (l : List Int) (k : Nat) : (tgK l k).length ≤ k := by unfold tgK; exact Nat.le_trans (List.length_filter_le _ _) (by simp)
theorem tgK_asc (l : List Int) (k : Nat) : (tgK l k).Pairwise (· < ·) := by
  unfold tgK
  exact List.Pairwise.filter _ (List.pairwise_map.2 (List.pairwise_lt_range.imp fun h => by omega))
theorem tgK_mem {l : List Int} {k : Nat} {x : Int} : x ∈ tgK l k ↔ 1 ≤ x ∧ x ≤ k ∧ x ∈ l := by
  unfold tgK
  rw [List.mem_filter]
  constructor
  · rintro ⟨h1, h2⟩
    obtain ⟨i, hi, rfl⟩ := List.mem_map.1 h1
    rw [List.mem_range] at hi
    exact ⟨by omega, by omega, by simpa using h2⟩
  · rintro ⟨h1, h2, h3⟩
    exact ⟨List.mem_map.2 ⟨(x - 1).toNat, List.mem_range.2 (by omega), by omega⟩, by simpa using h3⟩
theorem cmp_mem {l : List Int} {x : Int} : x ∈ Lib.compact (sortL l) ↔ x ∈ l := by
  rw [Lib.compact, (cmp_inv (sortL_asc l) _ (Nat.le_refl _)).2, List.take_length, sortL_mem]
theorem cmp_asc (l : List Int) : (Lib.compact (sortL l)).Pairwise (· < ·) := (cmp_inv (sortL_asc l) _ (Nat.le_refl _)).1
end Go.Own.R
