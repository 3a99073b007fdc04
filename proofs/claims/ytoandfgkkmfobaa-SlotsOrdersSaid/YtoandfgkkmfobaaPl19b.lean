import Derived.Test.YtoandfgkkmfobaaPl19
import Derived.Lib.SlicesCompact
namespace Go.Own.R
open Go Go.Own
/-! Into -/
def hitB (f t a : Int) : Bool := decide (¬ a = 0 ∧ f ≤ a ∧ a < t)
def inE (l : List Int) (f t : Int) : Int := if (ckR l).2 ≠ 0 then (ckR l).2 else if f < 0 ∨ 1601 < t ∨ t < f then 7 else if l.countP (hitB f t) = 0 then 4 else 0
def inN (l : List Int) (f t : Int) : Int := if inE l f t ≠ 0 then 0 else ((l.countP (hitB f t) : Nat) : Int)
def inI (l : List Int) (f t : Int) : Int := if inE l f t ≠ 0 then 0 else idxF (hitB f t) l
/-- behind k registers: the first that is hit. -/
def inK (l : List Int) (f t : Int) (k : Nat) : Int := idxF (hitB f t) (l.take k)
def inC (l : List Int) (f t : Int) (k : Nat) : Int := (((l.take k).countP (hitB f t) : Nat) : Int)
theorem idxF_snoc {p : Int → Bool} {l : List Int} {y : Int} : idxF p (l ++ [y]) = if 0 ≤ idxF p l then idxF p l else if p y = true then (l.length : Int) else -1 := by
  unfold idxF
  rw [List.findIdx?_append]
  cases h : l.findIdx? p with
  | some i => simp
  | none => by_cases hp : p y = true <;> simp [hp, List.findIdx?_cons]
theorem idxF_cnt {p : Int → Bool} {l : List Int} : (idxF p l < 0) ↔ l.countP p = 0 := by
  unfold idxF
  cases h : l.findIdx? p with
  | none =>
    rw [List.findIdx?_eq_none_iff] at h
    simp only [List.countP_eq_zero]
    constructor
    · intro _ a ha; simp [h a ha]
    · intro _; omega
  | some i =>
    rw [List.findIdx?_eq_some_iff_getElem] at h
    obtain ⟨hi, hp, _⟩ := h
    constructor
    · intro q; simp at q; omega
    · intro q; rw [List.countP_eq_zero] at q; exact absurd hp (by simpa using q _ (List.getElem_mem hi))
theorem in_miss {l : List Int} {f t : Int} {k : Nat} {y : Int} (hy : l[k]? = some y) (h : y = 0 ∨ y < f ∨ t ≤ y) : inK l f t (k + 1) = inK l f t k ∧ inC l f t (k + 1) = inC l f t k := by
  have hp : hitB f t y = false := by simp [hitB]; omega
  unfold inK inC
  rw [take_snoc' l k y hy, idxF_snoc, List.countP_append, hp]
  have := (idxF_bd (hitB f t) (l.take k)).1
  refine ⟨by simp; omega, by simp [hp]⟩
theorem in_hit {l : List Int} {f t : Int} {k : Nat} {y : Int} (hy : l[k]? = some y) (h : ¬ (y = 0 ∨ y < f ∨ t ≤ y)) : inK l f t (k + 1) = (if inK l f t k < 0 then (k : Int) else inK l f t k) ∧ inC l f t (k + 1) = inC l f t k + 1 := by
  have hp : hitB f t y = true := by simp [hitB]; omega
  have hk := (List.getElem?_eq_some_iff.1 hy).1
  unfold inK inC
  rw [take_snoc' l k y hy, idxF_snoc, List.countP_append, hp]
  have hl : (l.take k).length = k := by rw [List.length_take]; omega
  rw [hl]
  refine ⟨?_, by simp [hp]⟩
  by_cases q : 0 ≤ idxF (hitB f t) (l.take k)
  · rw [if_pos q, if_neg (by omega)]
  · rw [if_neg q, if_pos rfl, if_pos (by omega)]
theorem inC_bd (l : List Int) (f t : Int) (k : Nat) : 0 ≤ inC l f t k ∧ inC l f t k ≤ l.length := by
  unfold inC
  have h1 := List.countP_le_length (p := hitB f t) (l := l.take k)
  rw [List.length_take] at h1
  omega
theorem in_end {l : List Int} {f t : Int} {k : Nat} (h1 : (ckR l).2 = 0) (h2 : ¬ (f < 0 ∨ 1601 < t ∨ t < f)) (hk : l.length ≤ k) :
    (inC l f t k = 0 → inE l f t = 4 ∧ inN l f t = 0 ∧ inI l f t = 0) ∧ (¬ inC l f t k = 0 → inE l f t = 0 ∧ inN l f t = inC l f t k ∧ inI l f t = inK l f t k) := by
  unfold inC inK
  rw [List.take_of_length_le hk]
  have e : inE l f t = if l.countP (hitB f t) = 0 then 4 else 0 := by unfold inE; rw [if_neg (by simpa using h1), if_neg h2]
  constructor
  · intro h
    have : l.countP (hitB f t) = 0 := by omega
    have e4 : inE l f t = 4 := by rw [e, if_pos this]
    refine ⟨e4, ?_, ?_⟩ <;> simp [inN, inI, e4]
  · intro h
    have : ¬ l.countP (hitB f t) = 0 := by omega
    have e0 : inE l f t = 0 := by rw [e, if_neg this]
    refine ⟨e0, ?_, ?_⟩ <;> simp [inN, inI, e0]
theorem inE_ck {l : List Int} {f t : Int} (h : (ckR l).2 ≠ 0) : inE l f t = (ckR l).2 := by unfold inE; rw [if_pos h]
theorem inE_rg {l : List Int} {f t : Int} (h1 : (ckR l).2 = 0) (h : f < 0 ∨ 1601 < t ∨ t < f) : inE l f t = 7 := by unfold inE; rw [if_neg (by simpa using h1), if_pos h]
theorem in_err {l : List Int} {f t : Int} (h : inE l f t ≠ 0) : inN l f t = 0 ∧ inI l f t = 0 := by unfold inN inI; rw [if_pos h, if_pos h]; exact ⟨rfl, rfl⟩
theorem inK_neg {l : List Int} {f t : Int} {k : Nat} : (inK l f t k < 0) ↔ inC l f t k = 0 := by
  unfold inK inC; rw [idxF_cnt]; omega
theorem nmE_nil (l : List Int) : nmE l [] = (ckR l).2 := by unfold nmE; by_cases h : (ckR l).2 = 0 <;> simp [h]
/-! Targets -/
def sortL (l : List Int) : List Int := l.mergeSort fun x y => decide (x ≤ y)
theorem sortL_len (l : List Int) : (sortL l).length = l.length := List.length_mergeSort _
theorem sortL_mem {l : List Int} {x : Int} : x ∈ sortL l ↔ x ∈ l := List.mem_mergeSort
theorem sortL_asc (l : List Int) : (sortL l).Pairwise (fun x y => x ≤ y) := by
  have h := List.pairwise_mergeSort (le := fun x y : Int => decide (x ≤ y)) (fun a b c h1 h2 => by simp at *; omega) (fun a b => by simp; omega) l
  exact h.imp (fun h => by simpa using h)
theorem cmp_len (l : List Int) : (Lib.compact l).length ≤ l.length := by
  unfold Lib.compact Lib.compactUpTo
  rw [List.length_map]
  exact Nat.le_trans (List.length_filter_le _ _) (by simp)
theorem cmp_inv {l : List Int} (hs : l.Pairwise (fun x y => x ≤ y)) (m : Nat) (hm : m ≤ l.length) :
    (Lib.compactUpTo l.toArray m).Pairwise (· < ·) ∧ ∀ x, x ∈ Lib.compactUpTo l.toArray m ↔ x ∈ l.take m := by
  induction m with
  | zero => exact ⟨List.Pairwise.nil, fun x => by simp [Lib.compactUpTo]⟩
  | succ m ih =>
    obtain ⟨h1, h2⟩ := ih (by omega)
    have hlt : m < l.length := by omega
    have hg : l.toArray[m]! = l[m] := by simp [hlt]
    have ht : l.take (m + 1) = l.take m ++ [l[m]] := by rw [List.take_add_one, List.getElem?_eq_getElem hlt]; rfl
    rw [Lib.compactUpTo_succ, ht]
    by_cases hk : Lib.keeps l.toArray m = true
    · rw [if_pos hk, hg]
      refine ⟨List.pairwise_append.2 ⟨h1, List.pairwise_singleton _ _, fun x hx y hy => ?_⟩, fun x => ?_⟩
      · rw [List.mem_singleton] at hy; subst hy
        rw [h2] at hx
        obtain ⟨i, hi, rfl⟩ := List.mem_iff_getElem.1 hx
        rw [List.length_take] at hi
        rw [List.getElem_take]
        unfold Lib.keeps at hk
        rw [hg] at hk
        have hm1 : m - 1 < l.length := by omega
        have hg1 : l.toArray[m - 1]! = l[m - 1] := by simp [hm1]
        rw [hg1] at hk
        simp only [decide_eq_true_eq] at hk
        have hne : l[m] ≠ l[m - 1] := hk.resolve_left (by omega)
        have ha : l[m - 1] ≤ l[m] := List.pairwise_iff_getElem.1 hs _ _ hm1 hlt (by omega)
        have hb : l[i] ≤ l[m - 1] := by
          by_cases e : i = m - 1
          · subst e; omega
          · exact List.pairwise_iff_getElem.1 hs _ _ (by omega) hm1 (by omega)
        omega
      · rw [List.mem_append, List.mem_append, h2]
    · rw [if_neg hk, List.append_nil]
      refine ⟨h1, fun x => ?_⟩
      rw [h2, List.mem_append, List.mem_singleton]
      constructor
      · exact .inl
      · rintro (h | rfl)
        · exact h
        · unfold Lib.keeps at hk
          rw [hg] at hk
          have hm1 : m - 1 < l.length := by omega
          have hg1 : l.toArray[m - 1]! = l[m - 1] := by simp [hm1]
          rw [hg1] at hk
          simp only [decide_eq_true_eq, not_or, Classical.not_not] at hk
          rw [hk.2]
          have : (l.take m)[m - 1]? = some l[m - 1] := by rw [List.getElem?_take, if_pos (by omega), List.getElem?_eq_getElem hm1]
          exact List.mem_of_getElem? this
theorem asc_unique : ∀ {xs ys : List Int}, xs.Pairwise (· < ·) → ys.Pairwise (· < ·) → (∀ a, a ∈ xs ↔ a ∈ ys) → xs = ys
  | [], [], _, _, _ => rfl
  | [], y :: ys, _, _, h => absurd ((h y).2 (by simp)) (by simp)
  | x :: xs, [], _, _, h => absurd ((h x).1 (by simp)) (by simp)
  | x :: xs, y :: ys, h1, h2, h => by
    rw [List.pairwise_cons] at h1 h2
    have e : x = y := by
      have a := (h x).1 (by simp)
      have b := (h y).2 (by simp)
      rcases List.mem_cons.1 a with a | a
      · exact a
      · rcases List.mem_cons.1 b with b | b
        · exact b.symm
        · have := h1.1 _ b; have := h2.1 _ a; omega
    subst e
    rw [asc_unique h1.2 h2.2 fun a => ?_]
    constructor
    · intro ha
      have := h1.1 a ha
      rcases List.mem_cons.1 ((h a).1 (List.mem_cons_of_mem _ ha)) with q | q
      · omega
      · exact q
    · intro ha
      have := h2.1 a ha
      rcases List.mem_cons.1 ((h a).2 (List.mem_cons_of_mem _ ha)) with q | q
      · omega
      · exact q
def tgK (l : List Int) (k : Nat) : List Int := ((List.range k).map fun (i : Nat) => ((i : Int) + 1)).filter fun a => decide (a ∈ l)
def tgT (l : List Int) : List Int := if (ckR l).2 ≠ 0 then [] else tgK l 1600
theorem tgT_err {l : List Int} (h : (ckR l).2 ≠ 0) : tgT l = [] := by unfold tgT; rw [if_pos h]
theorem tgT_ok {l : List Int} (h : (ckR l).2 = 0) : tgT l = tgK l 1600 := by unfold tgT; rw [if_neg (by simpa using h)]
theorem tgK_len (l : List Int) (k : Nat) : (tgK l k).length ≤ k := by unfold tgK; exact Nat.le_trans (List.length_filter_le _ _) (by simp)
theorem tgK_in {l : List Int} {k : Nat} (h : ((k : Int) + 1) ∈ l) : tgK l k ++ [(k : Int) + 1] = tgK l (k + 1) := by
  unfold tgK; rw [List.range_succ, List.map_append, List.filter_append]; simp [h]
theorem tgK_out {l : List Int} {k : Nat} (h : ((k : Int) + 1) ∉ l) : tgK l k = tgK l (k + 1) := by
  unfold tgK; rw [List.range_succ, List.map_append, List.filter_append]; simp [h]
theorem tgK_asc (l : List Int) (k : Nat) : (tgK l k).Pairwise (· < ·) := by
  unfold tgK
  exact List.Pairwise.filter _ (List.pairwise_map.2 (List.pairwise_lt_range.imp fun h => by omega))
theorem tgK_mem {l : List Int} {k : Nat} {x : Int} : x ∈ tgK l k ↔ 1 ≤ x ∧ x ≤ k ∧ x ∈ l := by
  unfold tgK
  rw [List.mem_filter]
  constructor
  · rintro ⟨h1, h2⟩
    obtain ⟨i, hi, rfl⟩ := List.mem_map.1 h1
    rw [List.mem_range] at hi
    exact ⟨by omega, by omega, by simpa using h2⟩
  · rintro ⟨h1, h2, h3⟩
    exact ⟨List.mem_map.2 ⟨(x - 1).toNat, List.mem_range.2 (by omega), by omega⟩, by simpa using h3⟩
theorem cmp_mem {l : List Int} {x : Int} : x ∈ Lib.compact (sortL l) ↔ x ∈ l := by
  rw [Lib.compact, (cmp_inv (sortL_asc l) _ (Nat.le_refl _)).2, List.take_length, sortL_mem]
theorem cmp_asc (l : List Int) : (Lib.compact (sortL l)).Pairwise (· < ·) := (cmp_inv (sortL_asc l) _ (Nat.le_refl _)).1
theorem cmp_pos {l : List Int} (h : 0 < l.length) : 0 < (Lib.compact (sortL l)).length := by
  have := (cmp_mem (l := l) (x := l[0])).2 (List.getElem_mem h)
  exact List.length_pos_of_mem this
theorem tg_zero {l : List Int} {y : Int} (h : ∀ x ∈ l, 0 ≤ x ∧ x ≤ 1600) (hy : (Lib.compact (sortL l))[0]? = some y) (h0 : y = 0) : (Lib.compact (sortL l)).drop 1 = tgK l 1600 := by
  have ha := cmp_asc l
  cases e : Lib.compact (sortL l) with
  | nil => rw [e] at hy; simp at hy
  | cons z r =>
    rw [e] at hy ha
    simp at hy
    rw [List.pairwise_cons] at ha
    refine asc_unique ha.2 (tgK_asc l 1600) fun a => ?_
    rw [tgK_mem]
    have hm : a ∈ l ↔ a = z ∨ a ∈ r := by rw [← cmp_mem, e, List.mem_cons]
    constructor
    · intro q
      have q : a ∈ r := by simpa using q
      have := ha.1 a q
      have hl : a ∈ l := hm.2 (.inr q)
      have := h a hl
      exact ⟨by omega, by omega, hl⟩
    · rintro ⟨q1, q2, q3⟩
      rcases hm.1 q3 with q | q
      · omega
      · simpa using q
theorem tg_none {l : List Int} {y : Int} (h : ∀ x ∈ l, 0 ≤ x ∧ x ≤ 1600) (hy : (Lib.compact (sortL l))[0]? = some y) (h0 : ¬ y = 0) : Lib.compact (sortL l) = tgK l 1600 := by
  have ha := cmp_asc l
  refine asc_unique ha (tgK_asc l 1600) fun a => ?_
  rw [tgK_mem, cmp_mem]
  constructor
  · intro q
    have hr := h a q
    refine ⟨?_, by omega, q⟩
    apply Classical.byContradiction
    intro hz
    have hz0 : a = 0 := by omega
    subst hz0
    have hin := (cmp_mem (l := l) (x := 0)).2 q
    cases e : Lib.compact (sortL l) with
    | nil => rw [e] at hy; simp at hy
    | cons z r =>
      rw [e] at hy ha hin
      simp at hy
      rw [List.pairwise_cons] at ha
      have hz : z ∈ l := (cmp_mem).1 (by rw [e]; simp)
      have := h z hz
      rcases List.mem_cons.1 hin with q | q
      · omega
      · have := ha.1 _ q; omega
  · exact fun q => q.2.2
end Go.Own.R
