import Derived.Test.YtodbfgfbkgpooaaDoorPl12
namespace Go.Own
open Go
theorem chkE_cs {lo yo : List Int} {a : Int} : chkE lo yo 0 a = if (chk lo yo).2.2 ≠ 0 then (chk lo yo).2.2 else if a < 0 ∨ 24 ≤ a then 7 else 0 := by
  unfold chkE; simp
def cmE (lo yo : List Int) (a b : Int) : Int := if rkE lo yo a ≠ 0 then rkE lo yo a else if rkE lo yo b ≠ 0 then rkE lo yo b else if (rkR lo yo a).1 = -1 ∨ (rkR lo yo b).1 = -1 then 4 else 0
def cmN (lo yo : List Int) (a b : Int) : Int := if cmE lo yo a b ≠ 0 then 0 else orI [cmpI (rkR lo yo a).1 (rkR lo yo b).1, cmpI (rkR lo yo a).2 (rkR lo yo b).2]
theorem ofE_two (lo yo : List Int) (a b : Int) : ofE lo yo [a, b] = if rkE lo yo a ≠ 0 then rkE lo yo a else rkE lo yo b := by
  unfold ofE rkE; simp only [chkE_cs]
  by_cases h : (chk lo yo).2.2 = 0
  · by_cases ha : 0 ≤ a ∧ a < 24 <;> by_cases hb : 0 ≤ b ∧ b < 24
    · have h1 : ¬ (a < 0 ∨ 24 ≤ a) := by omega
      have h2 : ¬ (b < 0 ∨ 24 ≤ b) := by omega
      simp [h, ha, hb, h1, h2]
    · have h1 : ¬ (a < 0 ∨ 24 ≤ a) := by omega
      have h2 : (b < 0 ∨ 24 ≤ b) := by omega
      simp [h, ha, h1, h2]; omega
    · have h1 : (a < 0 ∨ 24 ≤ a) := by omega
      simp [h, h1]; omega
    · have h1 : (a < 0 ∨ 24 ≤ a) := by omega
      simp [h, h1]; omega
  · simp [h]
theorem cmE_of {lo yo : List Int} {a b : Int} (h : ofE lo yo [a, b] ≠ 0) : cmE lo yo a b = ofE lo yo [a, b] := by
  rw [ofE_two] at h ⊢; unfold cmE
  by_cases h1 : rkE lo yo a = 0
  · have h2 : rkE lo yo b ≠ 0 := by simpa [h1] using h
    simp [h1, h2]
  · simp [h1]
theorem cmN_err {lo yo : List Int} {a b : Int} (h : cmE lo yo a b ≠ 0) : cmN lo yo a b = 0 := by unfold cmN; rw [if_pos h]
theorem cmN_ok {lo yo : List Int} {a b : Int} (h : cmE lo yo a b = 0) : cmN lo yo a b = orI [cmpI (rkR lo yo a).1 (rkR lo yo b).1, cmpI (rkR lo yo a).2 (rkR lo yo b).2] := by unfold cmN; rw [if_neg (by simpa using h)]
theorem cmE_no {lo yo : List Int} {a b : Int} (ha : rkE lo yo a = 0) (hb : rkE lo yo b = 0) (h : (rkR lo yo a).1 = -1 ∨ (rkR lo yo b).1 = -1) : cmE lo yo a b = 4 := by unfold cmE; simp [ha, hb, h]
theorem cmE_ok {lo yo : List Int} {a b : Int} (ha : rkE lo yo a = 0) (hb : rkE lo yo b = 0) (h1 : ¬ (rkR lo yo a).1 = -1) (h2 : ¬ (rkR lo yo b).1 = -1) : cmE lo yo a b = 0 := by unfold cmE; simp [ha, hb, h1, h2]
/-- how a rank may be. -/
theorem rk_cs (lo yo : List Int) (c : Int) : (rkE lo yo c ≠ 0 ∧ rkR lo yo c = (0, 0)) ∨ (rkE lo yo c = 0 ∧ rkR lo yo c = (-1, -1) ∧ c ∉ lo ∧ c ∉ yo) ∨
    (rkE lo yo c = 0 ∧ ∃ k : Nat, lo[k]? = some c ∧ rkR lo yo c = (0, (k : Int)) ∧ idx lo c = k) ∨ (rkE lo yo c = 0 ∧ c ∉ lo ∧ ∃ k : Nat, yo[k]? = some c ∧ rkR lo yo c = (1, (k : Int)) ∧ idx yo c = k) := by
  by_cases h : rkE lo yo c = 0
  · rw [rkR_ok h]; unfold rkP
    by_cases h1 : c ∈ lo
    · obtain ⟨k, hk, hi⟩ := idx_at h1
      exact .inr (.inr (.inl ⟨h, k, hk, by rw [findT_lo (by omega), hi], hi⟩))
    · by_cases h2 : c ∈ yo
      · obtain ⟨k, hk, hi⟩ := idx_at h2
        exact .inr (.inr (.inr ⟨h, h1, k, hk, by rw [findT_yo (idx_neg.2 h1) (by omega), hi], hi⟩))
      · exact .inr (.inl ⟨h, by rw [findT_no (idx_neg.2 h1) (idx_neg.2 h2)], h1, h2⟩)
  · exact .inl ⟨h, rkR_err h⟩
theorem rkR_pair {lo yo : List Int} {c : Int} (_ : rkE lo yo c = 0) (h : (rkR lo yo c).1 = -1) : (rkR lo yo c).1 = -1 ∧ (rkR lo yo c).2 = -1 := by
  rcases rk_cs lo yo c with ⟨_, e⟩ | ⟨_, e, _⟩ | ⟨_, k, _, e, _⟩ | ⟨_, _, k, _, e, _⟩ <;> rw [e] at h ⊢ <;> simp at h ⊢
theorem rk_bd (lo yo : List Int) (c : Int) : ((rkR lo yo c).1 = -1 ∨ (rkR lo yo c).1 = 0 ∨ (rkR lo yo c).1 = 1) ∧ -1 ≤ (rkR lo yo c).2 ∧ ((rkR lo yo c).1 = 0 → 0 ≤ (rkR lo yo c).2 ∧ ((rkR lo yo c).2 < lo.length ∨ rkE lo yo c ≠ 0)) ∧ ((rkR lo yo c).1 = 1 → 0 ≤ (rkR lo yo c).2) ∧ (rkR lo yo c).2 ≤ lo.length + yo.length := by
  rcases rk_cs lo yo c with ⟨h, e⟩ | ⟨_, e, _⟩ | ⟨_, k, hk, e, _⟩ | ⟨_, _, k, hk, e, _⟩ <;> rw [e] <;> simp
  · omega
  · omega
  · have := (List.getElem?_eq_some_iff.1 hk).1; omega
  · have := (List.getElem?_eq_some_iff.1 hk).1; omega
def plE (lo yo : List Int) (c : Int) : Int := if rkE lo yo c ≠ 0 then rkE lo yo c else if (rkR lo yo c).1 = -1 then 4 else 0
def plN (lo yo : List Int) (c : Int) : Int := if plE lo yo c ≠ 0 then 0 else if (rkR lo yo c).1 = 1 then lo.length + (rkR lo yo c).2 else (rkR lo yo c).2
theorem plc (lo yo : List Int) (c : Int) : plN lo yo c = (if rkE lo yo c ≠ 0 ∨ (rkR lo yo c).1 = -1 then 0 else if (rkR lo yo c).1 = 1 then lo.length + (rkR lo yo c).2 else (rkR lo yo c).2) ∧
    plE lo yo c = (if rkE lo yo c ≠ 0 then rkE lo yo c else if (rkR lo yo c).1 = -1 then 4 else 0) := by
  refine ⟨?_, rfl⟩
  unfold plN plE
  by_cases h : rkE lo yo c = 0 <;> by_cases h1 : (rkR lo yo c).1 = -1 <;> simp [h, h1]
theorem cmc (lo yo : List Int) (a b : Int) : cmN lo yo a b = (if rkE lo yo a ≠ 0 ∨ rkE lo yo b ≠ 0 ∨ plE lo yo a ≠ 0 ∨ plE lo yo b ≠ 0 then 0 else if plN lo yo a < plN lo yo b then -1 else if plN lo yo b < plN lo yo a then 1 else 0) ∧
    cmE lo yo a b = (if rkE lo yo a ≠ 0 then rkE lo yo a else if rkE lo yo b ≠ 0 then rkE lo yo b else if plE lo yo a ≠ 0 ∨ plE lo yo b ≠ 0 then 4 else 0) := by
  have ba := rk_bd lo yo a
  have bb := rk_bd lo yo b
  by_cases ha : rkE lo yo a = 0 <;> by_cases hb : rkE lo yo b = 0
  · by_cases ra : (rkR lo yo a).1 = -1 <;> by_cases rb : (rkR lo yo b).1 = -1
    · simp [cmN, cmE, plE, ha, hb, ra, rb]
    · simp [cmN, cmE, plE, ha, hb, ra, rb]
    · simp [cmN, cmE, plE, ha, hb, ra, rb]
    · refine ⟨?_, by simp [cmE, plE, ha, hb, ra, rb]⟩
      simp only [cmN, cmE, plN, plE, ha, hb, ra, rb, orI, cmpI]
      simp
      repeat (first | omega | split)
  · simp [cmN, cmE, ha, hb]
  · simp [cmN, cmE, ha]
  · simp [cmN, cmE, ha]
end Go.Own
