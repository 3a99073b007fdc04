import Derived.Test.YtodbfgfbkgpooaaDoorSp11
/-! plain law: what Check accepts -/
namespace Go.Own
open Go

def GoodL (l : List Int) : Prop := l.Nodup ∧ ∀ x ∈ l, 0 ≤ x ∧ x < 24

theorem pigeon : ∀ (n : Nat) (l : List Int), l.Nodup → (∀ x ∈ l, 0 ≤ x ∧ x < n) → l.length ≤ n := by
  intro n
  induction n with
  | zero =>
    intro l _ h
    cases l with
    | nil => simp
    | cons x r => have := h x (by simp); omega
  | succ n ih =>
    intro l hn h
    by_cases hm : (n : Int) ∈ l
    · have h1 := ih (l.erase (n : Int)) (hn.erase _) (fun x hx => by
        have hx' := (hn.mem_erase_iff).1 hx
        have := h x hx'.2
        have hne := hx'.1
        omega)
      rw [List.length_erase_of_mem hm] at h1
      omega
    · have h1 := ih l hn (fun x hx => by
        have := h x hx
        have hne : x ≠ (n : Int) := fun e => hm (e ▸ hx)
        omega)
      omega

theorem GoodL.len {l : List Int} (h : GoodL l) : l.length ≤ 24 := pigeon 24 l h.1 h.2

theorem errAt_zero {pre l : List Int} {k : Nat} {x : Int} (hx : l[k]? = some x) : errAt pre l k = 0 ↔ (0 ≤ x ∧ x < 24) ∧ x ∉ pre ++ l.take k := by
  unfold errAt
  rw [List.getD_eq_getElem?_getD, hx]
  simp only [Option.getD_some]
  by_cases h : x < 0 ∨ 24 ≤ x
  · rw [if_pos h]; constructor
    · intro h; omega
    · intro hh; omega
  · rw [if_neg h]
    by_cases h2 : x ∈ pre ++ l.take k
    · rw [if_pos h2]; constructor
      · intro h; omega
      · intro hh; exact absurd h2 hh.2
    · rw [if_neg h2]; constructor
      · intro _; exact ⟨by omega, h2⟩
      · intro _; rfl

theorem good_scan {pre l : List Int} : (GoodL (pre ++ l)) ↔ GoodL pre ∧ ∀ j, j < l.length → errAt pre l j = 0 := by
  constructor
  · intro h
    refine ⟨⟨(List.nodup_append.1 h.1).1, fun x hx => h.2 x (by simp [hx])⟩, fun j hj => ?_⟩
    have hx := List.getElem?_eq_getElem hj
    rw [errAt_zero hx]
    refine ⟨h.2 _ (by simp), ?_⟩
    have e : pre ++ l = (pre ++ l.take j) ++ (l[j] :: l.drop (j + 1)) := by
      rw [List.append_assoc]; congr 1; simp
    have h1 := h.1
    rw [e, List.nodup_append] at h1
    intro hm
    exact h1.2.2 _ hm _ List.mem_cons_self rfl
  · rintro ⟨hp, h⟩
    have key : ∀ k, k ≤ l.length → GoodL (pre ++ l.take k) := by
      intro k
      induction k with
      | zero => intro _; simpa using hp
      | succ k ih =>
        intro hk
        have hx := List.getElem?_eq_getElem (show k < l.length by omega)
        have hg := ih (by omega)
        have he := (errAt_zero hx).1 (h k (by omega))
        rw [take_snoc' l k _ hx, ← List.append_assoc]
        refine ⟨?_, ?_⟩
        · rw [List.nodup_append]
          refine ⟨hg.1, by simp, ?_⟩
          intro a ha b hb
          simp at hb
          subst hb
          intro e; subst e; exact he.2 ha
        · intro x hx
          rw [List.mem_append] at hx
          rcases hx with hx | hx
          · exact hg.2 x hx
          · simp at hx; subst hx; exact he.1
    have := key l.length (Nat.le_refl _)
    rwa [List.take_length] at this

theorem scan_none_iff {pre l : List Int} : scan pre l = none ↔ ∀ j, j < l.length → errAt pre l j = 0 := by
  constructor
  · intro h j hj
    unfold scan at h
    rw [List.find?_eq_none] at h
    have := h j (by simpa using hj)
    simpa using this
  · exact scan_none

theorem errAt_scan {pre l : List Int} {k : Nat} (h : scan pre l = some k) : errAt pre l k ≠ 0 := by
  unfold scan at h
  have := List.find?_some h
  simpa using this

theorem good_nil : GoodL [] := ⟨List.nodup_nil, fun x h => by cases h⟩

/-- what Check accepts. -/
theorem chk_iff (lo yo : List Int) : (chk lo yo).2.2 = 0 ↔ GoodL (lo ++ yo) := by
  constructor
  · intro h
    unfold chk at h
    split at h
    · simp at h
    split at h
    · simp at h
    cases h1 : scan [] lo with
    | some k => rw [h1] at h; exact absurd h (errAt_scan h1)
    | none =>
      rw [h1] at h
      cases h2 : scan lo yo with
      | some k => rw [h2] at h; exact absurd h (errAt_scan h2)
      | none =>
        have g1 : GoodL lo := by
          have := (good_scan (pre := []) (l := lo)).2 ⟨good_nil, scan_none_iff.1 h1⟩
          simpa using this
        exact good_scan.2 ⟨g1, scan_none_iff.1 h2⟩
  · intro h
    have hlen := h.len
    simp at hlen
    obtain ⟨g1, g2⟩ := good_scan.1 h
    have g1' := (good_scan (pre := []) (l := lo)).1 (by simpa using g1)
    rw [chk_ok (by omega) (by omega) g1'.2 g2]

theorem chk_zero {lo yo : List Int} (h : GoodL (lo ++ yo)) : chk lo yo = (0, 0, 0) := by
  have hlen := h.len
  simp at hlen
  obtain ⟨g1, g2⟩ := good_scan.1 h
  have g1' := (good_scan (pre := []) (l := lo)).1 (by simpa using g1)
  exact chk_ok (by omega) (by omega) g1'.2 g2

theorem chkE_iff (lo yo : List Int) (tr c : Int) : chkE lo yo tr c = 0 ↔ GoodL (lo ++ yo) ∧ (tr = 0 ∨ tr = 1) ∧ 0 ≤ c ∧ c < 24 := by
  constructor
  · intro h
    obtain ⟨h1, h2, h3, h4⟩ := chkE_ok h
    exact ⟨(chk_iff lo yo).1 h1, h2, h3, h4⟩
  · rintro ⟨h1, h2, h3, h4⟩
    unfold chkE
    rw [if_neg (by rw [(chk_iff lo yo).2 h1]; simp), if_neg (by omega)]

theorem idx_neg {l : List Int} {c : Int} : idx l c < 0 ↔ c ∉ l := by
  constructor
  · intro h hm
    obtain ⟨j, hj, he⟩ := List.getElem_of_mem hm
    unfold idx at h
    cases hf : l.findIdx? (· == c) with
    | none =>
      rw [List.findIdx?_eq_none_iff] at hf
      have := hf c hm
      simp at this
    | some i => rw [hf] at h; simp at h; omega
  · intro h
    rw [idx_miss fun j hj he => h (List.mem_of_getElem? he)]
    omega

theorem findT_none {lo yo : List Int} {c : Int} : (findT lo yo c).2.2 ≠ 0 ↔ c ∉ lo ++ yo := by
  unfold findT
  by_cases h1 : 0 ≤ idx lo c
  · rw [if_pos h1]
    have : c ∈ lo := by
      apply Classical.byContradiction
      intro h; have := idx_neg.2 h; omega
    simp [this]
  · rw [if_neg h1]
    have h1' : c ∉ lo := idx_neg.1 (by omega)
    by_cases h2 : 0 ≤ idx yo c
    · rw [if_pos h2]
      have : c ∈ yo := by
        apply Classical.byContradiction
        intro h; have := idx_neg.2 h; omega
      simp [this]
    · rw [if_neg h2]
      have h2' : c ∉ yo := idx_neg.1 (by omega)
      simp [h1', h2']

end Go.Own
