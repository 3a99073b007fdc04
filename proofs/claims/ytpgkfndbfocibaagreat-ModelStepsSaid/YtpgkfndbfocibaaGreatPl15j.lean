import Derived.Test.YtpgkfndbfocibaaGreatPl15i
/-! what the laws' helpers answer -/
namespace Go.Own.Gr
open Go Go.Own Go.Own.R Go.Own.G
def farO (n : Nat) (o : Ab) : Bool := decide (40 < o.1.length + o.2.length ∨ (30 < n ∧ 0 < o.1.length + o.2.length))
def farG (O : List Ab) (rs : List Int) : Bool := decide (12 < rs.length ∨ (30 < O.length ∧ O.length < 400) ∨ 405 < O.length) || O.any (farO O.length)
theorem far_T1 {O : List Ab} {rs : List Int} (h : 12 < rs.length ∨ (30 < O.length ∧ O.length < 400) ∨ 405 < O.length) : farG O rs = true := by
  unfold farG; rw [decide_eq_true h]; rfl
theorem far_T2 {O : List Ob} {rs : List Int} {k : Nat} {y : Ob} (hy : O[k]? = some y) (h : farO (O.map ab).length (ab y) = true) : farG (O.map ab) rs = true := by
  unfold farG
  rw [List.any_eq_true.2 ⟨ab y, List.mem_of_getElem? (mapE hy), h⟩, Bool.or_true]
theorem far_F {O : List Ob} {rs : List Int} {k : Nat} (h : ¬ (12 < rs.length ∨ (30 < (O.map ab).length ∧ (O.map ab).length < 400) ∨ 405 < (O.map ab).length))
    (hz : ∀ i, i < k → ∀ x, O[i]? = some x → (fun x => farO (O.map ab).length (ab x)) x = false) (hk : O.length ≤ k) : farG (O.map ab) rs = false := by
  unfold farG
  rw [decide_eq_false h, Bool.false_or]
  cases e : (O.map ab).any (farO (O.map ab).length)
  · rfl
  · obtain ⟨p, hp, hn⟩ := List.any_eq_true.1 e
    obtain ⟨y, hy, rfl⟩ := List.mem_map.1 hp
    obtain ⟨i, hi, rfl⟩ := List.mem_iff_getElem.1 hy
    have := hz i (by omega) _ (List.getElem?_eq_getElem hi)
    simp only at this
    rw [this] at hn; cases hn
theorem far_no {O : List Ab} {rs : List Int} (h : farG O rs = false) : rs.length ≤ 12 ∧ O.length ≤ 405 ∧ (O.length ≤ 30 ∨ 400 ≤ O.length) ∧ SM O ∧ ∀ o ∈ O, o.1.length ≤ 40 ∧ o.2.length ≤ 40 := by
  unfold farG at h
  rw [Bool.or_eq_false_iff, decide_eq_false_iff_not] at h
  have hb : ∀ o ∈ O, o.1.length ≤ 40 ∧ o.2.length ≤ 40 := fun o ho => by
    have : farO O.length o = false := by
      cases e : farO O.length o
      · rfl
      · have := List.any_eq_true.2 ⟨o, ho, e⟩
        rw [h.2] at this; cases this
    unfold farO at this
    rw [decide_eq_false_iff_not] at this
    omega
  exact ⟨by omega, by omega, by omega, fun o ho => by have := hb o ho; omega, hb⟩
theorem sm_same {O O2 : List Ab} {rs rs2 : List Int} (h2 : O = O2) (h3 : rs = rs2) : smG O rs O2 rs2 = true := by unfold smG; simp [h2, h3]
end Go.Own.Gr
