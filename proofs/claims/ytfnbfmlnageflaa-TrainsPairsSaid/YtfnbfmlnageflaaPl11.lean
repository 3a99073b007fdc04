import Derived.Test.YtfnbfmlnageflaaSp11h
/-! plain laws of layer 11: what the laws' answers come to -/
namespace Go.Own
open Go
theorem takeS_cases {lo yo : List Int} (hg : (chk lo yo).2.2 = 0) : (lo = [] ∧ takeS lo yo = ⟨[], [], 0, 4⟩) ∨ ∃ c r, lo = c :: r ∧ takeS lo yo = ⟨r, yo, c, 0⟩ := by
  cases lo with
  | nil => exact .inl ⟨rfl, by unfold takeS; rw [if_neg (by simpa using hg)]⟩
  | cons c r => exact .inr ⟨c, r, rfl, by unfold takeS; rw [if_neg (by simpa using hg)]⟩
theorem takeS_car_err {lo yo : List Int} (h : ¬ (takeS lo yo).e = 0) : (takeS lo yo).car = 0 := by
  unfold takeS at *
  split
  · rfl
  · split
    · rfl
    · rename_i h1; simp [h1] at h
theorem relinkS_e (lo yo : List Int) (b : Bool) : (relinkS lo yo b).e = (takeS lo yo).e := by
  by_cases h : (takeS lo yo).e = 0
  · rw [relinkS_ok h, h]
  · rw [relinkS_err h]
theorem relinkS_car (lo yo : List Int) (b : Bool) : (relinkS lo yo b).car = (takeS lo yo).car := by
  by_cases h : (takeS lo yo).e = 0
  · rw [relinkS_ok h]
  · rw [relinkS_err h, takeS_car_err h]
/-- behind a take, of good trains. -/
theorem pairs_T {lo yo : List Int} (hg : (chk lo yo).2.2 = 0) (he : (takeS lo yo).e = 0) : (findS (takeS lo yo).lo (takeS lo yo).yo (takeS lo yo).car).2.2 = 4 ∧
    ∀ b, placeS (takeS lo yo).lo (takeS lo yo).yo 1 (takeS lo yo).car b = ⟨(relinkS lo yo b).lo, (relinkS lo yo b).yo, 0, 0⟩ := by
  have hG := (chk_iff lo yo).1 hg
  rcases takeS_cases hg with ⟨rfl, h⟩ | ⟨c, r, rfl, h⟩
  · rw [h] at he; simp at he
  · have hG' : GoodL (r ++ yo) := hG.tail
    have hc := hG.2 c (by simp)
    have hn : c ∉ r ++ yo := (List.nodup_cons.1 hG.1).1
    have hk : ∀ t, (t = 0 ∨ t = 1) → chkE r yo t c = 0 := fun t ht => (chkE_iff r yo t c).2 ⟨hG', ht, hc.1, hc.2⟩
    rw [List.mem_append] at hn
    refine ⟨?_, fun b => ?_⟩
    · rw [h]
      show (findS r yo c).2.2 = 4
      rw [findS_no (hk 0 (.inl rfl)) (fun h => hn (.inl h)) (fun h => hn (.inr h))]
    · rw [relinkS_ok (by rw [h]), h, placeS_cases]
      simp [hk 1 (.inr rfl), hn]
theorem good_drop {lo yo : List Int} (hg : (chk lo yo).2.2 = 0) (k : Nat) : (chk (lo.drop k) yo).2.2 = 0 := by
  have hG := (chk_iff lo yo).1 hg
  rw [chk_iff]
  refine ⟨?_, fun x hx => hG.2 x ?_⟩
  · have := hG.1
    rw [← List.take_append_drop k lo, List.append_assoc] at this
    exact (List.nodup_append.1 this).2.1
  · rw [List.mem_append] at hx ⊢
    exact hx.imp List.mem_of_mem_drop id
theorem takeS_drop {lo yo : List Int} (hg : (chk lo yo).2.2 = 0) {k : Nat} {y : Int} (hy : lo[k]? = some y) : takeS (lo.drop k) yo = ⟨lo.drop (k + 1), yo, y, 0⟩ := by
  obtain ⟨hk, hv⟩ := List.getElem?_eq_some_iff.1 hy
  have hd : lo.drop k = y :: lo.drop (k + 1) := by rw [List.drop_eq_getElem_cons hk, hv]
  rcases takeS_cases (good_drop hg k) with ⟨h, _⟩ | ⟨c, r, h, h2⟩
  · rw [hd] at h; cases h
  · rw [hd] at h; cases h; rw [h2]
end Go.Own
namespace Go.Own
theorem clear_get {lo yo : List Int} (hg : (chk lo yo).2.2 = 0) {k : Nat} {y : Int} (hy : (clearS lo yo).lo[k]? = some y) : lo[k]? = some y := by
  rw [clearS_ok hg] at hy; exact hy
theorem takeS_dropE {lo yo : List Int} (hg : (chk lo yo).2.2 = 0) {k : Nat} (h : k < lo.length) : takeS (lo.drop k) yo = ⟨lo.drop (k + 1), yo, lo[k], 0⟩ := takeS_drop hg (List.getElem?_eq_getElem h)
end Go.Own
