import Derived.Test.YteppjefmlibmoaaPl8f
/-! the references' changes and Purge -/
namespace Go.Own.E
open Go Go.Own Go.Own.R Go.Own.S
variable {C N Z K Q slot target old now : Int} {X : List (List Int)} {ns : List Int}
theorem tkC {α : Type} {l : List α} {j : Nat} {y : α} (h : l[j]? = some y) : l.take j ++ [y] = l.take (j + 1) := by
  rw [List.take_add_one, h]; rfl
theorem pl_tg (h : plE C N Z K Q slot target = 0) (h2 : target ≠ 0) : caE C N Z K Q target = 0 := by
  unfold plE at h; split at h
  · omega
  · exact h
def asE (C N Z K Q : Int) (X : List (List Int)) (ns : List Int) (slot target : Int) : Int := if (rmP C N Z K Q X ns).2 ≠ 0 then (rmP C N Z K Q X ns).2 else plE C N Z K Q slot target
theorem pl_z (h : caE C N Z K Q slot = 0) : plE C N Z K Q slot 0 = 0 := by unfold plE; rw [if_neg (by omega), if_pos rfl]
theorem as_rec : chE8 C N Z K Q X ns slot 0 now = asE C N Z K Q X ns slot now := by
  unfold asE
  by_cases h : (rmP C N Z K Q X ns).2 ≠ 0
  · rw [if_pos h, ch8_e1 h]
  · rw [if_neg h]
    by_cases hs : caE C N Z K Q slot = 0
    · rw [ch8_e3 (by omega) (pl_z hs)]
    · have e1 : plE C N Z K Q slot 0 = caE C N Z K Q slot := by unfold plE; rw [if_pos hs]
      have e2 : plE C N Z K Q slot now = caE C N Z K Q slot := by unfold plE; rw [if_pos hs]
      rw [ch8_e2 (by omega) (by omega), e1, e2]
theorem as_for : chE8 C N Z K Q X ns slot old 0 = asE C N Z K Q X ns slot old := by
  unfold asE
  by_cases h : (rmP C N Z K Q X ns).2 ≠ 0
  · rw [if_pos h, ch8_e1 h]
  · rw [if_neg h]
    by_cases ho : plE C N Z K Q slot old = 0
    · rw [ch8_e3 (by omega) ho, ho, pl_z (pl_slot ho)]
    · rw [ch8_e2 (by omega) ho]
theorem plN_z : plN C N Z K Q slot 0 = -2 := by unfold plN; rw [if_pos (Or.inr (Or.inl rfl))]
variable {i car a b : Int} {U : List SL} {k : Nat} {c y : List Int}
theorem gD_ap (h : X[k]? = some c) : (X ++ [ns]).getD k [] = c := by
  have hk := (List.getElem?_eq_some_iff.1 h).1
  rw [List.getD_eq_getElem?_getD, List.getElem?_append_left hk, h]; rfl
end Go.Own.E

/-! the law's bounds -/
namespace Go.Own.E
open Go Go.Own Go.Own.R Go.Own.S
def frB (c : List Int) : Bool := decide ((300 < c.length ∧ c.length ≤ 8192) ∨ 8200 < c.length)
def FarB (X : List (List Int)) (ns : List Int) : Bool := decide (26 < X.length) || frB ns || X.any frB
variable {X : List (List Int)} {ns : List Int}
theorem fr_T {c : List Int} (h : (300 < c.length ∧ c.length ≤ 8192) ∨ 8200 < c.length) : frB c = true := by unfold frB; exact decide_eq_true h
theorem fr_F {c : List Int} (h : ¬ ((300 < c.length ∧ c.length ≤ 8192) ∨ 8200 < c.length)) : frB c = false := by unfold frB; exact decide_eq_false h
theorem far_1 (h : 26 < X.length) : FarB X ns = true := by unfold FarB; rw [decide_eq_true h]; rfl
theorem far_2 (h : frB ns = true) : FarB X ns = true := by unfold FarB; rw [h]; simp
theorem far_3 {k : Nat} {c : List Int} (hy : X[k]? = some c) (h : frB c = true) : FarB X ns = true := by
  unfold FarB; rw [List.any_eq_true.2 ⟨c, List.mem_of_getElem? hy, h⟩]; simp
theorem far_no {k : Nat} (h1 : ¬ 26 < X.length) (h2 : frB ns = false) (hz : ∀ c ∈ X.take k, frB c = false) (hk : X.length ≤ k) : FarB X ns = false := by
  rw [List.take_of_length_le hk] at hz
  unfold FarB; rw [decide_eq_false h1, h2, List.any_eq_false.2 (fun c hc => by rw [hz c hc]; simp)]; rfl
theorem fr_step {k : Nat} {c : List Int} (hz : ∀ c ∈ X.take k, frB c = false) (hy : X[k]? = some c) (h : frB c = false) : ∀ c ∈ X.take (k + 1), frB c = false := by
  intro d hd
  rw [← tkC hy] at hd
  rcases List.mem_append.1 hd with q | q
  · exact hz d q
  · rw [List.mem_singleton.1 q]; exact h
theorem far_ok (h : FarB X ns = false) : X.length ≤ 26 ∧ (∀ c ∈ X, c.length ≤ 8200) ∧ ns.length ≤ 8200 := by
  unfold FarB at h
  simp only [Bool.or_eq_false_iff, decide_eq_false_iff_not, List.any_eq_false, frB] at h
  refine ⟨by omega, fun c hc => ?_, by omega⟩
  have := h.2 c hc
  simp only [decide_eq_true_eq] at this; omega
theorem nwX_len {C N Z K Q : Int} {m : Nat} (h : 24 ≤ m) : (nwC C N Z K Q).length ≤ m := by
  by_cases e : cfE C N Z K Q = 0
  · rw [(nw_k e).1, List.length_replicate]; have := cf_rng e; omega
  · rw [(nw_e e).1]; simp
theorem chX_len {C N Z K Q slot old now : Int} {m : Nat} (h : X.length ≤ m) : (chC C N Z K Q X ns slot old now).length ≤ m := by
  by_cases e : chE8 C N Z K Q X ns slot old now = 0
  · by_cases q : old = now
    · rw [(ch_same e q).1]; exact h
    · rw [(ch_k e q).1, cgC_len, cgC_len]; exact h
  · rw [(ch_bad e).1]; simp
theorem prX_len {C N Z K Q i : Int} {m : Nat} (h : X.length ≤ m) : (prC C N Z K Q X ns i).length ≤ m := by
  by_cases e : frE C N Z K Q X ns i = 0
  · rw [(pr_ok e).1, pgC_len]; exact h
  · rw [(pr_bad e).1]; simp
end Go.Own.E
