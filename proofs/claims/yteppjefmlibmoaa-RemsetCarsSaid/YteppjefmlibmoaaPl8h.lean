import Derived.Test.YteppjefmlibmoaaPl8f
/-! the references' changes and Purge -/
namespace Go.Own.E
open Go Go.Own Go.Own.R Go.Own.S
variable {C N Z K Q slot target old now : Int} {X : List (List Int)} {ns : List Int}
theorem tkC {α : Type} {l : List α} {j : Nat} {y : α} (h : l[j]? = some y) : l.take j ++ [y] = l.take (j + 1) := by
  rw [List.take_add_one, h]; rfl
def asE (C N Z K Q : Int) (X : List (List Int)) (ns : List Int) (slot target : Int) : Int := if (rmP C N Z K Q X ns).2 ≠ 0 then (rmP C N Z K Q X ns).2 else plE C N Z K Q slot target
variable {i car a b : Int} {U : List SL} {k : Nat} {c y : List Int}
theorem pgC_at (h : X[k]? = some c) (hy : y = pgF car a b k c) : (pgC X car a b)[k]? = some y := by
  unfold pgC; rw [List.getElem?_mapIdx, h, hy]; rfl
theorem gD_ap (h : X[k]? = some c) : (X ++ [ns]).getD k [] = c := by
  have hk := (List.getElem?_eq_some_iff.1 h).1
  rw [List.getD_eq_getElem?_getD, List.getElem?_append_left hk, h]; rfl
end Go.Own.E

/-! the law's bounds -/
namespace Go.Own.E
open Go Go.Own Go.Own.R Go.Own.S
def frB (c : List Int) : Bool := decide ((300 < c.length ∧ c.length ≤ 8192) ∨ 8200 < c.length)
def FarB (X : List (List Int)) (ns : List Int) : Bool := decide (26 < X.length) || frB ns || X.any frB
variable {X : List (List Int)} {ns : List Int}
theorem fr_T {c : List Int} (h : (300 < c.length ∧ c.length ≤ 8192) ∨ 8200 < c.length) : frB c = true := by unfold frB; exact decide_eq_true h
theorem fr_F {c : List Int} (h : ¬ ((300 < c.length ∧ c.length ≤ 8192) ∨ 8200 < c.length)) : frB c = false := by unfold frB; exact decide_eq_false h
theorem far_1 (h : 26 < X.length) : FarB X ns = true := by unfold FarB; rw [decide_eq_true h]; rfl
theorem far_2 (h : frB ns = true) : FarB X ns = true := by unfold FarB; rw [h]; simp
theorem far_3 {k : Nat} {c : List Int} (hy : X[k]? = some c) (h : frB c = true) : FarB X ns = true := by
  unfold FarB; rw [List.any_eq_true.2 ⟨c, List.mem_of_getElem? hy, h⟩]; simp
theorem far_no {k : Nat} (h1 : ¬ 26 < X.length) (h2 : frB ns = false) (hz : ∀ c ∈ X.take k, frB c = false) (hk : X.length ≤ k) : FarB X ns = false := by
  rw [List.take_of_length_le hk] at hz
  unfold FarB; rw [decide_eq_false h1, h2, List.any_eq_false.2 (fun c hc => by rw [hz c hc]; simp)]; rfl
theorem fr_step {k : Nat} {c : List Int} (hz : ∀ c ∈ X.take k, frB c = false) (hy : X[k]? = some c) (h : frB c = false) : ∀ c ∈ X.take (k + 1), frB c = false := by
  intro d hd
  rw [← tkC hy] at hd
  rcases List.mem_append.1 hd with q | q
  · exact hz d q
  · rw [List.mem_singleton.1 q]; exact h
theorem far_ok (h : FarB X ns = false) : X.length ≤ 26 ∧ (∀ c ∈ X, c.length ≤ 8200) ∧ ns.length ≤ 8200 := by
  unfold FarB at h
  simp only [Bool.or_eq_false_iff, decide_eq_false_iff_not, List.any_eq_false, frB] at h
  refine ⟨by omega, fun c hc => ?_, by omega⟩
  have := h.2 c hc
  simp only [decide_eq_true_eq] at this; omega
theorem nwX_len {C N Z K Q : Int} {m : Nat} (h : 24 ≤ m) : (nwC C N Z K Q).length ≤ m := by
  by_cases e : cfE C N Z K Q = 0
  · rw [(nw_k e).1, List.length_replicate]; have := cf_rng e; omega
  · rw [(nw_e e).1]; simp
theorem chX_len {C N Z K Q slot old now : Int} {m : Nat} (h : X.length ≤ m) : (chC C N Z K Q X ns slot old now).length ≤ m := by
  by_cases e : chE8 C N Z K Q X ns slot old now = 0
  · by_cases q : old = now
    · rw [(ch_same e q).1]; exact h
    · rw [(ch_k e q).1, cgC_len, cgC_len]; exact h
  · rw [(ch_bad e).1]; simp
theorem prX_len {C N Z K Q i : Int} {m : Nat} (h : X.length ≤ m) : (prC C N Z K Q X ns i).length ≤ m := by
  by_cases e : frE C N Z K Q X ns i = 0
  · rw [(pr_ok e).1, pgC_len]; exact h
  · rw [(pr_bad e).1]; simp
end Go.Own.E
