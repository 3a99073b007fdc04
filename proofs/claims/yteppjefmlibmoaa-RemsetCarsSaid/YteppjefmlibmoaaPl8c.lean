import Derived.Test.YteppjefmlibmoaaPl8b
/-! the check, set by set; copies; a slot is put into its set -/
namespace Go.Own.E
open Go Go.Own Go.Own.R Go.Own.S
theorem alC_all {U : List SL} {nv : Value} {ns : List Int} {j : Nat} (h : j < U.length + 1) : (alC (csF U) ns)[j]? = some (aI U j, (aS U nv ns j).2) := by
  by_cases q : j < U.length
  · have hy := List.getElem?_eq_getElem q
    rw [alC_at (csF_at hy), aI_at q, aS_at hy]
  · rw [alC_end (by rw [csF_len]; omega), aI_end q, aS_end (by omega)]
theorem rm_e1 {C N Z K Q : Int} {cs : List (List Int)} {ns : List Int} (h : cfE C N Z K Q ≠ 0) : rmP C N Z K Q cs ns = (-2, cfE C N Z K Q) := by unfold rmP; rw [if_pos h]
theorem rm_e2 {C N Z K Q : Int} {cs : List (List Int)} {ns : List Int} (h : cfE C N Z K Q = 0) (h2 : (cs.length : Int) ≠ N) : rmP C N Z K Q cs ns = (-2, 6) := by unfold rmP; rw [if_neg (by omega), if_pos h2]
theorem rm_hit {C N Z K Q : Int} {cs : List (List Int)} {ns : List Int} {k : Nat} {x : Int × List Int} (h : cfE C N Z K Q = 0) (h2 : (cs.length : Int) = N) (hz : ∀ i, i < k → ∀ y, (alC cs ns)[i]? = some y → wrE C N Z K Q y.2 y.1 = 0)
    (hx : (alC cs ns)[k]? = some x) (hw : wrE C N Z K Q x.2 x.1 ≠ 0) : rmP C N Z K Q cs ns = (x.1, wrE C N Z K Q x.2 x.1) := by
  unfold rmP; rw [if_neg (by omega), if_neg (by omega)]; exact rmGo_hit hz hx hw
theorem rm_ok {C N Z K Q : Int} {cs : List (List Int)} {ns : List Int} (h : cfE C N Z K Q = 0) (h2 : (cs.length : Int) = N) (hz : ∀ i, i < cs.length + 1 → ∀ y, (alC cs ns)[i]? = some y → wrE C N Z K Q y.2 y.1 = 0) : rmP C N Z K Q cs ns = (0, 0) := by
  unfold rmP; rw [if_neg (by omega), if_neg (by omega)]
  refine rmGo_ok fun y hy => ?_
  obtain ⟨k, hk⟩ := List.mem_iff_getElem?.1 hy
  have := (List.getElem?_eq_some_iff.1 hk).1
  rw [alC_len] at this
  exact hz k this y hk
/-- by the numbers of the sets. -/
def wrJ (C N Z K Q : Int) (U : List SL) (ns : List Int) (j : Nat) : Int := wrE C N Z K Q (aS U (.slice none 0 0) ns j).2 (aI U j)
theorem wrJ_eq {C N Z K Q : Int} {U : List SL} {nv : Value} {ns : List Int} {j : Nat} : wrE C N Z K Q (aS U nv ns j).2 (aI U j) = wrJ C N Z K Q U ns j := by unfold wrJ; rw [csF_aS, csF_aS]
theorem rmJ_hit {C N Z K Q : Int} {U : List SL} {nv : Value} {ns : List Int} {x : Nat} {e : Int} (h : cfE C N Z K Q = 0) (h2 : (U.length : Int) = N) (hz : ∀ j, j < x → wrJ C N Z K Q U ns j = 0) (hx : x < U.length + 1) (hw : wrE C N Z K Q (aS U nv ns x).2 (aI U x) = e) (he : e ≠ 0) :
    rmP C N Z K Q (csF U) ns = (aI U x, e) := by
  have := rm_hit (k := x) (ns := ns) h (cs := csF U) (by rw [csF_len]; exact h2) (fun i hi y hy => by rw [alC_all (nv := nv) (by omega)] at hy; cases hy; rw [wrJ_eq]; exact hz i hi) (alC_all (nv := nv) hx) (by rw [hw]; exact he)
  rw [this, hw]
theorem rmJ_ok {C N Z K Q : Int} {U : List SL} {ns : List Int} (h : cfE C N Z K Q = 0) (h2 : (U.length : Int) = N) (hz : ∀ j, j < U.length + 1 → wrJ C N Z K Q U ns j = 0) : rmP C N Z K Q (csF U) ns = (0, 0) :=
  rm_ok h (by rw [csF_len]; exact h2) fun i hi y hy => by
    rw [csF_len] at hi
    rw [alC_all (nv := .slice none 0 0) hi] at hy
    cases hy
    exact hz i hi
theorem wrJ_step {C N Z K Q : Int} {U : List SL} {nv : Value} {ns : List Int} {pre : List Nat} {x : Nat} (hp : pre = List.range x) (hz : ∀ j, j < pre.length → wrJ C N Z K Q U ns j = 0) (hw : wrE C N Z K Q (aS U nv ns x).2 (aI U x) = 0) : ∀ j, j < (pre ++ [x]).length → wrJ C N Z K Q U ns j = 0 := fun j hj => by
  subst hp
  simp at hj hz
  by_cases e : j = x
  · subst e; rw [← wrJ_eq (nv := nv)]; exact hw
  · exact hz j (by omega)
theorem wr_cells {C N Z K Q : Int} {c : List Int} {i : Int} {k : Nat} (h : (ckS c).2 = 0) (hb : ∀ a ∈ c.take k, 0 < a → ¬ bdA C N Z K Q i a = true) (hk : c.length ≤ k) : wrE C N Z K Q c i = 0 :=
  wr_ok h fun a ha => by
    obtain ⟨a1, a2⟩ := (ls_mem h).1 ha
    exact hb a (by rw [List.take_of_length_le hk]; exact a2) a1
theorem wr_bad_at {C N Z K Q : Int} {c : List Int} {i a : Int} {k : Nat} (h : (ckS c).2 = 0) (hy : c[k]? = some a) (h0 : 0 < a) (hb : bdA C N Z K Q i a = true) : wrE C N Z K Q c i = 7 :=
  wr_bad h ((ls_mem h).2 ⟨h0, List.mem_of_getElem? hy⟩) hb
theorem bd_step8 {C N Z K Q : Int} {l : List Int} {i : Int} {k : Nat} {a : Int} {P : Int → Prop} (hb : ∀ a ∈ l.take k, P a → ¬ bdA C N Z K Q i a = true) (hy : l[k]? = some a) (h : P a → ¬ bdA C N Z K Q i a = true) : ∀ a ∈ l.take (k + 1), P a → ¬ bdA C N Z K Q i a = true := fun x hx hp => by
  obtain ⟨hk, rfl⟩ := List.getElem?_eq_some_iff.1 hy
  rw [List.take_add_one, List.getElem?_eq_getElem hk] at hx
  rcases List.mem_append.1 hx with q | q
  · exact hb x q hp
  · simp at q; subst q; exact h hp
theorem bdA_T {C N Z K Q i a : Int} (h : caE C N Z K Q a ≠ 0 ∨ caN C N Z K Q a < 0 ∨ caN C N Z K Q a = i) : bdA C N Z K Q i a = true := by unfold bdA; exact decide_eq_true h
theorem bdA_F {C N Z K Q i a : Int} (h : ¬ (caE C N Z K Q a ≠ 0 ∨ caN C N Z K Q a < 0 ∨ caN C N Z K Q a = i)) : ¬ bdA C N Z K Q i a = true := by unfold bdA; rw [decide_eq_true_eq]; exact h
/-- sets of which the first k are copied. -/
def cpK (X : List (List Int)) (k : Nat) : List (List Int) := X.take k ++ List.replicate (X.length - k) []
theorem cpK_0 (X : List (List Int)) : List.replicate X.length [] = cpK X 0 := by simp [cpK]
theorem cpK_end {X : List (List Int)} {k : Nat} (h : X.length ≤ k) : cpK X k = X := by unfold cpK; rw [List.take_of_length_le h, Nat.sub_eq_zero_of_le h]; simp
theorem cpK_len (X : List (List Int)) (k : Nat) : (cpK X k).length = X.length := by unfold cpK; simp; omega
theorem cpK_set {X : List (List Int)} {k : Nat} {y : List Int} (h : X[k]? = some y) : (cpK X k).set k y = cpK X (k + 1) := by
  obtain ⟨hk, rfl⟩ := List.getElem?_eq_some_iff.1 h
  unfold cpK
  rw [List.set_append_right _ _ (by rw [List.length_take]; omega), List.length_take, Nat.min_eq_left (by omega), Nat.sub_self]
  obtain ⟨m, hm⟩ : ∃ m, X.length - k = m + 1 := ⟨X.length - k - 1, by omega⟩
  rw [hm, List.replicate_succ, List.set_cons_zero, List.take_add_one, List.getElem?_eq_getElem hk, show X.length - (k + 1) = m by omega]
  simp only [Option.toList_some, List.append_assoc, List.singleton_append]
theorem rm_lens {C N Z K Q : Int} {X : List (List Int)} {ns : List Int} (h : (rmP C N Z K Q X ns).2 = 0) : X.length ≤ 24 ∧ (∀ c ∈ X, c.length ≤ 8192 ∧ (ckS c).2 = 0) ∧ ns.length ≤ 8192 ∧ (ckS ns).2 = 0 := by
  obtain ⟨h1, h2, h3⟩ := rm_0 h
  have hr := cf_rng h1
  have key : ∀ y ∈ alC X ns, y.2.length ≤ 8192 ∧ (ckS y.2).2 = 0 := fun y hy => by
    have := (wr_0 (h3 y hy)).1
    exact ⟨(ck_iff.1 this).bd.2.1, this⟩
  refine ⟨by omega, fun c hc => ?_, key (-1, ns) ?_⟩
  · obtain ⟨k, hk⟩ := List.mem_iff_getElem?.1 hc
    exact key _ (List.mem_of_getElem? (alC_at hk))
  · exact List.mem_of_getElem? (alC_end rfl)
end Go.Own.E
