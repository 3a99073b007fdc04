import Derived.Test.YteppjefmlibmoaaPl8c
/-! where a slot belongs; sets that are changed -/
namespace Go.Own.E
open Go Go.Own Go.Own.R Go.Own.S
def GL (X : List (List Int)) (ns : List Int) : Prop := X.length ≤ 1000 ∧ (∀ c ∈ X, c.length ≤ 8192) ∧ ns.length ≤ 8192
theorem gl_of {C N Z K Q : Int} {X : List (List Int)} {ns : List Int} (h : (rmP C N Z K Q X ns).2 = 0) : GL X ns := by
  obtain ⟨h1, h2, h3, h4⟩ := rm_lens h
  exact ⟨by omega, fun c hc => (h2 c hc).1, h3⟩
theorem gl_at {U : List SL} {ns : List Int} {k : Nat} {y : SL} (h : GL (csF U) ns) (hy : U[k]? = some y) : y.2.length ≤ 8192 := h.2.1 _ (List.mem_of_getElem? (csF_at hy))
theorem cp_len {U V : List SL} {k : Nat} (h : csF V = cpK (csF U) k) : V.length = U.length := by rw [← csF_len, h, cpK_len, csF_len]
theorem cs_len {U : List SL} {X : List (List Int)} (h : csF U = X) : U.length = X.length := by rw [← h, csF_len]
theorem cs_mem {U : List SL} {X : List (List Int)} {k : Nat} {y : SL} (h : csF U = X) (hy : U[k]? = some y) : X[k]? = some y.2 := by rw [← h]; exact csF_at hy
section
variable {C N Z K Q slot target old now : Int} {X : List (List Int)} {ns : List Int}
theorem pl_bad (h : caE C N Z K Q slot ≠ 0) : plE C N Z K Q slot target = caE C N Z K Q slot ∧ plN C N Z K Q slot target = -2 := by
  have he : plE C N Z K Q slot target = caE C N Z K Q slot := by unfold plE; rw [if_pos h]
  exact ⟨he, by unfold plN; rw [if_pos (.inl (by omega))]⟩
theorem pl_zero (h : caE C N Z K Q slot = 0) (h2 : target = 0) : plE C N Z K Q slot target = 0 ∧ plN C N Z K Q slot target = -2 := by
  have he : plE C N Z K Q slot target = 0 := by unfold plE; rw [if_neg (by omega), if_pos h2]
  exact ⟨he, by unfold plN; rw [if_pos (.inr (.inl h2))]⟩
theorem pl_bad2 (h : caE C N Z K Q slot = 0) (h2 : target ≠ 0) (h3 : caE C N Z K Q target ≠ 0) : plE C N Z K Q slot target = caE C N Z K Q target ∧ plN C N Z K Q slot target = -2 := by
  have he : plE C N Z K Q slot target = caE C N Z K Q target := by unfold plE; rw [if_neg (by omega), if_neg h2]
  exact ⟨he, by unfold plN; rw [if_pos (.inl (by omega))]⟩
theorem pl_none (h : caE C N Z K Q slot = 0) (h2 : target ≠ 0) (h3 : caE C N Z K Q target = 0) (h4 : caN C N Z K Q slot < 0 ∨ caN C N Z K Q slot = caN C N Z K Q target) : plE C N Z K Q slot target = 0 ∧ plN C N Z K Q slot target = -2 := by
  have he : plE C N Z K Q slot target = 0 := by unfold plE; rw [if_neg (by omega), if_neg h2, h3]
  exact ⟨he, by unfold plN; rw [if_pos (.inr (.inr h4))]⟩
theorem pl_some (h : caE C N Z K Q slot = 0) (h2 : target ≠ 0) (h3 : caE C N Z K Q target = 0) (h4 : ¬ (caN C N Z K Q slot < 0 ∨ caN C N Z K Q slot = caN C N Z K Q target)) : plE C N Z K Q slot target = 0 ∧ plN C N Z K Q slot target = caN C N Z K Q target := by
  have he : plE C N Z K Q slot target = 0 := by unfold plE; rw [if_neg (by omega), if_neg h2, h3]
  exact ⟨he, by unfold plN; rw [if_neg (by omega)]⟩
theorem pl_slot (h : plE C N Z K Q slot target = 0) : caE C N Z K Q slot = 0 := by
  by_cases q : caE C N Z K Q slot = 0
  · exact q
  · rw [(pl_bad q).1] at h; exact absurd h q
theorem cg_at {i : Int} {add : Bool} {k : Nat} {c : List Int} (h : 0 ≤ i) (hk : k = i.toNat) (hy : X[k]? = some c) : cgC X i slot add = X.set k (stF add c slot) := by
  subst hk; unfold cgC; rw [if_pos h, List.getD_eq_getElem?_getD, hy]; rfl
theorem cg_neg {i : Int} {add : Bool} (h : i < 0) : cgC X i slot add = X := by unfold cgC; rw [if_neg (by omega)]
theorem cgN_at {i : Int} {add : Bool} (h : i = -1) : cgN ns i slot add = stF add ns slot := by unfold cgN; rw [if_pos h]
theorem cgN_no {i : Int} {add : Bool} (h : i ≠ -1) : cgN ns i slot add = ns := by unfold cgN; rw [if_neg h]
theorem ch_all (h : (rmP C N Z K Q X ns).2 = 0) (hs : caE C N Z K Q slot = 0) : (∀ c ∈ X, chE c slot = 0) ∧ chE ns slot = 0 := by
  obtain ⟨h1, h2, h3, h4⟩ := rm_lens h
  obtain ⟨q0, q1, q2, q3⟩ := ca_0 hs
  exact ⟨fun c hc => chE_ok (by have := (h2 c hc).2; omega) ⟨q1, q3⟩, chE_ok (by omega) ⟨q1, q3⟩⟩
theorem st_ch {c : List Int} {add : Bool} (h : chE c slot = 0) : chE (stF add c slot) slot = 0 := by
  obtain ⟨g, hr⟩ := ch0 h
  refine ch_iff.2 ⟨?_, hr⟩
  unfold stF
  obtain ⟨m1, m2, m3, m4⟩ := fnd_mem g.toGw (a := slot) (by omega)
  cases add
  · simp only [Bool.false_eq_true, if_false]
    unfold drT drpT
    rw [if_neg (by omega)]
    by_cases q : 0 ≤ fnd c slot
    · rw [if_pos q]; exact (drop_at' g (by omega) (m3 q)).1
    · rw [if_neg q]; exact g
  · simp only [if_true]
    unfold adT
    rw [if_neg (by omega)]
    by_cases q : 0 ≤ fnd c slot
    · rw [if_pos q]; exact g
    · rw [if_neg q]; exact (add_good g hr (fun hm => q (m1.2 hm))).1
theorem ch_cg {i : Int} {add : Bool} (h : ∀ c ∈ X, chE c slot = 0) : ∀ c ∈ cgC X i slot add, chE c slot = 0 := fun c hc => by
  unfold cgC at hc
  split at hc
  · rcases List.mem_or_eq_of_mem_set hc with q | q
    · exact h c q
    · by_cases hk : i.toNat < X.length
      · have e : X.getD i.toNat [] = X[i.toNat] := by rw [List.getD_eq_getElem?_getD, List.getElem?_eq_getElem hk]; rfl
        rw [q, e]; exact st_ch (h _ (List.getElem_mem hk))
      · rw [List.set_eq_of_length_le (by omega)] at hc; exact h c hc
  · exact h c hc
theorem wg_1 {s o n p q : Int} (h : o ≠ n) : wget (wset (wset [] (s, o) p) (s, n) q) (s, o) = p := by
  have e1 : ((s, o) == (s, n)) = false := by simpa using h
  simp [wget, wset, wix, e1, List.findIdx_cons]
theorem wg_2 {s o n p q : Int} (h : o ≠ n) : wget (wset (wset [] (s, o) p) (s, n) q) (s, n) = q := by
  have e1 : ((s, o) == (s, n)) = false := by simpa using h
  simp [wget, wset, wix, e1, List.findIdx_cons, List.find?_cons]
theorem ch8_e1 (h : (rmP C N Z K Q X ns).2 ≠ 0) : chE8 C N Z K Q X ns slot old now = (rmP C N Z K Q X ns).2 := by unfold chE8; rw [if_pos h]
theorem ch8_e2 (h : (rmP C N Z K Q X ns).2 = 0) (h2 : plE C N Z K Q slot old ≠ 0) : chE8 C N Z K Q X ns slot old now = plE C N Z K Q slot old := by unfold chE8; rw [if_neg (by omega), if_pos h2]
theorem ch8_e3 (h : (rmP C N Z K Q X ns).2 = 0) (h2 : plE C N Z K Q slot old = 0) : chE8 C N Z K Q X ns slot old now = plE C N Z K Q slot now := by unfold chE8; rw [if_neg (by omega), if_neg (by omega)]
theorem ch_bad (h : chE8 C N Z K Q X ns slot old now ≠ 0) : chC C N Z K Q X ns slot old now = [] ∧ chN C N Z K Q X ns slot old now = [] := by unfold chC chN; rw [if_pos h, if_pos h]; exact ⟨rfl, rfl⟩
theorem ch_same (h : chE8 C N Z K Q X ns slot old now = 0) (h2 : old = now) : chC C N Z K Q X ns slot old now = X ∧ chN C N Z K Q X ns slot old now = ns := by
  unfold chC chN; rw [if_neg (by omega), if_pos h2, if_neg (by omega), if_pos h2]; exact ⟨rfl, rfl⟩
theorem ch_k (h : chE8 C N Z K Q X ns slot old now = 0) (h2 : old ≠ now) : chC C N Z K Q X ns slot old now = cgC (cgC X (plN C N Z K Q slot old) slot false) (plN C N Z K Q slot now) slot true ∧ chN C N Z K Q X ns slot old now = cgN (cgN ns (plN C N Z K Q slot old) slot false) (plN C N Z K Q slot now) slot true := by
  unfold chC chN; rw [if_neg (by omega), if_neg h2, if_neg (by omega), if_neg h2]; exact ⟨rfl, rfl⟩
end
end Go.Own.E
