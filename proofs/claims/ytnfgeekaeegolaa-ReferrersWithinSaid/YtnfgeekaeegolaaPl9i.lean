import Derived.Test.YtnfgeekaeegolaaPl9h
/-! lists side by side -/
namespace Go.Own.F
open Go Go.Own Go.Own.R Go.Own.S
def ccF (us : List RS) : List (Int × Int) := (us.map (·.2)).flatten
theorem cc_in {us : List RS} {k : Nat} {y : RS} (hy : us[k]? = some y) : ccF (us.take k) ++ y.2 = ccF (us.take (k + 1)) := by
  unfold ccF; rw [take_add9 hy, List.map_append, List.flatten_append]; simp
theorem cc_len {us : List RS} {k : Nat} {y : RS} (hy : us[k]? = some y) : ((ccF (us.take k)).length : Int) + y.2.length = ((ccF (us.take (k + 1))).length : Int) := by
  rw [← cc_in hy, List.length_append]; omega
theorem cc_le (us : List RS) (k : Nat) : (ccF (us.take k)).length ≤ (ccF us).length := by
  have h : ccF us = ccF (us.take k) ++ ccF (us.drop k) := by
    unfold ccF; rw [← List.flatten_append, ← List.map_append, List.take_append_drop]
  rw [h, List.length_append]; omega
end Go.Own.F
