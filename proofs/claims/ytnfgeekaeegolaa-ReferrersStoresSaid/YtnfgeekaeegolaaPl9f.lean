import Derived.Test.YtnfgeekaeegolaaPl9e
namespace Go.Own.F
open Go Go.Own Go.Own.R Go.Own.S
theorem mx_in {l : List (Int × Int)} {k : Nat} {y : Int × Int} (hk : 1 ≤ k) (hy : l[k]? = some y) (h : (mxP (l.take k)).2 < y.2) : mxP (l.take (k + 1)) = y := by
  rw [mx_snoc hk hy]; unfold mx1; rw [if_pos h]
theorem mx_out {l : List (Int × Int)} {k : Nat} {y : Int × Int} (hk : 1 ≤ k) (hy : l[k]? = some y) (h : ¬ (mxP (l.take k)).2 < y.2) : mxP (l.take (k + 1)) = mxP (l.take k) := by
  rw [mx_snoc hk hy]; unfold mx1; rw [if_neg h]
theorem mxE_err {l : List (Int × Int)} (h : (ckL l).2 ≠ 0) : mxE l = (ckL l).2 := by unfold mxE; rw [if_pos h]
theorem mxE_nil {l : List (Int × Int)} (h : (ckL l).2 = 0) (h2 : (l.length : Int) = 0) : mxE l = 4 := by unfold mxE; rw [if_neg (by omega), if_pos (by omega)]
theorem mxE_ok {l : List (Int × Int)} (h : (ckL l).2 = 0) (h2 : ¬ (l.length : Int) = 0) : mxE l = 0 := by unfold mxE; rw [if_neg (by omega), if_neg (by omega)]
theorem mxT_err {l : List (Int × Int)} (h : mxE l ≠ 0) : mxT l = (0, 0) := by unfold mxT; rw [if_pos h]
theorem mxT_ok {l : List (Int × Int)} (h : mxE l = 0) : mxT l = mxP l := by unfold mxT; rw [if_neg (by omega)]
/-- a is more than b: the count first, then the lower target. -/
theorem or_pos {a b : Int × Int} (hlt : b.1 < a.1) : 0 < orI [cmpI a.2 b.2, cmpI b.1 a.1] ↔ b.2 < a.2 := by
  unfold orI orI orI cmpI
  split <;> rename_i h <;> repeat' split <;> omega
end Go.Own.F
