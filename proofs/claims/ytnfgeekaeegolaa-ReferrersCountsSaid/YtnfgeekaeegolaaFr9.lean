import Derived.Test.YtnfgeekaeegolaaFr7
/-! arguments of layer 9: the range of a word; slices of counts -/
namespace Go.Own
open Go Go.RowKit Go.WideShapes Go.ChangeShapes
theorem wf_u64_lo {a : Int} (h : (Lit.int .u64 a).wf = true) : 0 ≤ a := by
  simp [Lit.wf, IntKind.min, IntKind.max, IntKind.signed, IntKind.bits] at h; omega
theorem wf_u64_hi {a : Int} (h : (Lit.int .u64 a).wf = true) : a ≤ 18446744073709551615 := by
  simp [Lit.wf, IntKind.min, IntKind.max, IntKind.signed, IntKind.bits] at h; omega
end Go.Own
