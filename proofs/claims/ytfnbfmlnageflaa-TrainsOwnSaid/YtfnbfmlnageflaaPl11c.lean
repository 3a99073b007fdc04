import Derived.Test.YtfnbfmlnageflaaPl11b
namespace Go.Own
open Go
theorem own_e {lo yo : List Int} {b : Bool} (hg : (chk lo yo).2.2 = 0) : decide ((relinkS lo yo b).e = 0) = decide ((0 : Int) < (lo.length : Int)) := by
  rw [relinkS_e]
  rcases takeS_cases hg with ⟨rfl, h⟩ | ⟨c, r, rfl, h⟩
  · rw [h]; simp
  · rw [h]; simp
end Go.Own
