import Derived.Test.YtpgkfndbfocibaaGreatPl15i
namespace Go.Own.Gr
open Go Go.Own Go.Own.R Go.Own.G
theorem sm_same {O O2 : List Ab} {rs rs2 : List Int} (h2 : O = O2) (h3 : rs = rs2) : smG O rs O2 rs2 = true := by unfold smG; simp [h2, h3]
end Go.Own.Gr
