import Derived.Test.YtpgkfndbfocibaaGreatPl29j
import Derived.Test.YtpgkfndbfocibaaGreatPl15j
/-! questions and refused operations leave the graph as it is -/
namespace Go.Own.Ml
open Go Go.Own Go.Own.R Go.Own.G Go.Own.Gr
section
variable {mx : Int} {g : GA} {c : OpC}
/-- the answer of a graph that is not changed. -/
theorem as_sm {G Gt : GV} (h : gab Gt = gab G) : smG (G.1.2.map ab) G.2.2 (Gt.1.2.map ab) Gt.2.2 = true := sm_same (congrArg Prod.fst h).symm (congrArg Prod.snd h).symm
end
end Go.Own.Ml
