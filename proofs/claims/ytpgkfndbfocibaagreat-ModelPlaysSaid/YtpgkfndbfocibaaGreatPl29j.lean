import Derived.Test.YtpgkfndbfocibaaGreatPl29h
namespace Go.Own.Ml
open Go Go.Own Go.Own.R Go.Own.G Go.Own.Gr
section
variable {cf n K : Int} {l : List OpC} {ans : List AnC} {k : Nat} {y : OpC} {z : AnC} {G0 : GV} {pre : List ME} {x : ME}
end
end Go.Own.Ml
namespace Go.Own.Ml
open Go Go.Own Go.Own.R Go.Own.G Go.Own.Gr
section
variable {cf n K : Int} {g : GA} {c : OpC}
end
end Go.Own.Ml
namespace Go.Own
open Go Go.RowKit
end Go.Own
