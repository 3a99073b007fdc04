import Derived.Test.YtdilbnmaihmgnaaPl15i
/-! what the laws' helpers answer -/
namespace Go.Own.Gr
open Go Go.Own Go.Own.R Go.Own.G
def farO (n : Nat) (o : Ab) : Bool := decide (40 < o.1.length + o.2.length ∨ (30 < n ∧ 0 < o.1.length + o.2.length))
def farG (O : List Ab) (rs : List Int) : Bool := decide (12 < rs.length ∨ (30 < O.length ∧ O.length < 400) ∨ 405 < O.length) || O.any (farO O.length)
def saG (e f : Int) (O : List Ab) (rs : List Int) (O2 : List Ab) (rs2 : List Int) : Bool := decide (e = f ∧ O = O2 ∧ rs = rs2)
end Go.Own.Gr
