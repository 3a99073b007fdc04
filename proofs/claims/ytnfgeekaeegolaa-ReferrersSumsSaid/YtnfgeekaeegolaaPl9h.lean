import Derived.Test.YtnfgeekaeegolaaPl9g
/-! counts of two lists added up -/
namespace Go.Own.F
open Go Go.Own Go.Own.R Go.Own.S
def mgE (l m : List (Int × Int)) : Int := if (ckL l).2 ≠ 0 then (ckL l).2 else if (ckL m).2 ≠ 0 then (ckL m).2 else if (plA l m).any (fun x => decide (1600 < x.2)) then 7 else 0
def mgT (l m : List (Int × Int)) : List (Int × Int) := if mgE l m ≠ 0 then [] else plA l m
end Go.Own.F
