import Derived.Test.YtnfgeekaeegolaaPl9h
/-! lists side by side -/
namespace Go.Own.F
open Go Go.Own Go.Own.R Go.Own.S
def ccF (us : List RS) : List (Int × Int) := (us.map (·.2)).flatten
end Go.Own.F
