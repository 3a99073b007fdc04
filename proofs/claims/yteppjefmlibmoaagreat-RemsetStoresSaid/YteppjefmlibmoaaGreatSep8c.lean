import Derived.Test.YteppjefmlibmoaaGreatSep8b
import Derived.Test.YteppjefmlibmoaaGreatSepS
/-! a sort, a compact of what may be empty -/
namespace Go.Own
open Go Go.RowKit Go.Sort
end Go.Own
