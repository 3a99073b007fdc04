import Derived.Test.YteppjefmlibmoaaSep8b
import Derived.Test.YteppjefmlibmoaaSepS
/-! a sort, a compact of what may be empty -/
namespace Go.Own
open Go Go.RowKit Go.Sort
end Go.Own
