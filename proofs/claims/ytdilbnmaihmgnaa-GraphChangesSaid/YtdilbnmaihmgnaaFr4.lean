import Derived.Test.YtdilbnmaihmgnaaFr
import Derived.Test.YtdilbnmaihmgnaaSepR
import Derived.Deep.SlicePairs
/-! arguments: slices of pairs of ints, structs of three ints -/
namespace Go.Own
open Go Go.RowKit Go.WideShapes Go.ChangeShapes
section
variable {H : Type} {enc : TypeId × Value → H} {P : Program}
end
end Go.Own
