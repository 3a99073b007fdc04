import Derived.Test.YtnfgeekaeegolaaFr7
/-! arguments of layer 9: the range of a word; slices of counts -/
namespace Go.Own
open Go Go.RowKit Go.WideShapes Go.ChangeShapes
end Go.Own
