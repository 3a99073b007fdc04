import Derived.Test.YteppjefmlibmoaaFr4
/-! arguments: a struct of one slice of ints -/
namespace Go.Own
open Go Go.RowKit Go.WideShapes Go.ChangeShapes
section
variable {H : Type} {enc : TypeId × Value → H} {P : Program}
end
end Go.Own
