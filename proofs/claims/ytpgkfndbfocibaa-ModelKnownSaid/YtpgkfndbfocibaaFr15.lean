import Derived.Test.YtpgkfndbfocibaaFr4
import Derived.Test.YtpgkfndbfocibaaSepU
import Derived.SizedLaws
/-! arguments: graphs (slices of structs of two slices of ints), with the reach of each slice -/
namespace Go.Own
open Go Go.RowKit Go.WideShapes Go.ChangeShapes
section
variable {H : Type} {enc : TypeId × Value → H} {P : Program}
end
end Go.Own
namespace Go.Own
open Go Go.RowKit Go.WideShapes Go.ChangeShapes
section
variable {P : Program}
end
end Go.Own
