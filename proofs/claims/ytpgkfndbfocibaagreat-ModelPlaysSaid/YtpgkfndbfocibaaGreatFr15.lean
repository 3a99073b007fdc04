import Derived.Test.YtpgkfndbfocibaaGreatFr4
import Derived.Test.YtpgkfndbfocibaaGreatSepU
import Derived.SizedLaws
namespace Go.Own
open Go Go.RowKit Go.WideShapes Go.ChangeShapes
section
variable {H : Type} {enc : TypeId × Value → H} {P : Program}
end
end Go.Own
namespace Go.Own
open Go Go.RowKit Go.WideShapes Go.ChangeShapes
section
variable {P : Program}
end
end Go.Own
