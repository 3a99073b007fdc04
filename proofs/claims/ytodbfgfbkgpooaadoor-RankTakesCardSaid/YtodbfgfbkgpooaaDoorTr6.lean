import Derived.Test.YtodbfgfbkgpooaaDoorTr5
import Derived.Test.YtodbfgfbkgpooaaDoorStep
namespace Go.Proofs.YtodbfgfbkgpooaaDoor
open Go.RowKit Go.Own

end Go.Proofs.YtodbfgfbkgpooaaDoor
