import Derived.Test.YtodbfgfbkgpooaaDoorTr5
import Derived.Test.YtodbfgfbkgpooaaDoorStep3
namespace Go.Proofs.YtodbfgfbkgpooaaDoor
open Go.RowKit Go.Own

end Go.Proofs.YtodbfgfbkgpooaaDoor
