import Derived.Test.YtodbfgfbkgpooaaDoorTr1
namespace Go.Proofs.YtodbfgfbkgpooaaDoor
open Go.RowKit Go.Own

end Go.Proofs.YtodbfgfbkgpooaaDoor
