import Derived.Test.YtodbfgfbkgpooaaDoorTr2
namespace Go.Proofs.YtodbfgfbkgpooaaDoor
open Go.RowKit Go.Own

end Go.Proofs.YtodbfgfbkgpooaaDoor
