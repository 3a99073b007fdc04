import Derived.Test.YtodbfgfbkgpooaaDoorTr6
namespace Go.Proofs.YtodbfgfbkgpooaaDoor
open Go.RowKit Go.Own

end Go.Proofs.YtodbfgfbkgpooaaDoor
