import Derived.Test.YtodbfgfbkgpooaaDoorTr7
namespace Go.Proofs.YtodbfgfbkgpooaaDoor
open Go.RowKit Go.Own

def sameT (l1 y1 l2 y2 : List Int) : Bool := eqI l1 l2 && eqI y1 y2

end Go.Proofs.YtodbfgfbkgpooaaDoor
