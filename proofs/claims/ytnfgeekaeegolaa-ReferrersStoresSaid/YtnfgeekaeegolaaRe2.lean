import Derived.Test.YtnfgeekaeegolaaProg
import Derived.Test.YtnfgeekaeegolaaRd3
import Derived.Test.YtnfgeekaeegolaaSepV
namespace Go.Proofs.Ytnfgeekaeegolaa
open Go.RowKit Go.Own Go.Own.R Go.Own.S Go.Own.F Go.Own.G


end Go.Proofs.Ytnfgeekaeegolaa
namespace Go.Proofs.Ytnfgeekaeegolaa
open Go.RowKit Go.Own Go.Own.R Go.Own.S Go.Own.F Go.Own.G


end Go.Proofs.Ytnfgeekaeegolaa