import Derived.Test.YtnfgeekaeegolaaProg
import Derived.Test.YtnfgeekaeegolaaRe3
import Derived.Test.YtnfgeekaeegolaaSepJ
import Derived.Test.YtnfgeekaeegolaaPl9i
import Derived.Test.YtnfgeekaeegolaaPl9j
namespace Go.Proofs.Ytnfgeekaeegolaa
open Go.RowKit Go.Own Go.Own.R Go.Own.S Go.Own.F Go.Own.G


end Go.Proofs.Ytnfgeekaeegolaa
namespace Go.Proofs.Ytnfgeekaeegolaa
open Go.RowKit Go.Own Go.Own.R Go.Own.S Go.Own.F Go.Own.G


end Go.Proofs.Ytnfgeekaeegolaa
namespace Go.Proofs.Ytnfgeekaeegolaa
open Go.RowKit Go.Own Go.Own.R Go.Own.S Go.Own.F Go.Own.G


end Go.Proofs.Ytnfgeekaeegolaa