import Derived.Test.YteppjefmlibmoaaProg
import Derived.Test.YteppjefmlibmoaaRm5
import Derived.Test.YteppjefmlibmoaaPl8f
import Derived.Test.YteppjefmlibmoaaSep8c
import Derived.Test.YteppjefmlibmoaaSl6
namespace Go.Proofs.Yteppjefmlibmoaa
open Go.RowKit Go.Own Go.Own.R Go.Own.S Go.Own.E


end Go.Proofs.Yteppjefmlibmoaa