import Derived.Test.YteppjefmlibmoaaGreatProg
import Derived.Test.YteppjefmlibmoaaGreatRm5
import Derived.Test.YteppjefmlibmoaaGreatPl8f
import Derived.Test.YteppjefmlibmoaaGreatSep8c
import Derived.Test.YteppjefmlibmoaaGreatSl6
namespace Go.Proofs.YteppjefmlibmoaaGreat
open Go.RowKit Go.Own Go.Own.R Go.Own.S Go.Own.E


end Go.Proofs.YteppjefmlibmoaaGreat