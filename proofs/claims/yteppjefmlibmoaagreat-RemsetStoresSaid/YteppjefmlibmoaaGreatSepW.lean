import Derived.Test.YteppjefmlibmoaaGreatGen
namespace Go.Own
open Go Go.RowKit
end Go.Own
