import Derived.Test.YteppjefmlibmoaaGen
namespace Go.Own
open Go Go.RowKit
end Go.Own
