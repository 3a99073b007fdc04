import Derived.Test.YtnfgeekaeegolaaGen
namespace Go.Own
open Go Go.RowKit
end Go.Own
