import Derived.Test.YtpgkfndbfocibaaGreatSepM
import Derived.Sort.Grow
import Derived.Test.YtpgkfndbfocibaaGreatSepP
namespace Go.Own
open Go Go.Sort
end Go.Own

namespace Go.Own
open Go Go.Sort
end Go.Own
