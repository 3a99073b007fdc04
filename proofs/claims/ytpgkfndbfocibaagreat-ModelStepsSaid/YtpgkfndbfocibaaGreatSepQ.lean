import Derived.Test.YtpgkfndbfocibaaGreatSepM
import Derived.Sort.Grow
import Derived.Test.YtpgkfndbfocibaaGreatSepP
/-! what the library's sort and compact do to a slice of the call's own -/
namespace Go.Own
open Go Go.Sort
end Go.Own

namespace Go.Own
open Go Go.Sort
end Go.Own
