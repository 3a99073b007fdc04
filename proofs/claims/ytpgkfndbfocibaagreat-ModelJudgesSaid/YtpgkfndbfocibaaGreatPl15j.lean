import Derived.Test.YtpgkfndbfocibaaGreatPl15i
namespace Go.Own.Gr
open Go Go.Own Go.Own.R Go.Own.G
end Go.Own.Gr
