import Derived.Test.YtpgkfndbfocibaaPl15i
/-! what the laws' helpers answer -/
namespace Go.Own.Gr
open Go Go.Own Go.Own.R Go.Own.G
end Go.Own.Gr
