import Derived.Test.YtmnipmbgdbdjeaaC2Aw
import Derived.Test.YtmnipmbgdbdjeaaC2LE
/- Clocks: what the statements lean on, in plain Lean. -/
namespace Go.Proofs.C2
open Go Go.Kx

end Go.Proofs.C2
