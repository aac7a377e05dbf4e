/- Clocks: walks, tenth part, by program. -/
import Derived.Test.YtmnipmbgdbdjeaaC2W9
import Derived.Test.YtmnipmbgdbdjeaaC2LE
namespace Go.Proofs.C2
open Go Go.Kx
set_option linter.unusedVariables false

end Go.Proofs.C2
