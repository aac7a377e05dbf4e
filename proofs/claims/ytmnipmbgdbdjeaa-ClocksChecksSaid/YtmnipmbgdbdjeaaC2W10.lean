import Derived.Test.YtmnipmbgdbdjeaaC2W9
import Derived.Test.YtmnipmbgdbdjeaaC2LD
/- Clocks: walks, tenth part, by program. -/
namespace Go.Proofs.C2
open Go Go.Kx
set_option linter.unusedVariables false

end Go.Proofs.C2
