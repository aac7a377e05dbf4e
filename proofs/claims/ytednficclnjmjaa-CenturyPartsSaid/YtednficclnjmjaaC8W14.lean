import Derived.Test.YtednficclnjmjaaC8Lin
import Derived.Test.YtednficclnjmjaaC8W13
/- Century: walks, fourteenth part, by program. -/
namespace Go.Proofs.C8
open Go Go.Kx
set_option linter.unusedSimpArgs false

end Go.Proofs.C8
