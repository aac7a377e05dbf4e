/- Century: breaks are real, in plain Lean. -/
import Derived.Test.YtednficclnjmjaaC8Lin
namespace Go.Proofs.C8
open Go Go.Kx

end Go.Proofs.C8
