/- Century: extremes and ranks, whoever found the levels, in plain Lean. -/
import Derived.Test.YtednficclnjmjaaC8Lin
namespace Go.Proofs.C8
open Go Go.Kx

/-! ### ranks -/
end Go.Proofs.C8
