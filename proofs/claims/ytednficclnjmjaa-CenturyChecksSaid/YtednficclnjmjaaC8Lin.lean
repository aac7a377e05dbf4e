import Derived.Test.YtednficclnjmjaaC8Law
/- Century: sums of adjusted levels lie within their bounds, and reach them; in plain Lean. -/
namespace Go.Proofs.C8
open Go Go.Kx

end Go.Proofs.C8
/- Century: extremes and ranks, whoever found the levels, in plain Lean. -/
namespace Go.Proofs.C8
open Go Go.Kx

/-! ### ranks -/
end Go.Proofs.C8
