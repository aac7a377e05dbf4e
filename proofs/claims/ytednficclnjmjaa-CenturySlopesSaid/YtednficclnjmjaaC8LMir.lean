/- Century: levels counted downwards, in plain Lean. -/
import Derived.Test.YtednficclnjmjaaC8LExt
import Derived.Test.YtednficclnjmjaaC8LAdj
namespace Go.Proofs.C8
open Go Go.Kx

section
variable {s : Ser}
end
/-! ### sums -/
/-! ### slopes -/
/-! ### extremes -/
/-! ### steps -/
end Go.Proofs.C8
