import Derived.Test.YtednficclnjmjaaC8Lin
import Derived.Test.YtednficclnjmjaaC8Less
/- Century: whatever really was lies within what is told; in plain Lean. -/
namespace Go.Proofs.C8
open Go Go.Kx

/-! ### fractions in lowest terms -/
/-! ### means -/
def LBd (r : Ratio) : Prop := (0 < r.Den ∧ r.Den ≤ 4000000000000000000) ∧ (-4000000000000000000 ≤ r.Num ∧ r.Num ≤ 4000000000000000000)
/-! ### changes -/
/-! ### slopes -/
end Go.Proofs.C8
