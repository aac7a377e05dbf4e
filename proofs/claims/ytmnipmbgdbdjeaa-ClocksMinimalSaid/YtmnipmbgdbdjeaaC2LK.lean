import Derived.Test.YtmnipmbgdbdjeaaC2LI
/- Clocks: what the statements lean on, fourth part; in plain Lean. -/
namespace Go.Proofs.C2
open Go Go.Kx

/-! ### exact -/
end Go.Proofs.C2
