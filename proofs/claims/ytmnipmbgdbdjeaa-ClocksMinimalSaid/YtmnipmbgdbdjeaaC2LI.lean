import Derived.Test.YtmnipmbgdbdjeaaC2LH
/- Clocks: what the statements lean on, third part; in plain Lean. -/
namespace Go.Proofs.C2
open Go Go.Kx

/-! ### columns -/
/-! ### runs -/
/-! ### rates -/
end Go.Proofs.C2
