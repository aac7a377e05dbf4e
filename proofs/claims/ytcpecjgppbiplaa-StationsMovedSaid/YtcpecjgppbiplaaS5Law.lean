/- Stations: what the first laws say, in plain Lean: no stations' code in sight. -/
import Derived.Test.YtcpecjgppbiplaaS5Awake
namespace Go.Proofs.S5
open Go Go.Kx

/-! ### levels at the sea -/
/-! ### distances -/
end Go.Proofs.S5
