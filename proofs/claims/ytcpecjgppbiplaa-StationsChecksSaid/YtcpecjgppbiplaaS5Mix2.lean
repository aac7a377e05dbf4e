/- Stations: tight bounds, ways and pairs as the further laws say them, in plain Lean: no stations' code in sight. -/
import Derived.Test.YtcpecjgppbiplaaS5Mix
namespace Go.Proofs.S5
open Go Go.Kx

section
variable {w : Wind} {l : List Station} (h : windedE w l = 0)
include h
/-! ### sea levels of levels -/
/-! ### two by two -/
end
end Go.Proofs.S5
