/- Stations: what the first laws say, in plain Lean: no stations' code in sight. -/
import Derived.Test.YtcpecjgppbiplaaS5Awake
namespace Go.Proofs.S5
open Go Go.Kx

/-! ### levels at the sea -/
theorem seaS_high {l h h' : Int} (hl : 0 ≤ l) (hh : h ≤ h') : seaS l h ≤ seaS l h' := by
  unfold seaS
  have h1 : l * h ≤ l * h' := Int.mul_le_mul_of_nonneg_left hh hl
  have h2 : l * h / 8000 ≤ l * h' / 8000 := Int.ediv_le_ediv (by omega) h1
  omega
/-! ### distances -/
end Go.Proofs.S5
