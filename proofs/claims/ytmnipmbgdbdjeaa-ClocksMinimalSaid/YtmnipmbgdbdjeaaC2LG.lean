import Derived.Test.YtmnipmbgdbdjeaaC2Aw
import Derived.Test.YtmnipmbgdbdjeaaC2LE
/- Clocks: what the statements lean on, in plain Lean. -/
namespace Go.Proofs.C2
open Go Go.Kx

theorem feas_of {d : Drum} {m : List Mark} (h : Ok d m) : (feasR d m).2 = 0 ∧ ((feasR d m).1 = true ↔ okD d m) := by
  rw [feasR_ok h.e]; exact ⟨rfl, by simp⟩
end Go.Proofs.C2
