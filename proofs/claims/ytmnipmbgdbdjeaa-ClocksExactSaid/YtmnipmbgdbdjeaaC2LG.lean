import Derived.Test.YtmnipmbgdbdjeaaC2Aw
import Derived.Test.YtmnipmbgdbdjeaaC2LE
/- Clocks: what the statements lean on, in plain Lean. -/
namespace Go.Proofs.C2
open Go Go.Kx

theorem feas_yes {d : Drum} {m : List Mark} (h1 : (feasR d m).2 = 0) (h2 : (feasR d m).1 = true) : Ok d m ∧ okD d m := by
  by_cases h0 : chkE d m = 0
  · rw [feasR_ok h0] at h2; exact ⟨Ok.of h0, of_decide_eq_true h2⟩
  · rw [feasR_err h0] at h1; exact absurd h1 h0
theorem feas_of {d : Drum} {m : List Mark} (h : Ok d m) : (feasR d m).2 = 0 ∧ ((feasR d m).1 = true ↔ okD d m) := by
  rw [feasR_ok h.e]; exact ⟨rfl, by simp⟩
end Go.Proofs.C2
