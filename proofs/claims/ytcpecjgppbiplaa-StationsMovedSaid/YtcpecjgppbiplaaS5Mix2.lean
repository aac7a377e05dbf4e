/- Stations: tight bounds, ways and pairs as the further laws say them, in plain Lean: no stations' code in sight. -/
import Derived.Test.YtcpecjgppbiplaaS5Mix
namespace Go.Proofs.S5
open Go Go.Kx

theorem oneE_of {s : Station} (hp : placedOk s) (hh : highOk s.Heights) : oneE s = 0 := by
  unfold oneE
  rw [checkS_ok (by simp)]
  intro j hj
  have hj0 : j = 0 := by simp at hj; omega
  subst hj0
  unfold badAt
  rw [if_neg, if_neg]
  · simpa [gt] using hh
  · simp only [gt, List.getD_cons_zero]
    intro h
    rcases h with h | h
    · exact h hp
    · exact absurd h.1 (Nat.lt_irrefl _)
section
variable {w : Wind} {l : List Station} (h : windedE w l = 0)
include h
/-! ### sea levels of levels -/
/-! ### two by two -/
end
end Go.Proofs.S5
