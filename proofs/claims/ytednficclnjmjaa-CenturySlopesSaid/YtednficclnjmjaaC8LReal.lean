/- Century: whatever really was lies within what is told; in plain Lean. -/
import Derived.Test.YtednficclnjmjaaC8LExt
import Derived.Test.YtednficclnjmjaaC8Less
namespace Go.Proofs.C8
open Go Go.Kx

/-! ### fractions in lowest terms -/
/-! ### means -/
def LBd (r : Ratio) : Prop := (0 < r.Den ∧ r.Den ≤ 4000000000000000000) ∧ (-4000000000000000000 ≤ r.Num ∧ r.Num ≤ 4000000000000000000)
/-! ### changes -/
/-! ### slopes -/
theorem slopeR_zero {s : Ser} (h : (slopeR s).2.2 = 0) : twoVE s = 0 ∧ slopeR s = (lowR (bd s (momL s)).Lo (momD s), lowR (bd s (momL s)).Hi (momD s), 0) := by
  by_cases h2 : twoVE s ≠ 0
  · unfold slopeR at h; rw [if_pos h2] at h; exact absurd h h2
  · have hz : twoVE s = 0 := by omega
    refine ⟨hz, ?_⟩
    rw [slopeR, if_neg h2, slpS_ok hz, slpD, if_neg h2]
    rfl
theorem exS_even {s : Ser} {lv sh : List Int} : exS s (evenL s lv sh) = sumN (fun i => gt (momL s) i * evenAt s lv sh i) s.Values.length := sumN_congr fun i hi => by rw [evenL_at hi]
end Go.Proofs.C8
