/- Century: extremes and ranks, whoever found the levels, in plain Lean. -/
import Derived.Test.YtednficclnjmjaaC8Lin
namespace Go.Proofs.C8
open Go Go.Kx

theorem mnC_len {s : Ser} {l : List Int} (h : l.length = s.Values.length) : mnC s l = s.Values.length := by unfold mnC; omega
/-! ### ranks -/
end Go.Proofs.C8
