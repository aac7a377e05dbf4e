/- Century: known exactly, in plain Lean. -/
import Derived.Test.YtednficclnjmjaaC8LNar
namespace Go.Proofs.C8
open Go Go.Kx

section
variable {s : Ser} {x : Rl}
variable (h : Ok s) (ha : agreeP s x.Levels x.Shifts)
include h ha
/-! ### parts -/
/-! ### slopes -/
end
end Go.Proofs.C8
