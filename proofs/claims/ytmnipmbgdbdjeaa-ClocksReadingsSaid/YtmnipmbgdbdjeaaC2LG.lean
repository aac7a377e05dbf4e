import Derived.Test.YtmnipmbgdbdjeaaC2Aw
import Derived.Test.YtmnipmbgdbdjeaaC2LE
/- Clocks: what the statements lean on, in plain Lean. -/
namespace Go.Proofs.C2
open Go Go.Kx

theorem arg_nil (d : Drum) : argP d [] [] := ⟨fun i hi => absurd hi (Nat.not_lt_zero _), fun i hi => absurd hi (Nat.not_lt_zero _)⟩
end Go.Proofs.C2
