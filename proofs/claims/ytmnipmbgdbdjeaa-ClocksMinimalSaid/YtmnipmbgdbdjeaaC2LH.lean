import Derived.Test.YtmnipmbgdbdjeaaC2LG
import Derived.Test.YtmnipmbgdbdjeaaC2LF
/- Clocks: what the statements lean on, second part; in plain Lean. -/
namespace Go.Proofs.C2
open Go Go.Kx

/-! ### ticks -/
/-! ### stops -/
/-! ### two marks at a time -/
def agrP (d : Drum) (a b : Mark) : Prop := (agrR d a b).2 = 0 ∧ (agrR d a b).1 = true
instance (d : Drum) (a b : Mark) : Decidable (agrP d a b) := by unfold agrP; exact inferInstance
def nonP (d : Drum) : Prop := (feasR d []).2 = 0 ∧ (feasR d []).1 = true
instance (d : Drum) : Decidable (nonP d) := by unfold nonP; exact inferInstance
def twoP (x : Clk) : Prop := nonP x.D ∧ ∀ i, i < x.M.length → ∀ k, k < i + 1 → agrP x.D (gt x.M i) (gt x.M k)
instance (x : Clk) : Decidable (twoP x) := by unfold twoP; exact inferInstance
end Go.Proofs.C2
