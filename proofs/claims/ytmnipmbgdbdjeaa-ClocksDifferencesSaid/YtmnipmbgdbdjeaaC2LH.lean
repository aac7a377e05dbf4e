import Derived.Test.YtmnipmbgdbdjeaaC2LG
import Derived.Test.YtmnipmbgdbdjeaaC2LF
/- Clocks: what the statements lean on, second part; in plain Lean. -/
namespace Go.Proofs.C2
open Go Go.Kx

theorem arg_two {d : Drum} {a b : Int} : argP d [a, b] [] ↔ (0 ≤ a ∧ a ≤ (d.Rates.length : Int)) ∧ 0 ≤ b ∧ b ≤ (d.Rates.length : Int) := by
  constructor
  · intro h; exact ⟨Decidable.of_not_not (h.1 0 (by simp)), Decidable.of_not_not (h.1 1 (by simp))⟩
  · intro h
    refine ⟨fun i hi => ?_, fun i hi => absurd hi (Nat.not_lt_zero _)⟩
    rcases (show i = 0 ∨ i = 1 by simp at hi; omega) with rfl | rfl
    · exact fun hn => hn h.1
    · exact fun hn => hn h.2
theorem arg_tick {d : Drum} {t : Int} : argP d [] [t] ↔ 0 ≤ t ∧ t ≤ 400 := by
  constructor
  · intro h; exact Decidable.of_not_not (h.2 0 (by simp))
  · intro h; exact ⟨fun i hi => absurd hi (Nat.not_lt_zero _), fun i hi => by obtain rfl : i = 0 := by simpa using hi
                                                                              exact fun hn => hn h⟩
theorem arg_both {d : Drum} {c t : Int} : argP d [c] [t] ↔ (0 ≤ c ∧ c ≤ (d.Rates.length : Int)) ∧ 0 ≤ t ∧ t ≤ 400 := by
  constructor
  · intro h; exact ⟨Decidable.of_not_not (h.1 0 (by simp)), Decidable.of_not_not (h.2 0 (by simp))⟩
  · intro h; exact ⟨fun i hi => by obtain rfl : i = 0 := by simpa using hi
                                   exact fun hn => hn h.1, fun i hi => by obtain rfl : i = 0 := by simpa using hi
                                                                          exact fun hn => hn h.2⟩
/-! ### ticks -/
/-! ### stops -/
/-! ### two marks at a time -/
def agrP (d : Drum) (a b : Mark) : Prop := (agrR d a b).2 = 0 ∧ (agrR d a b).1 = true
instance (d : Drum) (a b : Mark) : Decidable (agrP d a b) := by unfold agrP; exact inferInstance
def nonP (d : Drum) : Prop := (feasR d []).2 = 0 ∧ (feasR d []).1 = true
instance (d : Drum) : Decidable (nonP d) := by unfold nonP; exact inferInstance
def twoP (x : Clk) : Prop := nonP x.D ∧ ∀ i, i < x.M.length → ∀ k, k < i + 1 → agrP x.D (gt x.M i) (gt x.M k)
instance (x : Clk) : Decidable (twoP x) := by unfold twoP; exact inferInstance
end Go.Proofs.C2
