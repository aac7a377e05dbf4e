import Derived.Test.YtmnipmbgdbdjeaaC2Ref
/- Clocks: what the reference answers, in plain Lean. -/
namespace Go.Proofs.C2
open Go Go.Kx

theorem sp_feas {d : Drum} {m : List Mark} (h : chkE d m = 0) : feasR d m = ((spR d m).2, 0) := by
  rw [feasR_ok h]; unfold spR
  by_cases ho : okD d m
  · rw [if_pos ho, decide_eq_true ho]
  · rw [if_neg ho, decide_eq_false ho]
/-! ### a reading -/
def goodJ (d : Drum) (l : List Int) (j : Nat) : Prop := (0 ≤ gt l j ∧ gt l j ≤ 400) ∧ (0 < j → (gapS d (j - 1)).Lo ≤ gt l j - gt l (j - 1) ∧ gt l j - gt l (j - 1) ≤ (gapS d (j - 1)).Hi)
def markJ (m : List Mark) (l : List Int) (j : Nat) : Prop := (gt m j).Ticks.Lo ≤ gt l (gt m j).Column.toNat ∧ gt l (gt m j).Column.toNat ≤ (gt m j).Ticks.Hi
def isP (d : Drum) (m : List Mark) (l : List Int) : Prop := l.length = d.Rates.length + 1 ∧ (∀ j, j < l.length → goodJ d l j) ∧ ∀ j, j < m.length → markJ m l j
theorem drum_eq {a b : Drum} (h1 : a.Rates = b.Rates) (h2 : a.Stops = b.Stops) : a = b := by cases a; cases b; simp_all
/-! ### a tick more -/
/-! ### differences -/
end Go.Proofs.C2
