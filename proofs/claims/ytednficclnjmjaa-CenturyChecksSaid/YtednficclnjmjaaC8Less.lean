import Derived.Test.YtednficclnjmjaaC8Mean
/- Century: fractions, held against one another, in plain Lean. -/
namespace Go.Proofs.C8
open Go Go.Kx

def lessP (a b : Ratio) : Prop := a.Num * b.Den < b.Num * a.Den
instance (a b : Ratio) : Decidable (lessP a b) := by unfold lessP; exact inferInstance
/-- the state of the steps -/
def LI (a b : Ratio) (k : Nat) (A C : Ratio) : Prop := (lessP a b ↔ lessP A C) ∧ (0 < A.Den ∧ A.Den ≤ 4000000000000000000) ∧ (0 < C.Den ∧ C.Den ≤ 4000000000000000000) ∧ (-4000000000000000000 ≤ A.Num ∧ A.Num ≤ 4000000000000000000) ∧ (-4000000000000000000 ≤ C.Num ∧ C.Num ≤ 4000000000000000000) ∧
  (0 < k → (A.Den < A.Num ∧ C.Den < C.Num) ∧ 2 ^ (k - 1) * ((A.Num + C.Num) * (A.Den + C.Den)) ≤ (2 : Int) ^ 126)
/-- the slope of adjusted levels -/
def exS (s : Ser) (l : List Int) : Int := totN (momL s) l s.Values.length
def exactR (s : Ser) (l : List Int) : Ratio := lowR (exS s l) (momD s)
end Go.Proofs.C8
