import Derived.Test.YtednficclnjmjaaC8Lin
/- Century: fractions, held against one another, in plain Lean. -/
namespace Go.Proofs.C8
open Go Go.Kx

def lessP (a b : Ratio) : Prop := a.Num * b.Den < b.Num * a.Den
instance (a b : Ratio) : Decidable (lessP a b) := by unfold lessP; exact inferInstance
/-- the state of the steps -/
def LI (a b : Ratio) (k : Nat) (A C : Ratio) : Prop := (lessP a b ↔ lessP A C) ∧ (0 < A.Den ∧ A.Den ≤ 4000000000000000000) ∧ (0 < C.Den ∧ C.Den ≤ 4000000000000000000) ∧ (-4000000000000000000 ≤ A.Num ∧ A.Num ≤ 4000000000000000000) ∧ (-4000000000000000000 ≤ C.Num ∧ C.Num ≤ 4000000000000000000) ∧
  (0 < k → (A.Den < A.Num ∧ C.Den < C.Num) ∧ 2 ^ (k - 1) * ((A.Num + C.Num) * (A.Den + C.Den)) ≤ (2 : Int) ^ 126)
/-- the slope of adjusted levels -/
def exS (s : Ser) (l : List Int) : Int := totN (momL s) l s.Values.length
def exactR (s : Ser) (l : List Int) : Ratio := lowR (exS s l) (momD s)
end Go.Proofs.C8
/- Century: whatever really was lies within what is told; in plain Lean. -/
namespace Go.Proofs.C8
open Go Go.Kx

/-! ### fractions in lowest terms -/
/-! ### means -/
def LBd (r : Ratio) : Prop := (0 < r.Den ∧ r.Den ≤ 4000000000000000000) ∧ (-4000000000000000000 ≤ r.Num ∧ r.Num ≤ 4000000000000000000)
/-! ### changes -/
/-! ### slopes -/
end Go.Proofs.C8
/- Century: two values prove a fall; the least rising levels; in plain Lean. -/
namespace Go.Proofs.C8
open Go Go.Kx

/-! ### a pass that changes nothing -/
/-- what holds at a value when a step changes nothing -/
def fixAt (s : Ser) (k : Nat) (st : MS) : Prop := (0 < k → gt st.1 (k - 1) ≤ gt st.1 k ∧ gt st.2 (k - 1) - (bt s.Shifts (gt s.Values (k - 1)).Time (gt s.Values k).Time).Hi ≤ gt st.2 k ∧ gt st.2 k + (bt s.Shifts (gt s.Values (k - 1)).Time (gt s.Values k).Time).Lo ≤ gt st.2 (k - 1)) ∧
  gt st.2 k + (gt s.Values k).Levels.Lo ≤ gt st.1 k ∧ gt st.1 k - (gt s.Values k).Levels.Hi ≤ gt st.2 k
/-! ### solutions -/
/-- levels that rise, with shifts that agree, as the passes see them -/
structure Sol (s : Ser) (e u : Nat → Int) : Prop where
  lo : ∀ i, i < s.Values.length → u i + (gt s.Values i).Levels.Lo ≤ e i
  hi : ∀ i, i < s.Values.length → e i - (gt s.Values i).Levels.Hi ≤ u i
  up : ∀ i, i < s.Values.length → 0 < i → e (i - 1) ≤ e i
  x1 : ∀ i, i < s.Values.length → 0 < i → u (i - 1) - (bt s.Shifts (gt s.Values (i - 1)).Time (gt s.Values i).Time).Hi ≤ u i
  x2 : ∀ i, i < s.Values.length → 0 < i → u i + (bt s.Shifts (gt s.Values (i - 1)).Time (gt s.Values i).Time).Lo ≤ u (i - 1)
  mo : ∀ i, i < s.Values.length → u i ≤ mMost s i
  st : ∀ i, i < s.Values.length → - (bt s.Shifts (-1) (gt s.Values i).Time).Hi ≤ u i
def belowS (s : Ser) (st : MS) (e u : Nat → Int) : Prop := st.1.length = s.Values.length ∧ st.2.length = s.Values.length ∧ ∀ i, i < s.Values.length → gt st.1 i ≤ e i ∧ gt st.2 i ≤ u i
/-! ### falls -/
/-- the greatest least level so far, with the least shifts -/
def bestE (s : Ser) : Nat → Int
  | 0 => (gt s.Values 0).Levels.Lo - (bt s.Shifts (-1) (gt s.Values 0).Time).Lo
  | k + 1 => max (bestE s k) ((gt s.Values (k + 1)).Levels.Lo - (bt s.Shifts (-1) (gt s.Values (k + 1)).Time).Lo)
end Go.Proofs.C8
