import Derived.Test.YtednficclnjmjaaC8Lin
/- Century: extremes and ranks, whoever found the levels, in plain Lean. -/
namespace Go.Proofs.C8
open Go Go.Kx

/-! ### ranks -/
end Go.Proofs.C8
/- Century: means, changes, trends, in plain Lean. -/
namespace Go.Proofs.C8
open Go Go.Kx

/-- factors, when k values have been looked at -/
def wtP (s : Ser) (x : Span) (c : Int) (k : Nat) : List Int := (List.range s.Values.length).map fun i => if i < k ∧ inT x (gt s.Values i).Time then c else 0
def mbR (s : Ser) (x : Span) : Ratio × Ratio × Int := if chkE s ≠ 0 then (⟨0, 0⟩, ⟨0, 0⟩, chkE s) else if ¬ spOk x 0 10000 then (⟨0, 0⟩, ⟨0, 0⟩, 1) else if wtC s x = 0 then (⟨0, 0⟩, ⟨0, 0⟩, 3)
  else (lowR (bd s (wtL s x 1)).Lo (wtC s x), lowR (bd s (wtL s x 1)).Hi (wtC s x), 0)
/-! ### signs -/
def cmpR (x y : Int) : Int := if x < y then -1 else if y < x then 1 else 0
def sureS (b : Span) : Int := if 0 < b.Lo then 1 else if b.Hi < 0 then -1 else 0
/-! ### changes -/
def subL (A B : List Int) : List Int := (List.range A.length).map fun i => gt A i - gt B i
def SubI (A B : List Int) (k : Nat) (M : List Int) : Prop := M.length = A.length ∧ ∀ q, q < A.length → gt M q = if q < k then gt A q - gt B q else gt A q
def chgL (s : Ser) (a b : Span) : List Int := subL (wtL s b (wtC s a)) (wtL s a (wtC s b))
def chgR (s : Ser) (a b : Span) : Int × Int := if chkE s ≠ 0 then (0, chkE s) else if ¬ (spOk a 0 10000 ∧ spOk b 0 10000) then (0, 1) else if wtC s a = 0 ∨ wtC s b = 0 then (0, 3) else (sureS (bd s (chgL s a b)), 0)
/-! ### trends -/
def trendR (s : Ser) : Int × Int := if twoVE s ≠ 0 then (0, twoVE s) else (sureS (bdX (slpS s)), 0)
def satR (s : Ser) (b : Bool) : List Int × List Int × Int := if twoVE s ≠ 0 then ([], [], twoVE s) else (endV s (momL s) b, endX s (sumXL s (momL s)) b, 0)
end Go.Proofs.C8
/- Century: fractions, held against one another, in plain Lean. -/
namespace Go.Proofs.C8
open Go Go.Kx

def lessP (a b : Ratio) : Prop := a.Num * b.Den < b.Num * a.Den
instance (a b : Ratio) : Decidable (lessP a b) := by unfold lessP; exact inferInstance
/-- the state of the steps -/
def LI (a b : Ratio) (k : Nat) (A C : Ratio) : Prop := (lessP a b ↔ lessP A C) ∧ (0 < A.Den ∧ A.Den ≤ 4000000000000000000) ∧ (0 < C.Den ∧ C.Den ≤ 4000000000000000000) ∧ (-4000000000000000000 ≤ A.Num ∧ A.Num ≤ 4000000000000000000) ∧ (-4000000000000000000 ≤ C.Num ∧ C.Num ≤ 4000000000000000000) ∧
  (0 < k → (A.Den < A.Num ∧ C.Den < C.Num) ∧ 2 ^ (k - 1) * ((A.Num + C.Num) * (A.Den + C.Den)) ≤ (2 : Int) ^ 126)
/-- the slope of adjusted levels -/
def exS (s : Ser) (l : List Int) : Int := totN (momL s) l s.Values.length
def exactR (s : Ser) (l : List Int) : Ratio := lowR (exS s l) (momD s)
end Go.Proofs.C8
/- Century: whatever really was lies within what is told; in plain Lean. -/
namespace Go.Proofs.C8
open Go Go.Kx

/-! ### fractions in lowest terms -/
/-! ### means -/
def LBd (r : Ratio) : Prop := (0 < r.Den ∧ r.Den ≤ 4000000000000000000) ∧ (-4000000000000000000 ≤ r.Num ∧ r.Num ≤ 4000000000000000000)
/-! ### changes -/
/-! ### slopes -/
end Go.Proofs.C8
/- Century: what becomes known more exactly; equal series; in plain Lean. -/
namespace Go.Proofs.C8
open Go Go.Kx

def cutW (s : Span) (x : Mor) : Span := ⟨wr (s.Lo + min (max x.Lo 0) (max 0 (wr (s.Hi - s.Lo)))), wr (s.Hi - min (max x.Hi 0) (wr (max 0 (wr (s.Hi - s.Lo)) - min (max x.Lo 0) (max 0 (wr (s.Hi - s.Lo))))))⟩
attribute [irreducible] cutW
def knownP (s : Ser) (x : Mor) : Prop := 0 ≤ x.At ∧ (x.Shift = true → x.At < s.Shifts.length) ∧ (x.Shift = false → x.At < s.Values.length)
instance (s : Ser) (x : Mor) : Decidable (knownP s x) := by unfold knownP; exact inferInstance
def knownS (s : Ser) (x : Mor) : Ser := if x.Shift = true then ⟨s.Values, s.Shifts.set x.At.toNat ⟨(gt s.Shifts x.At.toNat).Time, cutW (gt s.Shifts x.At.toNat).Levels x⟩⟩
  else ⟨s.Values.set x.At.toNat ⟨(gt s.Values x.At.toNat).Time, cutW (gt s.Values x.At.toNat).Levels x⟩, s.Shifts⟩
def knownR (s : Ser) (x : Mor) : Ser × Bool := if knownP s x then (knownS s x, true) else (s, false)
end Go.Proofs.C8
