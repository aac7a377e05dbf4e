import Derived.Test.YtednficclnjmjaaC8Law
/- Century: sums of adjusted levels lie within their bounds, and reach them; in plain Lean. -/
namespace Go.Proofs.C8
open Go Go.Kx

end Go.Proofs.C8
/- Century: extremes and ranks, whoever found the levels, in plain Lean. -/
namespace Go.Proofs.C8
open Go Go.Kx

/-! ### ranks -/
end Go.Proofs.C8
/- Century: means, changes, trends, in plain Lean. -/
namespace Go.Proofs.C8
open Go Go.Kx

/-- factors, when k values have been looked at -/
def wtP (s : Ser) (x : Span) (c : Int) (k : Nat) : List Int := (List.range s.Values.length).map fun i => if i < k ∧ inT x (gt s.Values i).Time then c else 0
def mbR (s : Ser) (x : Span) : Ratio × Ratio × Int := if chkE s ≠ 0 then (⟨0, 0⟩, ⟨0, 0⟩, chkE s) else if ¬ spOk x 0 10000 then (⟨0, 0⟩, ⟨0, 0⟩, 1) else if wtC s x = 0 then (⟨0, 0⟩, ⟨0, 0⟩, 3)
  else (lowR (bd s (wtL s x 1)).Lo (wtC s x), lowR (bd s (wtL s x 1)).Hi (wtC s x), 0)
/-! ### signs -/
def cmpR (x y : Int) : Int := if x < y then -1 else if y < x then 1 else 0
def sureS (b : Span) : Int := if 0 < b.Lo then 1 else if b.Hi < 0 then -1 else 0
/-! ### changes -/
def subL (A B : List Int) : List Int := (List.range A.length).map fun i => gt A i - gt B i
def SubI (A B : List Int) (k : Nat) (M : List Int) : Prop := M.length = A.length ∧ ∀ q, q < A.length → gt M q = if q < k then gt A q - gt B q else gt A q
def chgL (s : Ser) (a b : Span) : List Int := subL (wtL s b (wtC s a)) (wtL s a (wtC s b))
def chgR (s : Ser) (a b : Span) : Int × Int := if chkE s ≠ 0 then (0, chkE s) else if ¬ (spOk a 0 10000 ∧ spOk b 0 10000) then (0, 1) else if wtC s a = 0 ∨ wtC s b = 0 then (0, 3) else (sureS (bd s (chgL s a b)), 0)
/-! ### trends -/
def trendR (s : Ser) : Int × Int := if twoVE s ≠ 0 then (0, twoVE s) else (sureS (bdX (slpS s)), 0)
def satR (s : Ser) (b : Bool) : List Int × List Int × Int := if twoVE s ≠ 0 then ([], [], twoVE s) else (endV s (momL s) b, endX s (sumXL s (momL s)) b, 0)
end Go.Proofs.C8
