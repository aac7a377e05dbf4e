import Derived.Test.YtmnipmbgdbdjeaaC2LD
/- Clocks: columns, ticks, runs; in plain Lean. -/
namespace Go.Proofs.C2
open Go Go.Kx

/-! ### columns at a tick -/
/-- the marks that say: column k has passed at tick t, and the next one has not -/
def colM (n : Nat) (k t : Int) : List Mark := (if 0 ≤ k then [⟨k, ⟨0, t⟩⟩] else []) ++ (if k < (n : Int) then [⟨k + 1, ⟨t + 1, 400⟩⟩] else [])
/-! ### ticks of a column -/
/-! ### runs -/
/-- all runs at ticks below n together -/
def runN (d : Drum) (m : List Mark) (c : Nat) : Nat → Span
  | 0 => ⟨401, -1⟩
  | n + 1 => if okC (wiC d m 0 n) then ⟨min (runN d m c n).Lo (gt (setL (wiC d m 0 n)) c).Lo, max (runN d m c n).Hi (gt (setL (wiC d m 0 n)) c).Hi⟩ else runN d m c n
end Go.Proofs.C2
