import Derived.Test.YtmnipmbgdbdjeaaC2LE
/- Clocks: the reference tries each tick of a column; in plain Lean. -/
namespace Go.Proofs.C2
open Go Go.Kx

def rbN (d : Drum) (m : List Mark) (a b : Nat) : Nat → Span
  | 0 => ⟨800, -800⟩
  | n + 1 => if okD d (m ++ [oneM a n]) then ⟨min (rbN d m a b n).Lo ((gt (setD d (m ++ [oneM a n])) b).Lo - n), max (rbN d m a b n).Hi ((gt (setD d (m ++ [oneM a n])) b).Hi - n)⟩ else rbN d m a b n
end Go.Proofs.C2
