import Derived.Test.YtmnipmbgdbdjeaaC2LC
/- Clocks: backwards, further stops, rates; in plain Lean. -/
namespace Go.Proofs.C2
open Go Go.Kx

/-! ### backwards -/
def turnD (d : Drum) : Drum := ⟨(List.range d.Rates.length).map (fun i => gt d.Rates (d.Rates.length - 1 - i)), (List.range d.Stops.length).map (fun i => ⟨(d.Rates.length : Int) - 1 - (gt d.Stops i).Column, (gt d.Stops i).Ticks⟩)⟩
def turnM (d : Drum) (m : List Mark) : List Mark := (List.range m.length).map fun i => ⟨(d.Rates.length : Int) - (gt m i).Column, ⟨400 - (gt m i).Ticks.Hi, 400 - (gt m i).Ticks.Lo⟩⟩
def backL (l : List Int) : List Int := (List.range l.length).map fun i => 400 - gt l (l.length - 1 - i)
/-! ### a further stop -/
/-! ### rates -/
/-- the sums, the least and the greatest of the gaps from a column on -/
def sgN (d : Drum) (a : Nat) : Nat → Span
  | 0 => ⟨0, 0⟩
  | n + 1 => ⟨(sgN d a n).Lo + (gapS d (a + n)).Lo, (sgN d a n).Hi + (gapS d (a + n)).Hi⟩
def lgN (d : Drum) (a : Nat) : Nat → Int
  | 0 => 1099511627776
  | n + 1 => min (lgN d a n) (gapS d (a + n)).Lo
def mgN (d : Drum) (a : Nat) : Nat → Int
  | 0 => 0
  | n + 1 => max (mgN d a n) (gapS d (a + n)).Hi
end Go.Proofs.C2
