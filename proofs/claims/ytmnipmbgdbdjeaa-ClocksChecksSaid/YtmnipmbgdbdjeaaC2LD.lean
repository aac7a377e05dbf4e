import Derived.Test.YtmnipmbgdbdjeaaC2LC
import Derived.Test.YtmnipmbgdbdjeaaC2Aw
/- Clocks: backwards, further stops, rates; in plain Lean. -/
namespace Go.Proofs.C2
open Go Go.Kx

/-! ### backwards -/
def turnD (d : Drum) : Drum := ⟨(List.range d.Rates.length).map (fun i => gt d.Rates (d.Rates.length - 1 - i)), (List.range d.Stops.length).map (fun i => ⟨(d.Rates.length : Int) - 1 - (gt d.Stops i).Column, (gt d.Stops i).Ticks⟩)⟩
def turnM (d : Drum) (m : List Mark) : List Mark := (List.range m.length).map fun i => ⟨(d.Rates.length : Int) - (gt m i).Column, ⟨400 - (gt m i).Ticks.Hi, 400 - (gt m i).Ticks.Lo⟩⟩
def backL (l : List Int) : List Int := (List.range l.length).map fun i => 400 - gt l (l.length - 1 - i)
/-! ### a further stop -/
/-! ### rates -/
/-- the sums, the least and the greatest of the gaps from a column on -/
def sgN (d : Drum) (a : Nat) : Nat → Span
  | 0 => ⟨0, 0⟩
  | n + 1 => ⟨(sgN d a n).Lo + (gapS d (a + n)).Lo, (sgN d a n).Hi + (gapS d (a + n)).Hi⟩
def lgN (d : Drum) (a : Nat) : Nat → Int
  | 0 => 1099511627776
  | n + 1 => min (lgN d a n) (gapS d (a + n)).Lo
def mgN (d : Drum) (a : Nat) : Nat → Int
  | 0 => 0
  | n + 1 => max (mgN d a n) (gapS d (a + n)).Hi
end Go.Proofs.C2
/- Clocks: columns, ticks, runs; in plain Lean. -/
namespace Go.Proofs.C2
open Go Go.Kx

/-! ### columns at a tick -/
/-- the marks that say: column k has passed at tick t, and the next one has not -/
def colM (n : Nat) (k t : Int) : List Mark := (if 0 ≤ k then [⟨k, ⟨0, t⟩⟩] else []) ++ (if k < (n : Int) then [⟨k + 1, ⟨t + 1, 400⟩⟩] else [])
/-! ### ticks of a column -/
/-! ### runs -/
/-- all runs at ticks below n together -/
def runN (d : Drum) (m : List Mark) (c : Nat) : Nat → Span
  | 0 => ⟨401, -1⟩
  | n + 1 => if okC (wiC d m 0 n) then ⟨min (runN d m c n).Lo (gt (setL (wiC d m 0 n)) c).Lo, max (runN d m c n).Hi (gt (setL (wiC d m 0 n)) c).Hi⟩ else runN d m c n
end Go.Proofs.C2
/- Clocks: what the statements lean on, in plain Lean. -/
namespace Go.Proofs.C2
open Go Go.Kx

end Go.Proofs.C2
/- Clocks: the reference tries each tick of a column; in plain Lean. -/
namespace Go.Proofs.C2
open Go Go.Kx

def rbN (d : Drum) (m : List Mark) (a b : Nat) : Nat → Span
  | 0 => ⟨800, -800⟩
  | n + 1 => if okD d (m ++ [oneM a n]) then ⟨min (rbN d m a b n).Lo ((gt (setD d (m ++ [oneM a n])) b).Lo - n), max (rbN d m a b n).Hi ((gt (setD d (m ++ [oneM a n])) b).Hi - n)⟩ else rbN d m a b n
end Go.Proofs.C2
/- Clocks: what the statements lean on, second part; in plain Lean. -/
namespace Go.Proofs.C2
open Go Go.Kx

/-! ### ticks -/
/-! ### stops -/
/-! ### two marks at a time -/
def agrP (d : Drum) (a b : Mark) : Prop := (agrR d a b).2 = 0 ∧ (agrR d a b).1 = true
instance (d : Drum) (a b : Mark) : Decidable (agrP d a b) := by unfold agrP; exact inferInstance
def nonP (d : Drum) : Prop := (feasR d []).2 = 0 ∧ (feasR d []).1 = true
instance (d : Drum) : Decidable (nonP d) := by unfold nonP; exact inferInstance
def twoP (x : Clk) : Prop := nonP x.D ∧ ∀ i, i < x.M.length → ∀ k, k < i + 1 → agrP x.D (gt x.M i) (gt x.M k)
instance (x : Clk) : Decidable (twoP x) := by unfold twoP; exact inferInstance
end Go.Proofs.C2
/- Clocks: marks picked and left out; in plain Lean. -/
namespace Go.Proofs.C2
open Go Go.Kx

def woN (m : List Mark) (l : List Int) : Nat → List Mark
  | 0 => []
  | n + 1 => if (n : Int) ∈ l then woN m l n else woN m l n ++ [gt m n]
def inM (m : List Mark) (v : Int) : Prop := 0 ≤ v ∧ v < (m.length : Int)
instance (m : List Mark) (v : Int) : Decidable (inM m v) := by unfold inM; exact inferInstance
def pickN (m : List Mark) (l : List Int) : Nat → List Mark
  | 0 => []
  | n + 1 => if inM m (gt l n) then pickN m l n ++ [gt m (gt l n).toNat] else pickN m l n
/-! ### a clock backwards -/
def turnC (x : Clk) : Clk := ⟨turnD x.D, turnM x.D x.M⟩
end Go.Proofs.C2
