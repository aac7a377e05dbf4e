import Derived.Test.YtednficclnjmjaaC8Less
import Derived.Test.YtednficclnjmjaaC8Know
import Derived.Test.YtednficclnjmjaaC8Lin
/- Century: narrower is narrower, in plain Lean. -/
namespace Go.Proofs.C8
open Go Go.Kx

/-- a series of which more is known -/
structure Nar (t s : Ser) : Prop where
  os : Ok s
  ot : Ok t
  nv : t.Values.length = s.Values.length
  nx : t.Shifts.length = s.Shifts.length
  v : ∀ i, i < s.Values.length → (gt t.Values i).Time = (gt s.Values i).Time ∧ (gt s.Values i).Levels.Lo ≤ (gt t.Values i).Levels.Lo ∧ (gt t.Values i).Levels.Hi ≤ (gt s.Values i).Levels.Hi
  x : ∀ i, i < s.Shifts.length → (gt t.Shifts i).Time = (gt s.Shifts i).Time ∧ (gt s.Shifts i).Levels.Lo ≤ (gt t.Shifts i).Levels.Lo ∧ (gt t.Shifts i).Levels.Hi ≤ (gt s.Shifts i).Levels.Hi
section
variable {t s : Ser}
end
/-! ### steps -/
def goodW (s : Ser) (most : Int) (a b : Nat) : Prop := (lastR (winOf s a b) most).2 = true
end Go.Proofs.C8
/- Century: levels counted downwards, in plain Lean. -/
namespace Go.Proofs.C8
open Go Go.Kx

section
variable {s : Ser}
end
/-! ### sums -/
/-! ### slopes -/
/-! ### extremes -/
/-! ### steps -/
end Go.Proofs.C8
/- Century: what the reference computes, in plain Lean: ends of sums, and that their sums are the program's. -/
namespace Go.Proofs.C8
open Go Go.Kx

/-- the reference's end of a span: with a factor of nothing the lower one -/
def endQ (x : Span) (f c : Int) : Int := if 0 ≤ f * c then x.Lo else x.Hi
def enV (s : Ser) (f : List Int) (c : Int) (i : Nat) : Int := endQ (gt s.Values i).Levels (gt f i) c
def enX (s : Ser) (f : List Int) (c : Int) (k : Nat) : Int := endQ (gt s.Shifts k).Levels (sumX s f k) c
def enVL (s : Ser) (f : List Int) (c : Int) : List Int := (List.range s.Values.length).map (enV s f c)
def enXL (s : Ser) (f : List Int) (c : Int) : List Int := (List.range s.Shifts.length).map (enX s f c)
def enVN (s : Ser) (f : List Int) (c : Int) (n : Nat) : Int := sumN (fun i => gt f i * enV s f c i) n
def enXN (s : Ser) (f : List Int) (c : Int) (n : Nat) : Int := sumN (fun i => sumX s f i * enX s f c i) n
/-- what SlopeAt hands out: its slope is the end -/
def satL (s : Ser) (b : Bool) : List Int := evenL s (endV s (momL s) b) (endX s (sumXL s (momL s)) b)
end Go.Proofs.C8
