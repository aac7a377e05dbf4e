import Derived.Test.YtednficclnjmjaaC8LReal
import Derived.Test.YtednficclnjmjaaC8LNar
/- Century: what the reference computes, in plain Lean: ends of sums, and that their sums are the program's. -/
namespace Go.Proofs.C8
open Go Go.Kx

/-- the reference's end of a span: with a factor of nothing the lower one -/
def endQ (x : Span) (f c : Int) : Int := if 0 ≤ f * c then x.Lo else x.Hi
def enV (s : Ser) (f : List Int) (c : Int) (i : Nat) : Int := endQ (gt s.Values i).Levels (gt f i) c
def enX (s : Ser) (f : List Int) (c : Int) (k : Nat) : Int := endQ (gt s.Shifts k).Levels (sumX s f k) c
def enVL (s : Ser) (f : List Int) (c : Int) : List Int := (List.range s.Values.length).map (enV s f c)
def enXL (s : Ser) (f : List Int) (c : Int) : List Int := (List.range s.Shifts.length).map (enX s f c)
def enVN (s : Ser) (f : List Int) (c : Int) (n : Nat) : Int := sumN (fun i => gt f i * enV s f c i) n
def enXN (s : Ser) (f : List Int) (c : Int) (n : Nat) : Int := sumN (fun i => sumX s f i * enX s f c i) n
/-- what SlopeAt hands out: its slope is the end -/
def satL (s : Ser) (b : Bool) : List Int := evenL s (endV s (momL s) b) (endX s (sumXL s (momL s)) b)
end Go.Proofs.C8
