import Derived.Test.YtednficclnjmjaaC8LExact
import Derived.Test.YtednficclnjmjaaC8Know
/- Century: what the reference computes: differences, chains of common times. -/
namespace Go.Proofs.C8
open Go Go.Kx

def plnS (s t : Ser) (x : Pr) : Span := ⟨(gt s.Values x.s.toNat).Levels.Lo - (gt t.Values x.t.toNat).Levels.Hi, (gt s.Values x.s.toNat).Levels.Hi - (gt t.Values x.t.toNat).Levels.Lo⟩
def shfS (s t : Ser) (a b : Int) : Span := ⟨(bt s.Shifts a b).Lo - (bt t.Shifts a b).Hi, (bt s.Shifts a b).Hi - (bt t.Shifts a b).Lo⟩
def prOk (s t : Ser) (x : Pr) : Prop := (0 ≤ x.s ∧ x.s < s.Values.length) ∧ (0 ≤ x.t ∧ x.t < t.Values.length)
/-- the shifts between two times, whichever is the later one -/
def hopS (s t : Ser) (a b : Int) : Span := if b < a then ⟨0 - (shfS s t (min a b) (max a b)).Hi, 0 - (shfS s t (min a b) (max a b)).Lo⟩ else shfS s t (min a b) (max a b)
def prT (s : Ser) (x : Pr) : Int := (gt s.Values x.s.toNat).Time
def chN (s t : Ser) (l : List Pr) (most : Int) : Nat → Span
  | 0 => ⟨(plnS s t (gt l 0)).Lo - most, (plnS s t (gt l 0)).Hi⟩
  | k + 1 => ⟨max ((chN s t l most k).Lo + (hopS s t (prT s (gt l k)) (prT s (gt l (k + 1)))).Lo) ((plnS s t (gt l (k + 1))).Lo - most), min ((chN s t l most k).Hi + (hopS s t (prT s (gt l k)) (prT s (gt l (k + 1)))).Hi) (plnS s t (gt l (k + 1))).Hi⟩
def chBad (s t : Ser) (l : List Pr) (most : Int) (k : Nat) : Prop := (chN s t l most k).Hi < (chN s t l most k).Lo
instance (s t : Ser) (l : List Pr) (most : Int) : DecidablePred (chBad s t l most) := fun k => by unfold chBad; exact inferInstance
def chR (s t : Ser) (l : List Pr) (most : Int) : Span := chN s t l most (first (chBad s t l most) (l.length - 1))
end Go.Proofs.C8
/- Century: what the reference's chains tell is what the program's windows tell. -/
namespace Go.Proofs.C8
open Go Go.Kx

/-! ### ahead and behind -/
def ahN (s t : Ser) (time : Int) : Nat → List Pr
  | 0 => []
  | n + 1 => if (gt s.Values (gt (prL s t) n).s.toNat).Time < time then ahN s t time n ++ [gt (prL s t) n] else ahN s t time n
def bhN (s t : Ser) (time : Int) : Nat → List Pr
  | 0 => []
  | n + 1 => if (gt s.Values (gt (prL s t) n).s.toNat).Time < time then bhN s t time n else [gt (prL s t) n] ++ bhN s t time n
end Go.Proofs.C8
