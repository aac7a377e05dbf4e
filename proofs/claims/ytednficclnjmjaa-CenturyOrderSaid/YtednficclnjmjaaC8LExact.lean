import Derived.Test.YtednficclnjmjaaC8LNar
/- Century: known exactly, in plain Lean. -/
namespace Go.Proofs.C8
open Go Go.Kx

section
variable {s : Ser} {x : Rl}
variable (h : Ok s) (ha : agreeP s x.Levels x.Shifts)
include h ha
/-! ### parts -/
/-! ### slopes -/
end
end Go.Proofs.C8
/- Century: what the reference computes: weights, extremes, ranks, changes. -/
namespace Go.Proofs.C8
open Go Go.Kx

def wt1 (s : Ser) (x : Span) (i : Nat) : Int := if inT x (gt s.Values i).Time then 1 else 0
def askR (s : Ser) (x : Span) : List Int × Int × Int := if chkE s ≠ 0 then ([], 0, chkE s) else if ¬ spOk x 0 10000 then ([], 0, 1) else if wtC s x = 0 then ([], 0, 3) else (wtL s x 1, wtC s x, 0)
/-! ### extremes -/
def exQ (s : Ser) (x : Span) : Nat → Span × Span
  | 0 => (⟨1099511627776, 1099511627776⟩, ⟨-1099511627776, -1099511627776⟩)
  | n + 1 => if inT x (gt s.Values n).Time then (⟨min (exQ s x n).1.Lo (evS s n).Lo, min (exQ s x n).1.Hi (evS s n).Hi⟩, ⟨max (exQ s x n).2.Lo (evS s n).Lo, max (exQ s x n).2.Hi (evS s n).Hi⟩) else exQ s x n
/-! ### ranks -/
/-! ### changes -/
def chg1 (s : Ser) (a b : Span) (i : Nat) : Int := gt (wtL s b 1) i * wtC s a - gt (wtL s a 1) i * wtC s b
end Go.Proofs.C8
/- Century: what the reference computes: falls, steps, breaks. -/
namespace Go.Proofs.C8
open Go Go.Kx

/-- the span of all that is known of a part's last value, by its index -/
def runK (s : Ser) (most : Int) (a : Nat) : Nat → Span
  | 0 => ⟨(gt s.Values a).Levels.Lo - most, (gt s.Values a).Levels.Hi⟩
  | k + 1 => if k + 1 ≤ a then ⟨(gt s.Values a).Levels.Lo - most, (gt s.Values a).Levels.Hi⟩ else
    ⟨max ((runK s most a k).Lo + (bt s.Shifts (gt s.Values k).Time (gt s.Values (k + 1)).Time).Lo) ((gt s.Values (k + 1)).Levels.Lo - most), min ((runK s most a k).Hi + (bt s.Shifts (gt s.Values k).Time (gt s.Values (k + 1)).Time).Hi) (gt s.Values (k + 1)).Levels.Hi⟩
def runBad (s : Ser) (most : Int) (a k : Nat) : Prop := (runK s most a k).Hi < (runK s most a k).Lo
end Go.Proofs.C8
/- Century: what the reference computes: common times, breaks. -/
namespace Go.Proofs.C8
open Go Go.Kx

def prOf (p : A2) : Pr := ⟨p.a, p.b⟩
def prN (s t : Ser) (n : Nat) : List Pr := (comN s t n).map prOf
def prL (s t : Ser) : List Pr := (comL s t).map prOf
def prI (s t : Ser) (i k : Nat) : List Pr := prN s t i ++ (if 0 ≤ idxR t (gt s.Values i).Time ∧ idxR t (gt s.Values i).Time < k then [⟨i, idxR t (gt s.Values i).Time⟩] else [])
end Go.Proofs.C8
