import Derived.Test.YtednficclnjmjaaC8Ref5
/- Century: what the reference computes: parts. -/
namespace Go.Proofs.C8
open Go Go.Kx

def cutVN (s : Ser) (x : Span) : Nat → List Val
  | 0 => []
  | n + 1 => if inT x (gt s.Values n).Time then cutVN s x n ++ [gt s.Values n] else cutVN s x n
def cutXN (s : Ser) (x : Span) : Nat → List Shf
  | 0 => []
  | n + 1 => if inT x (gt s.Shifts n).Time then cutXN s x n ++ [gt s.Shifts n] else cutXN s x n
def cutS (s : Ser) (x : Span) : Ser := ⟨cutVN s x s.Values.length, cutXN s x s.Shifts.length⟩
def cutR (s : Ser) (x : Span) : Ser × Int := if chkE s ≠ 0 then (⟨[], []⟩, chkE s) else if ¬ spOk x 0 10000 then (⟨[], []⟩, 1) else (cutS s x, 0)
/-! ### narrower -/
def meetS (a b : Span) : Span := ⟨max a.Lo b.Lo, min a.Hi b.Hi⟩
def narV (s : Ser) (k : Nat) (x : Span) : List Val := s.Values.set k ⟨(gt s.Values k).Time, meetS (gt s.Values k).Levels x⟩
def narR (s : Ser) (time : Int) (x : Span) : Ser × Int := if chkE s ≠ 0 then (⟨[], []⟩, chkE s) else if idxR s time < 0 then (⟨[], []⟩, 3) else
  if (meetS (gt s.Values (idxR s time).toNat).Levels x).Hi < (meetS (gt s.Values (idxR s time).toNat).Levels x).Lo then (⟨[], []⟩, 3) else (⟨narV s (idxR s time).toNat x, s.Shifts⟩, 0)
theorem narR_err {s : Ser} {time : Int} {x : Span} (h : chkE s ≠ 0) : narR s time x = (⟨[], []⟩, chkE s) := if_pos h
theorem narR_a {s : Ser} {time : Int} {x : Span} (h : chkE s = 0) (hi : idxR s time < 0) : narR s time x = (⟨[], []⟩, 3) := by rw [narR, if_neg (by omega), if_pos hi]
theorem narR_b {s : Ser} {time : Int} {x : Span} (h : chkE s = 0) (hi : ¬ idxR s time < 0) (hn : (meetS (gt s.Values (idxR s time).toNat).Levels x).Hi < (meetS (gt s.Values (idxR s time).toNat).Levels x).Lo) : narR s time x = (⟨[], []⟩, 3) := by rw [narR, if_neg (by omega), if_neg hi, if_pos hn]
theorem narR_c {s : Ser} {time : Int} {x : Span} (h : chkE s = 0) (hi : ¬ idxR s time < 0) (hn : ¬ (meetS (gt s.Values (idxR s time).toNat).Levels x).Hi < (meetS (gt s.Values (idxR s time).toNat).Levels x).Lo) : narR s time x = (⟨narV s (idxR s time).toNat x, s.Shifts⟩, 0) := by rw [narR, if_neg (by omega), if_neg hi, if_neg hn]
end Go.Proofs.C8
