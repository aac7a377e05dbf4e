import Derived.Test.YtednficclnjmjaaC8Awake
/- Century: what the statements' own functions compute, in plain Lean. -/
namespace Go.Proofs.C8
open Go Go.Kx

def fewP (s : Ser) : Prop := (s.Values.length ≤ 60 ∨ (200 < s.Values.length ∧ s.Values.length ≤ 400)) ∧ (s.Shifts.length ≤ 20 ∨ (64 < s.Shifts.length ∧ s.Shifts.length ≤ 128))
instance (s : Ser) : Decidable (fewP s) := by unfold fewP; exact inferInstance
def lightP (x : Rl) : Prop := x.Levels.length ≤ 500 ∧ x.Shifts.length ≤ 500
instance (x : Rl) : Decidable (lightP x) := by unfold lightP; exact inferInstance
/-- the ends of all levels and shifts together -/
def endsR (s : Ser) (b : Bool) : Rl := ⟨(List.range s.Values.length).map fun i => if b = true then (gt s.Values i).Levels.Hi else (gt s.Values i).Levels.Lo, (List.range s.Shifts.length).map fun i => if b = true then (gt s.Shifts i).Levels.Lo else (gt s.Shifts i).Levels.Hi⟩
def bestR (s : Ser) (w : Int) (b : Bool) : Rl := ⟨(List.range s.Values.length).map fun (k : Nat) => if decide ((k : Int) = w) = b then (gt s.Values k).Levels.Hi else (gt s.Values k).Levels.Lo,
  (List.range s.Shifts.length).map fun k => if decide ((gt s.Shifts k).Time ≤ (gt s.Values w.toNat).Time) = b then (gt s.Shifts k).Levels.Lo else (gt s.Shifts k).Levels.Hi⟩
def lowerN (l : List Int) (i : Nat) : Nat → Int
  | 0 => 0
  | n + 1 => lowerN l i n + if gt l n < gt l i then 1 else 0
def risesP (l : List Int) : Prop := ∀ i, i < l.length → 0 < i → gt l (i - 1) ≤ gt l i
instance (l : List Int) : Decidable (risesP l) := by unfold risesP; exact inferInstance

/-! ### means -/
def mnN (s : Ser) (l : List Int) (x : Span) (n : Nat) : Int := sumN (fun i => if inT x (gt s.Values i).Time then gt l i else 0) n
def mnD (s : Ser) (x : Span) : Nat → Int
  | 0 => 0
  | n + 1 => mnD s x n + if inT x (gt s.Values n).Time then 1 else 0
def mnE (s : Ser) (l : List Int) (x : Span) : Nat → Span
  | 0 => ⟨1099511627776, -1099511627776⟩
  | n + 1 => if inT x (gt s.Values n).Time then ⟨min (mnE s l x n).Lo (gt l n), max (mnE s l x n).Hi (gt l n)⟩ else mnE s l x n
def mnC (s : Ser) (l : List Int) : Nat := min l.length s.Values.length
def meanR (s : Ser) (l : List Int) (x : Span) : Ratio × Span × Bool := (⟨mnN s l x (mnC s l), mnD s x (mnC s l)⟩, mnE s l x (mnC s l), decide (0 < mnD s x (mnC s l)))
/-! ### parts, greedily -/
def mxL (l : List Int) (a : Nat) : Nat → Int
  | 0 => gt l a
  | n + 1 => max (mxL l a n) (gt l (a + n))
def miL (l : List Int) (a : Nat) : Nat → Int
  | 0 => gt l a
  | n + 1 => min (miL l a n) (gt l (a + n))
/-- the part that begins with a does not reach further than to a + j -/
def ptP (l : List Int) (most : Int) (a j : Nat) : Prop := ¬ (max (mxL l a j) (gt l (a + j)) - min (miL l a j) (gt l (a + j)) ≤ most)
instance (l : List Int) (most : Int) (a : Nat) : DecidablePred (ptP l most a) := fun j => by unfold ptP; exact inferInstance
def ptE (l : List Int) (most : Int) (a : Nat) : Nat := a + first (ptP l most a) (l.length - a)
def ptF (l : List Int) (most : Int) : Nat → Nat → Int
  | 0, _ => 0
  | f + 1, a => if a < l.length then 1 + ptF l most f (ptE l most a) else 0
def ptN (l : List Int) (most : Int) : Int := ptF l most l.length 0
/-! ### told exactly; turned round -/
def toldS (s : Ser) (x : Rl) : Ser := ⟨(List.range s.Values.length).map fun i => ⟨(gt s.Values i).Time, ⟨gt x.Levels i, gt x.Levels i⟩⟩, (List.range s.Shifts.length).map fun i => ⟨(gt s.Shifts i).Time, ⟨gt x.Shifts i, gt x.Shifts i⟩⟩⟩
def toldR (s : Ser) (x : Rl) : Ser × Bool := if keepsE s x.Levels x.Shifts ≠ 0 then (⟨[], []⟩, false) else (toldS s x, true)
def turnS (s : Ser) : Ser := ⟨(List.range s.Values.length).map fun i => ⟨(gt s.Values i).Time, ⟨24000 - (gt s.Values i).Levels.Hi, 24000 - (gt s.Values i).Levels.Lo⟩⟩, (List.range s.Shifts.length).map fun i => ⟨(gt s.Shifts i).Time, ⟨-(gt s.Shifts i).Levels.Hi, -(gt s.Shifts i).Levels.Lo⟩⟩⟩

/-! ### differences -/
def tmL (s : Ser) (c : List A2) : List Int := c.map fun p => (gt s.Values p.a.toNat).Time
def dfL (l m : List Int) (c : List A2) : List Int := c.map fun p => gt l p.a.toNat - gt m p.b.toNat
/-- the common times, when value i of the first series has been held against k values of the second one -/
def comK (s t : Ser) (i k : Nat) : List A2 := if 0 ≤ idxR t (gt s.Values i).Time ∧ idxR t (gt s.Values i).Time < k then comN s t i ++ [⟨(i : Int), idxR t (gt s.Values i).Time⟩] else comN s t i
end Go.Proofs.C8
