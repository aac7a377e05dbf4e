import Derived.Test.YtmnipmbgdbdjeaaC2Law
/- Clocks: questions and answers, in plain Lean. -/
namespace Go.Proofs.C2
open Go Go.Kx

/-! ### answers -/
def losL (l : List Span) : List Int := (List.range l.length).map fun i => (gt l i).Lo
def hisL (l : List Span) : List Int := (List.range l.length).map fun i => (gt l i).Hi
def earR (d : Drum) (m : List Mark) : List Int × Int := if openE d m [] [] ≠ 0 then ([], openE d m [] []) else (losL (setD d m), 0)
def latR (d : Drum) (m : List Mark) : List Int × Int := if openE d m [] [] ≠ 0 then ([], openE d m [] []) else (hisL (setD d m), 0)
def spanR (d : Drum) (m : List Mark) (c : Int) : Span × Int := if openE d m [c] [] ≠ 0 then (⟨0, 0⟩, openE d m [c] []) else (gt (setD d m) c.toNat, 0)
/-- the settled clock -/
def setC (d : Drum) (m : List Mark) : Ck := ⟨gapL d, setD d m⟩
def betR (d : Drum) (m : List Mark) (a b : Int) : Span × Int := if openE d m [a, b] [] ≠ 0 then (⟨0, 0⟩, openE d m [a, b] []) else (betS (setC d m) a.toNat b.toNat, 0)
def wiC (d : Drum) (m : List Mark) (c : Nat) (t : Int) : Ck := withC (setC d m) c t
def withR (d : Drum) (m : List Mark) (c t : Int) : List Int × Int :=
  if openE d m [c] [t] ≠ 0 then ([], openE d m [c] [t]) else if okC (wiC d m c.toNat t) then (losL (setL (wiC d m c.toNat t)), 0) else ([], 3)
def runR (d : Drum) (m : List Mark) (t : Int) : List Span × Int :=
  if openE d m [] [t] ≠ 0 then ([], openE d m [] [t]) else if okC (wiC d m 0 t) then (setL (wiC d m 0 t), 0) else ([], 3)
/-- how many numbers at the head are at most a number, less one -/
def cntN (l : List Int) (t : Int) : Nat → Nat
  | 0 => 0
  | n + 1 => if gt l n ≤ t then n + 1 else cntN l t n
def pasS (l : List Int) (t : Int) : Int := (cntN l t l.length : Int) - 1
def atR (d : Drum) (m : List Mark) (t : Int) : Span × Int :=
  if openE d m [] [t] ≠ 0 then (⟨0, 0⟩, openE d m [] [t]) else (⟨pasS (hisL (setD d m)) t, pasS (losL (setD d m)) t⟩, 0)
def medL (a b c : List Int) : List Int := (List.range a.length).map fun i => med (gt a i) (gt b i) (gt c i)
def medR (d : Drum) (m : List Mark) (a b c : List Int) : List Int × Int :=
  if chkE d m ≠ 0 then ([], chkE d m) else if ¬ keepP d m a ∨ ¬ keepP d m b ∨ ¬ keepP d m c then ([], 22) else (medL a b c, 0)
def gapR (d : Drum) (c : Int) : Span × Int := if drumE d ≠ 0 then (⟨0, 0⟩, drumE d) else if 0 ≤ c ∧ c ≤ (d.Rates.length : Int) - 1 then (gapS d c.toNat, 0) else (⟨0, 0⟩, 1)
def agrR (d : Drum) (a b : Mark) : Bool × Int := feasR d [a, b]
def winD (d : Drum) (s : Stop) : Drum := ⟨d.Rates, d.Stops ++ [s]⟩
def winR (d : Drum) (s : Stop) : Drum × Int := if drumE d ≠ 0 then (⟨[], []⟩, drumE d) else if 16 ≤ d.Stops.length then (⟨[], []⟩, 2) else if drumE (winD d s) ≠ 0 then (⟨[], []⟩, 1) else (winD d s, 0)
def lowR (num den : Int) : Ratio := ⟨num.tdiv (Int.gcd num den), den.tdiv (Int.gcd num den)⟩
def drfR (d : Drum) (m : List Mark) (a b : Int) : Ratio × Ratio × Int :=
  if chkE d m ≠ 0 then (⟨0, 0⟩, ⟨0, 0⟩, chkE d m) else if ¬ (0 ≤ a ∧ a ≤ (d.Rates.length : Int)) ∨ ¬ (0 ≤ b ∧ b ≤ (d.Rates.length : Int)) ∨ b ≤ a then (⟨0, 0⟩, ⟨0, 0⟩, 1)
  else if (betR d m a b).2 ≠ 0 then (⟨0, 0⟩, ⟨0, 0⟩, (betR d m a b).2) else (lowR (betR d m a b).1.Lo (b - a), lowR (betR d m a b).1.Hi (b - a), 0)

/-! ### contradictions -/
def snglN (d : Drum) (m : List Mark) : Nat → List (List Int)
  | 0 => []
  | k + 1 => if okD d [gt m k] then snglN d m k else snglN d m k ++ [[(k : Int)]]
def pairP (d : Drum) (m : List Mark) (i k : Nat) : Prop := okD d [gt m i] ∧ okD d [gt m k] ∧ ¬ okD d [gt m i, gt m k]
instance (d : Drum) (m : List Mark) (i k : Nat) : Decidable (pairP d m i k) := by unfold pairP; exact inferInstance
/-- the pairs of i and a number from i + 1 on, below k -/
def rowN (d : Drum) (m : List Mark) (i : Nat) : Nat → List (List Int)
  | 0 => []
  | k + 1 => if i < k ∧ pairP d m i k then rowN d m i k ++ [[(i : Int), (k : Int)]] else rowN d m i k
def dblN (d : Drum) (m : List Mark) : Nat → List (List Int)
  | 0 => []
  | i + 1 => dblN d m i ++ rowN d m i m.length
def pairL (d : Drum) (m : List Mark) : List (List Int) := if okD d [] then snglN d m m.length ++ dblN d m m.length else [[]]
def prsR (d : Drum) (m : List Mark) : List (List Int) × Int := if chkE d m ≠ 0 then ([], chkE d m) else if pairL d m = [] then ([], 3) else (pairL d m, 0)
def conR (d : Drum) (m : List Mark) : List Int × Int := if (prsR d m).2 ≠ 0 then ([], (prsR d m).2) else (gt (prsR d m).1 0, 0)
/-- all sets of so many numbers below n, in order -/
def setsF (n : Nat) : Nat → List Int → Nat → List (List Int)
  | 0, l, _ => [l]
  | s + 1, l, next => (List.range (n - next)).flatMap fun j => setsF n s (l ++ [((next + j : Nat) : Int)]) (next + j + 1)
def hitB (bad : List (List Int)) (l : List Int) : Bool := bad.all fun p => p.any fun i => l.contains i
def drpN (bad : List (List Int)) (n size : Nat) : List (List Int) := (setsF n size [] 0).filter (hitB bad)
def drpF (bad : List (List Int)) (n : Nat) : Nat → Nat → List (List Int)
  | 0, _ => []
  | f + 1, s => if drpN bad n s = [] then drpF bad n f (s + 1) else drpN bad n s
def drpL (bad : List (List Int)) (n : Nat) : List (List Int) := drpF bad n (n + 1) 0
def drpR (d : Drum) (m : List Mark) : List (List Int) × Int :=
  if chkE d m ≠ 0 then ([], chkE d m) else if 12 < m.length then ([], 2) else if okD d [] then (drpL (pairL d m) m.length, 0) else ([], 22)
end Go.Proofs.C2
