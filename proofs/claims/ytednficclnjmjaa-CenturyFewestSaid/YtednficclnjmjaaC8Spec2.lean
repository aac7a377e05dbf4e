import Derived.Test.YtednficclnjmjaaC8Spec
/- Century: breaks, adjustments, steps, falls, in plain Lean. -/
namespace Go.Proofs.C8
open Go Go.Kx

def idxT (s : Ser) (t : Int) : Nat := first (fun i => (gt s.Values i).Time = t) s.Values.length
def idxR (s : Ser) (t : Int) : Int := if idxT s t < s.Values.length then (idxT s t : Int) else -1
theorem idxR_yes {s : Ser} {t : Int} {k : Nat} (hk : k < s.Values.length) (h : ∀ j, j < k → (gt s.Values j).Time ≠ t) (ht : (gt s.Values k).Time = t) : idxR s t = (k : Int) := by
  have := first_eq (p := fun i => (gt s.Values i).Time = t) hk h ht
  unfold idxR idxT
  rw [this, if_pos hk]
theorem idxR_no {s : Ser} {t : Int} (h : ∀ j, j < s.Values.length → (gt s.Values j).Time ≠ t) : idxR s t = -1 := by
  have := first_no (p := fun i => (gt s.Values i).Time = t) h
  unfold idxR idxT
  rw [this, if_neg (Nat.lt_irrefl _)]
theorem idxR_cases (s : Ser) (t : Int) : (idxR s t = -1 ∧ ∀ j, j < s.Values.length → (gt s.Values j).Time ≠ t) ∨ (∃ k : Nat, idxR s t = (k : Int) ∧ k < s.Values.length ∧ (gt s.Values k).Time = t) := by
  rcases first_cases (fun i => (gt s.Values i).Time = t) s.Values.length with ⟨h1, h2⟩ | ⟨h1, h2, h3⟩
  · exact .inl ⟨idxR_no h2, h2⟩
  · exact .inr ⟨_, idxR_yes h1 h3 h2, h1, h2⟩
theorem idxR_bd (s : Ser) (t : Int) : -1 ≤ idxR s t ∧ idxR s t < s.Values.length := by
  rcases idxR_cases s t with h | ⟨k, h, hk, _⟩ <;> omega

/-- the factors of a difference of two values -/
def gapL (n i k : Nat) : List Int := (List.range n).map fun j => (if j = i then 1 else 0) - (if j = k then 1 else 0)
def gap (s : Ser) (i k : Nat) : Span := bd s (gapL s.Values.length i k)

/-! ### ranks -/
def rankN (s : Ser) (at' : Nat) : Nat → Span
  | 0 => ⟨0, 0⟩
  | n + 1 => if n = at' then rankN s at' n else
    ⟨(rankN s at' n).Lo + (if (gap s n at').Hi < 0 then 1 else 0), (rankN s at' n).Hi + (if (gap s n at').Lo < 0 then 1 else 0)⟩
def rankR (s : Ser) (t : Int) : Span × Int := if chkE s ≠ 0 then (⟨0, 0⟩, chkE s) else if idxR s t < 0 then (⟨0, 0⟩, 3) else (rankN s (idxR s t).toNat s.Values.length, 0)

/-! ### extremes -/
/-- least and greatest, and whether there is any -/
def extN (s : Ser) (x : Span) : Nat → Span × Span × Bool
  | 0 => (⟨0, 0⟩, ⟨0, 0⟩, false)
  | n + 1 => if inT x (gt s.Values n).Time then
      (if (extN s x n).2.2 then (⟨min (extN s x n).1.Lo (evS s n).Lo, min (extN s x n).1.Hi (evS s n).Hi⟩, ⟨max (extN s x n).2.1.Lo (evS s n).Lo, max (extN s x n).2.1.Hi (evS s n).Hi⟩, true)
       else (evS s n, evS s n, true))
    else extN s x n
def extR (s : Ser) (x : Span) : Span × Span × Int := if chkE s ≠ 0 then (⟨0, 0⟩, ⟨0, 0⟩, chkE s) else if ¬ spOk x 0 10000 then (⟨0, 0⟩, ⟨0, 0⟩, 1)
  else if (extN s x s.Values.length).2.2 then ((extN s x s.Values.length).1, (extN s x s.Values.length).2.1, 0) else (⟨0, 0⟩, ⟨0, 0⟩, 3)

/-! ### slopes -/
def timN (s : Ser) (n : Nat) : Int := sumN (fun i => (gt s.Values i).Time) n
def sqN (s : Ser) (n : Nat) : Int := sumN (fun i => (gt s.Values i).Time * (gt s.Values i).Time) n
def momL (s : Ser) : List Int := (List.range s.Values.length).map fun i => (s.Values.length : Int) * (gt s.Values i).Time - timN s s.Values.length
def momD (s : Ser) : Int := (s.Values.length : Int) * sqN s s.Values.length - timN s s.Values.length * timN s s.Values.length
def twoVE (s : Ser) : Int := if chkE s ≠ 0 then chkE s else if s.Values.length < 2 then 3 else 0
def slpS (s : Ser) : Sum := if twoVE s ≠ 0 then ⟨⟨[], []⟩, [], []⟩ else ⟨s, momL s, sumXL s (momL s)⟩
def slpD (s : Ser) : Int := if twoVE s ≠ 0 then 0 else momD s
def bdX (x : Sum) : Span := bdS x.run x.levels x.shifts
def slopeR (s : Ser) : Ratio × Ratio × Int := if twoVE s ≠ 0 then (⟨0, 0⟩, ⟨0, 0⟩, twoVE s) else (lowR (bdX (slpS s)).Lo (slpD s), lowR (bdX (slpS s)).Hi (slpD s), 0)

/-! ### common times; breaks -/
def comN (s t : Ser) : Nat → List A2
  | 0 => []
  | n + 1 => if 0 ≤ idxR t (gt s.Values n).Time then comN s t n ++ [⟨(n : Int), idxR t (gt s.Values n).Time⟩] else comN s t n
def comL (s t : Ser) : List A2 := comN s t s.Values.length
def brkP (s t : Ser) (least : Int) (n : Nat) : Prop :=
  (gap s (gt (comL s t) n).a.toNat (gt (comL s t) (n - 1)).a.toNat).Lo - (gap t (gt (comL s t) n).b.toNat (gt (comL s t) (n - 1)).b.toNat).Hi ≥ least ∨
  (gap t (gt (comL s t) n).b.toNat (gt (comL s t) (n - 1)).b.toNat).Lo - (gap s (gt (comL s t) n).a.toNat (gt (comL s t) (n - 1)).a.toNat).Hi ≥ least
instance (s t : Ser) (least : Int) (n : Nat) : Decidable (brkP s t least n) := by unfold brkP; exact inferInstance
def brkN (s t : Ser) (least : Int) : Nat → List Int
  | 0 => []
  | n + 1 => if 0 < n ∧ brkP s t least n then brkN s t least n ++ [(gt s.Values (gt (comL s t) n).a.toNat).Time] else brkN s t least n
def brkR (s t : Ser) (least : Int) : List Int × Int := if twoE s t ≠ 0 then ([], twoE s t) else if ¬ (1 ≤ least ∧ least ≤ 24000) then ([], 1) else (brkN s t least (comL s t).length, 0)

/-! ### windows -/
def lastAt (w : Win) (most : Int) : Nat → Span
  | 0 => ⟨(gt w.levels 0).Lo - most, (gt w.levels 0).Hi⟩
  | i + 1 => ⟨max ((gt w.levels (i + 1)).Lo - most) ((lastAt w most i).Lo + (gt w.shifts i).Lo), min (gt w.levels (i + 1)).Hi ((lastAt w most i).Hi + (gt w.shifts i).Hi)⟩
def lastBad (w : Win) (most : Int) (i : Nat) : Prop := 0 < i ∧ (lastAt w most i).Hi < (lastAt w most i).Lo
instance (w : Win) (most : Int) : DecidablePred (lastBad w most) := fun i => by unfold lastBad; exact inferInstance
def lastR (w : Win) (most : Int) : Span × Bool :=
  if first (lastBad w most) w.levels.length < w.levels.length then (lastAt w most (first (lastBad w most) w.levels.length), false)
  else if w.levels.length = 0 then (⟨0, 0⟩, true) else (lastAt w most (w.levels.length - 1), true)
theorem lastR_bad {w : Win} {most : Int} {k : Nat} (hk : k < w.levels.length) (h : ∀ j, j < k → ¬ lastBad w most j) (hb : lastBad w most k) : lastR w most = (lastAt w most k, false) := by
  have := first_eq hk h hb
  rw [lastR, if_pos (by omega), this]
def lastO (w : Win) (most : Int) (k : Nat) : Span := if k = 0 then ⟨0, 0⟩ else lastAt w most (k - 1)
theorem lastR_ok {w : Win} {most : Int} (h : ∀ j, j < w.levels.length → ¬ lastBad w most j) : lastR w most = (lastO w most w.levels.length, true) := by
  have := first_no h
  rw [lastR, if_neg (by omega), lastO]
  split <;> rfl
def winOf (s : Ser) (a b : Nat) : Win := ⟨(List.range (b + 1 - a)).map fun j => (gt s.Values (a + j)).Levels, (List.range (b + 1 - a - 1)).map fun j => bt s.Shifts (gt s.Values (a + j)).Time (gt s.Values (a + j + 1)).Time⟩

/-! ### steps -/
def nxtP (s : Ser) (most : Int) (a : Nat) (j : Nat) : Prop := (lastR (winOf s a (a + 1 + j)) most).2 = false
instance (s : Ser) (most : Int) (a : Nat) : DecidablePred (nxtP s most a) := fun i => by unfold nxtP; exact inferInstance
def nxt (s : Ser) (most : Int) (a : Nat) : Nat := a + 1 + first (nxtP s most a) (s.Values.length - (a + 1))
def stpF (s : Ser) (most : Int) : Nat → Nat → List Int
  | 0, _ => []
  | f + 1, a => if nxt s most a < s.Values.length then (gt s.Values (nxt s most a)).Time :: stpF s most f (nxt s most a) else []
def stpL (s : Ser) (most : Int) : List Int := stpF s most s.Values.length 0
def stpE (s : Ser) (most : Int) : Int := if chkE s ≠ 0 then chkE s else if ¬ (0 ≤ most ∧ most ≤ 24000) then 1 else 0
def stpR (s : Ser) (most : Int) : List Int × Int := if stpE s most ≠ 0 then ([], stpE s most) else (stpL s most, 0)

/-! ### differences; adjustments -/
def difV (s t : Ser) (n : Nat) : Span := ⟨(gt s.Values (gt (comL s t) n).a.toNat).Levels.Lo - (gt t.Values (gt (comL s t) n).b.toNat).Levels.Hi, (gt s.Values (gt (comL s t) n).a.toNat).Levels.Hi - (gt t.Values (gt (comL s t) n).b.toNat).Levels.Lo⟩
def difT (s t : Ser) (n : Nat) : Int := (gt s.Values (gt (comL s t) n).a.toNat).Time
def difX (s t : Ser) (n : Nat) : Span := ⟨(bt s.Shifts (difT s t n) (difT s t (n + 1))).Lo - (bt t.Shifts (difT s t n) (difT s t (n + 1))).Hi, (bt s.Shifts (difT s t n) (difT s t (n + 1))).Hi - (bt t.Shifts (difT s t n) (difT s t (n + 1))).Lo⟩
def difW (s t : Ser) : Win := ⟨(List.range (comL s t).length).map (difV s t), (List.range ((comL s t).length - 1)).map (difX s t)⟩
def difF (s t : Ser) (time : Int) : Nat := first (fun n => time ≤ difT s t n) (comL s t).length
def winPart (w : Win) (a b : Nat) : Win := ⟨(w.levels.drop a).take (b - a), (w.shifts.drop a).take (max a (b - 1) - a)⟩
def winTurn (w : Win) : Win := ⟨w.levels.reverse, w.shifts.reverse.map fun x => ⟨-x.Hi, -x.Lo⟩⟩
def adjA (s t : Ser) (time most : Int) : Span × Bool := lastR (winPart (difW s t) 0 (difF s t time)) most
def adjB (s t : Ser) (time most : Int) : Span × Bool := lastR (winTurn (winPart (difW s t) (difF s t time) (comL s t).length)) most
def adjR (s t : Ser) (time most : Int) : Span × Int := if twoE s t ≠ 0 then (⟨0, 0⟩, twoE s t) else if ¬ ((0 ≤ time ∧ time ≤ 10000) ∧ (0 ≤ most ∧ most ≤ 24000)) then (⟨0, 0⟩, 1)
  else if difF s t time = 0 ∨ difF s t time = (comL s t).length then (⟨0, 0⟩, 3)
  else if (adjA s t time most).2 = false ∨ (adjB s t time most).2 = false then (⟨0, 0⟩, 3)
  else (⟨(adjB s t time most).1.Lo - (adjA s t time most).1.Hi - (gt (difW s t).shifts (difF s t time - 1)).Hi, (adjB s t time most).1.Hi - (adjA s t time most).1.Lo - (gt (difW s t).shifts (difF s t time - 1)).Lo⟩, 0)

/-! ### falls -/
def fallP (s : Ser) (i : Nat) (j : Nat) : Prop := (gap s (i + 1 + j) i).Hi < 0
instance (s : Ser) (i : Nat) : DecidablePred (fallP s i) := fun j => by unfold fallP; exact inferInstance
def fallK (s : Ser) (i : Nat) : Nat := i + 1 + first (fallP s i) (s.Values.length - (i + 1))
def fallI (s : Ser) : Nat := first (fun i => fallK s i < s.Values.length) s.Values.length
def fallR (s : Ser) : List Int × Int := if chkE s ≠ 0 then ([], chkE s) else if fallI s < s.Values.length then ([(gt s.Values (fallI s)).Time, (gt s.Values (fallK s (fallI s))).Time], 0) else ([], 3)
theorem fallK_yes {s : Ser} {i k : Nat} (hi : i < k) (hk : k < s.Values.length) (h : ∀ j, i + 1 + j < k → ¬ fallP s i j) (hp : fallP s i (k - (i + 1))) : fallK s i = k := by
  have := first_eq (p := fallP s i) (n := s.Values.length - (i + 1)) (k := k - (i + 1)) (by omega) (fun j hj => h j (by omega)) hp
  unfold fallK
  omega
theorem fallK_no {s : Ser} {i : Nat} (hi : i < s.Values.length) (h : ∀ j, i + 1 + j < s.Values.length → ¬ fallP s i j) : fallK s i = s.Values.length := by
  have := first_no (p := fallP s i) (n := s.Values.length - (i + 1)) (fun j hj => h j (by omega))
  unfold fallK
  omega
theorem fallR_err {s : Ser} (h : chkE s ≠ 0) : fallR s = ([], chkE s) := by rw [fallR, if_pos h]
theorem fallR_yes {s : Ser} {i k : Nat} (h0 : chkE s = 0) (hi : i < k) (hk : k < s.Values.length) (hall : ∀ j, j < i → fallK s j = s.Values.length) (h : ∀ j, i + 1 + j < k → ¬ fallP s i j) (hp : fallP s i (k - (i + 1))) :
    fallR s = ([(gt s.Values i).Time, (gt s.Values k).Time], 0) := by
  have h1 := fallK_yes hi hk h hp
  have h2 : fallI s = i := first_eq (by omega) (fun j hj => by have := hall j hj; omega) (by omega)
  rw [fallR, if_neg (by omega), h2, if_pos (by omega), h1]
theorem fallR_no {s : Ser} (h0 : chkE s = 0) (hall : ∀ j, j < s.Values.length → fallK s j = s.Values.length) : fallR s = ([], 3) := by
  have h2 : fallI s = s.Values.length := first_no (fun j hj => by have := hall j hj; omega)
  rw [fallR, if_neg (by omega), if_neg (by omega)]
end Go.Proofs.C8
