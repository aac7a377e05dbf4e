/- Century: what the statements' own functions compute, in plain Lean. -/
import Derived.Test.YtednficclnjmjaaC8Awake
namespace Go.Proofs.C8
open Go Go.Kx

def fewP (s : Ser) : Prop := (s.Values.length ≤ 60 ∨ (200 < s.Values.length ∧ s.Values.length ≤ 400)) ∧ (s.Shifts.length ≤ 20 ∨ (64 < s.Shifts.length ∧ s.Shifts.length ≤ 128))
instance (s : Ser) : Decidable (fewP s) := by unfold fewP; exact inferInstance
def lightP (x : Rl) : Prop := x.Levels.length ≤ 500 ∧ x.Shifts.length ≤ 500
instance (x : Rl) : Decidable (lightP x) := by unfold lightP; exact inferInstance
/-- the ends of all levels and shifts together -/
def endsR (s : Ser) (b : Bool) : Rl := ⟨(List.range s.Values.length).map fun i => if b = true then (gt s.Values i).Levels.Hi else (gt s.Values i).Levels.Lo, (List.range s.Shifts.length).map fun i => if b = true then (gt s.Shifts i).Levels.Lo else (gt s.Shifts i).Levels.Hi⟩
def bestR (s : Ser) (w : Int) (b : Bool) : Rl := ⟨(List.range s.Values.length).map fun (k : Nat) => if decide ((k : Int) = w) = b then (gt s.Values k).Levels.Hi else (gt s.Values k).Levels.Lo,
  (List.range s.Shifts.length).map fun k => if decide ((gt s.Shifts k).Time ≤ (gt s.Values w.toNat).Time) = b then (gt s.Shifts k).Levels.Lo else (gt s.Shifts k).Levels.Hi⟩
def lowerN (l : List Int) (i : Nat) : Nat → Int
  | 0 => 0
  | n + 1 => lowerN l i n + if gt l n < gt l i then 1 else 0
def risesP (l : List Int) : Prop := ∀ i, i < l.length → 0 < i → gt l (i - 1) ≤ gt l i
instance (l : List Int) : Decidable (risesP l) := by unfold risesP; exact inferInstance

/-! ### means -/
def mnN (s : Ser) (l : List Int) (x : Span) (n : Nat) : Int := sumN (fun i => if inT x (gt s.Values i).Time then gt l i else 0) n
def mnD (s : Ser) (x : Span) : Nat → Int
  | 0 => 0
  | n + 1 => mnD s x n + if inT x (gt s.Values n).Time then 1 else 0
def mnE (s : Ser) (l : List Int) (x : Span) : Nat → Span
  | 0 => ⟨1099511627776, -1099511627776⟩
  | n + 1 => if inT x (gt s.Values n).Time then ⟨min (mnE s l x n).Lo (gt l n), max (mnE s l x n).Hi (gt l n)⟩ else mnE s l x n
def mnC (s : Ser) (l : List Int) : Nat := min l.length s.Values.length
def meanR (s : Ser) (l : List Int) (x : Span) : Ratio × Span × Bool := (⟨mnN s l x (mnC s l), mnD s x (mnC s l)⟩, mnE s l x (mnC s l), decide (0 < mnD s x (mnC s l)))
/-! ### parts, greedily -/
def mxL (l : List Int) (a : Nat) : Nat → Int
  | 0 => gt l a
  | n + 1 => max (mxL l a n) (gt l (a + n))
def miL (l : List Int) (a : Nat) : Nat → Int
  | 0 => gt l a
  | n + 1 => min (miL l a n) (gt l (a + n))
/-- the part that begins with a does not reach further than to a + j -/
def ptP (l : List Int) (most : Int) (a j : Nat) : Prop := ¬ (max (mxL l a j) (gt l (a + j)) - min (miL l a j) (gt l (a + j)) ≤ most)
instance (l : List Int) (most : Int) (a : Nat) : DecidablePred (ptP l most a) := fun j => by unfold ptP; exact inferInstance
def ptE (l : List Int) (most : Int) (a : Nat) : Nat := a + first (ptP l most a) (l.length - a)
def ptF (l : List Int) (most : Int) : Nat → Nat → Int
  | 0, _ => 0
  | f + 1, a => if a < l.length then 1 + ptF l most f (ptE l most a) else 0
def ptN (l : List Int) (most : Int) : Int := ptF l most l.length 0
/-! ### told exactly; turned round -/
def toldS (s : Ser) (x : Rl) : Ser := ⟨(List.range s.Values.length).map fun i => ⟨(gt s.Values i).Time, ⟨gt x.Levels i, gt x.Levels i⟩⟩, (List.range s.Shifts.length).map fun i => ⟨(gt s.Shifts i).Time, ⟨gt x.Shifts i, gt x.Shifts i⟩⟩⟩
def toldR (s : Ser) (x : Rl) : Ser × Bool := if keepsE s x.Levels x.Shifts ≠ 0 then (⟨[], []⟩, false) else (toldS s x, true)
def turnS (s : Ser) : Ser := ⟨(List.range s.Values.length).map fun i => ⟨(gt s.Values i).Time, ⟨24000 - (gt s.Values i).Levels.Hi, 24000 - (gt s.Values i).Levels.Lo⟩⟩, (List.range s.Shifts.length).map fun i => ⟨(gt s.Shifts i).Time, ⟨-(gt s.Shifts i).Levels.Hi, -(gt s.Shifts i).Levels.Lo⟩⟩⟩

/-! ### differences -/
def tmL (s : Ser) (c : List A2) : List Int := c.map fun p => (gt s.Values p.a.toNat).Time
def dfL (l m : List Int) (c : List A2) : List Int := c.map fun p => gt l p.a.toNat - gt m p.b.toNat
/-- the common times, when value i of the first series has been held against k values of the second one -/
def comK (s t : Ser) (i k : Nat) : List A2 := if 0 ≤ idxR t (gt s.Values i).Time ∧ idxR t (gt s.Values i).Time < k then comN s t i ++ [⟨(i : Int), idxR t (gt s.Values i).Time⟩] else comN s t i
theorem comK_zero (s t : Ser) (i : Nat) : comK s t i 0 = comN s t i := by rw [comK, if_neg (by omega)]
theorem comK_end {s t : Ser} {i k : Nat} (hk : k = t.Values.length) : comK s t i k = comN s t (i + 1) := by
  have := idxR_bd t (gt s.Values i).Time
  rw [comK, comN]
  by_cases h : 0 ≤ idxR t (gt s.Values i).Time
  · rw [if_pos ⟨h, by omega⟩, if_pos h]
  · rw [if_neg (fun h2 => h h2.1), if_neg h]
theorem idx_uniq {t : Ser} (h : Ok t) {k : Nat} {x : Int} (hk : k < t.Values.length) (he : (gt t.Values k).Time = x) : idxR t x = (k : Int) :=
  idxR_yes hk (fun j hj hn => by have := h.mono (i := j) (k := k) hk hj; omega) he
theorem comK_yes {s t : Ser} (ht : Ok t) {i k : Nat} (hk : k < t.Values.length) (he : (gt s.Values i).Time = (gt t.Values k).Time) : comK s t i (k + 1) = comK s t i k ++ [⟨(i : Int), (k : Int)⟩] := by
  have h1 := idx_uniq ht hk he.symm
  rw [comK, comK, h1, if_pos (by omega), if_neg (by omega)]
theorem comK_no {s t : Ser} {i k : Nat} (he : ¬ (gt s.Values i).Time = (gt t.Values k).Time) : comK s t i (k + 1) = comK s t i k := by
  have h1 : idxR t (gt s.Values i).Time ≠ (k : Int) := fun h => by
    rcases idxR_cases t (gt s.Values i).Time with ⟨h2, _⟩ | ⟨j, h2, _, h3⟩
    · omega
    · obtain rfl : j = k := by omega
      exact he h3.symm
  rw [comK, comK]
  by_cases h2 : 0 ≤ idxR t (gt s.Values i).Time ∧ idxR t (gt s.Values i).Time < k
  · rw [if_pos h2, if_pos ⟨h2.1, by omega⟩]
  · rw [if_neg h2, if_neg (fun h3 => h2 ⟨h3.1, by omega⟩)]
theorem comK_len (s t : Ser) (i k : Nat) : (comK s t i k).length ≤ i + 1 := by
  have := comN_len s t i
  unfold comK
  split <;> simp <;> omega
theorem tm_yes {s t : Ser} (ht : Ok t) {i k : Nat} (hk : k < t.Values.length) (he : (gt s.Values i).Time = (gt t.Values k).Time) : tmL s (comK s t i k) ++ [(gt s.Values i).Time] = tmL s (comK s t i (k + 1)) := by
  rw [comK_yes ht hk he]; simp [tmL]
theorem df_yes {s t : Ser} (ht : Ok t) {l m : List Int} {i k : Nat} (hk : k < t.Values.length) (he : (gt s.Values i).Time = (gt t.Values k).Time) : dfL l m (comK s t i k) ++ [gt l i - gt m k] = dfL l m (comK s t i (k + 1)) := by
  rw [comK_yes ht hk he]; simp [dfL]
theorem tm_len (s : Ser) (c : List A2) : (tmL s c).length = c.length := by simp [tmL]
theorem df_len (l m : List Int) (c : List A2) : (dfL l m c).length = c.length := by simp [dfL]
theorem tm_at (s : Ser) {c : List A2} {i : Nat} (h : i < c.length) : gt (tmL s c) i = (gt s.Values (gt c i).a.toNat).Time := by unfold tmL; rw [gt_mapL _ _ h]
theorem df_at (l m : List Int) {c : List A2} {i : Nat} (h : i < c.length) : gt (dfL l m c) i = gt l (gt c i).a.toNat - gt m (gt c i).b.toNat := by unfold dfL; rw [gt_mapL _ _ h]
end Go.Proofs.C8
