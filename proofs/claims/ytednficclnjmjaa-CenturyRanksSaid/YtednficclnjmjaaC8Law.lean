/- Century: what the statements' own functions compute, in plain Lean. -/
import Derived.Test.YtednficclnjmjaaC8Awake
namespace Go.Proofs.C8
open Go Go.Kx

def fewP (s : Ser) : Prop := (s.Values.length ≤ 60 ∨ (200 < s.Values.length ∧ s.Values.length ≤ 400)) ∧ (s.Shifts.length ≤ 20 ∨ (64 < s.Shifts.length ∧ s.Shifts.length ≤ 128))
instance (s : Ser) : Decidable (fewP s) := by unfold fewP; exact inferInstance
def lightP (x : Rl) : Prop := x.Levels.length ≤ 500 ∧ x.Shifts.length ≤ 500
instance (x : Rl) : Decidable (lightP x) := by unfold lightP; exact inferInstance
/-- the ends of all levels and shifts together -/
def endsR (s : Ser) (b : Bool) : Rl := ⟨(List.range s.Values.length).map fun i => if b = true then (gt s.Values i).Levels.Hi else (gt s.Values i).Levels.Lo, (List.range s.Shifts.length).map fun i => if b = true then (gt s.Shifts i).Levels.Lo else (gt s.Shifts i).Levels.Hi⟩
def bestR (s : Ser) (w : Int) (b : Bool) : Rl := ⟨(List.range s.Values.length).map fun (k : Nat) => if decide ((k : Int) = w) = b then (gt s.Values k).Levels.Hi else (gt s.Values k).Levels.Lo,
  (List.range s.Shifts.length).map fun k => if decide ((gt s.Shifts k).Time ≤ (gt s.Values w.toNat).Time) = b then (gt s.Shifts k).Levels.Lo else (gt s.Shifts k).Levels.Hi⟩
def lowerN (l : List Int) (i : Nat) : Nat → Int
  | 0 => 0
  | n + 1 => lowerN l i n + if gt l n < gt l i then 1 else 0
theorem lowerN_bd (l : List Int) (i : Nat) : ∀ n : Nat, 0 ≤ lowerN l i n ∧ lowerN l i n ≤ n
  | 0 => by simp [lowerN]
  | n + 1 => by have := lowerN_bd l i n; simp only [lowerN]; split <;> omega
def risesP (l : List Int) : Prop := ∀ i, i < l.length → 0 < i → gt l (i - 1) ≤ gt l i
instance (l : List Int) : Decidable (risesP l) := by unfold risesP; exact inferInstance

/-! ### means -/
def mnN (s : Ser) (l : List Int) (x : Span) (n : Nat) : Int := sumN (fun i => if inT x (gt s.Values i).Time then gt l i else 0) n
def mnD (s : Ser) (x : Span) : Nat → Int
  | 0 => 0
  | n + 1 => mnD s x n + if inT x (gt s.Values n).Time then 1 else 0
def mnE (s : Ser) (l : List Int) (x : Span) : Nat → Span
  | 0 => ⟨1099511627776, -1099511627776⟩
  | n + 1 => if inT x (gt s.Values n).Time then ⟨min (mnE s l x n).Lo (gt l n), max (mnE s l x n).Hi (gt l n)⟩ else mnE s l x n
def mnC (s : Ser) (l : List Int) : Nat := min l.length s.Values.length
def meanR (s : Ser) (l : List Int) (x : Span) : Ratio × Span × Bool := (⟨mnN s l x (mnC s l), mnD s x (mnC s l)⟩, mnE s l x (mnC s l), decide (0 < mnD s x (mnC s l)))
theorem mnD_eq (s : Ser) (x : Span) : ∀ n : Nat, mnD s x n = (wtN s x n : Int)
  | 0 => rfl
  | n + 1 => by simp only [mnD, wtN]; rw [mnD_eq s x n]; split <;> omega
theorem mnN_bd {s : Ser} {l : List Int} {x : Span} {n : Nat} (h : ∀ i, i < n → -1000000 ≤ gt l i ∧ gt l i ≤ 1000000) : n * -1000000 ≤ mnN s l x n ∧ mnN s l x n ≤ n * 1000000 :=
  sumN_bd fun i hi => by have := h i hi; split <;> omega
theorem mnD_bd (s : Ser) (x : Span) (n : Nat) : 0 ≤ mnD s x n ∧ mnD s x n ≤ n := by rw [mnD_eq]; have := wtN_len s x n; omega

/-! ### parts, greedily -/
def mxL (l : List Int) (a : Nat) : Nat → Int
  | 0 => gt l a
  | n + 1 => max (mxL l a n) (gt l (a + n))
def miL (l : List Int) (a : Nat) : Nat → Int
  | 0 => gt l a
  | n + 1 => min (miL l a n) (gt l (a + n))
/-- the part that begins with a does not reach further than to a + j -/
def ptP (l : List Int) (most : Int) (a j : Nat) : Prop := ¬ (max (mxL l a j) (gt l (a + j)) - min (miL l a j) (gt l (a + j)) ≤ most)
instance (l : List Int) (most : Int) (a : Nat) : DecidablePred (ptP l most a) := fun j => by unfold ptP; exact inferInstance
def ptE (l : List Int) (most : Int) (a : Nat) : Nat := a + first (ptP l most a) (l.length - a)
def ptF (l : List Int) (most : Int) : Nat → Nat → Int
  | 0, _ => 0
  | f + 1, a => if a < l.length then 1 + ptF l most f (ptE l most a) else 0
def ptN (l : List Int) (most : Int) : Int := ptF l most l.length 0
theorem ml_bd {l : List Int} {a : Nat} {A B : Int} (h : ∀ i, i < l.length → A ≤ gt l i ∧ gt l i ≤ B) : ∀ n : Nat, a < l.length → a + n ≤ l.length → (A ≤ mxL l a n ∧ mxL l a n ≤ B) ∧ (A ≤ miL l a n ∧ miL l a n ≤ B)
  | 0, ha, _ => by simp only [mxL, miL]; exact ⟨h a ha, h a ha⟩
  | n + 1, ha, hn => by
    have h1 := ml_bd h n ha (by omega)
    have h2 := h (a + n) (by omega)
    simp only [mxL, miL]; omega
theorem ptP_zero {l : List Int} {most : Int} {a : Nat} (hm : 0 ≤ most) : ¬ ptP l most a 0 := by
  unfold ptP
  simp only [mxL, miL, Nat.add_zero, Int.max_self, Int.min_self]
  omega
theorem ptE_gt {l : List Int} {most : Int} {a : Nat} (hm : 0 ≤ most) (ha : a < l.length) : a < ptE l most a := by
  unfold ptE
  rcases first_cases (ptP l most a) (l.length - a) with ⟨h1, _⟩ | ⟨h1, h2, _⟩
  · omega
  · have : first (ptP l most a) (l.length - a) ≠ 0 := fun e => by rw [e] at h2; exact ptP_zero hm h2
    omega
theorem ptE_le {l : List Int} {most : Int} {a : Nat} (ha : a ≤ l.length) : ptE l most a ≤ l.length := by
  unfold ptE
  rcases first_cases (ptP l most a) (l.length - a) with ⟨h1, _⟩ | ⟨h1, _, _⟩ <;> omega
theorem ptE_yes {l : List Int} {most : Int} {a b : Nat} (hab : a ≤ b) (hb : b ≤ l.length) (h : ∀ j, a + j < b → ¬ ptP l most a j) (he : b = l.length ∨ ptP l most a (b - a)) : ptE l most a = b := by
  unfold ptE
  rcases he with rfl | he
  · rw [first_no (fun j hj => h j (by omega))]; omega
  · by_cases hb' : b = l.length
    · subst hb'; rw [first_no (fun j hj => h j (by omega))]; omega
    · rw [first_eq (k := b - a) (by omega) (fun j hj => h j (by omega)) he]; omega
theorem ptF_fuel (l : List Int) {most : Int} (hm : 0 ≤ most) : ∀ (f a : Nat), l.length - a ≤ f → ptF l most f a = ptF l most (l.length - a) a
  | 0, a, h => by rw [show l.length - a = 0 by omega]
  | f + 1, a, h => by
    by_cases ha : a < l.length
    · obtain ⟨g, hg⟩ : ∃ g, l.length - a = g + 1 := ⟨l.length - a - 1, by omega⟩
      have h1 := ptE_gt hm ha
      rw [hg]; simp only [ptF]; rw [if_pos ha, if_pos ha, ptF_fuel l hm f _ (by omega), ptF_fuel l hm g _ (by omega)]
    · rw [show l.length - a = 0 by omega]; simp only [ptF, if_neg ha]
theorem ptF_step {l : List Int} {most : Int} {a : Nat} (hm : 0 ≤ most) (ha : a < l.length) : ptF l most (l.length - a) a = 1 + ptF l most (l.length - ptE l most a) (ptE l most a) := by
  obtain ⟨g, hg⟩ : ∃ g, l.length - a = g + 1 := ⟨l.length - a - 1, by omega⟩
  have h1 := ptE_gt hm ha
  rw [hg, ptF, if_pos ha, ptF_fuel l hm g _ (by omega)]
theorem ptF_bd (l : List Int) (most : Int) : ∀ (f a : Nat), 0 ≤ ptF l most f a ∧ ptF l most f a ≤ f
  | 0, _ => by simp [ptF]
  | f + 1, a => by have := ptF_bd l most f (ptE l most a); simp only [ptF]; split <;> omega

/-! ### told exactly; turned round -/
def toldS (s : Ser) (x : Rl) : Ser := ⟨(List.range s.Values.length).map fun i => ⟨(gt s.Values i).Time, ⟨gt x.Levels i, gt x.Levels i⟩⟩, (List.range s.Shifts.length).map fun i => ⟨(gt s.Shifts i).Time, ⟨gt x.Shifts i, gt x.Shifts i⟩⟩⟩
def toldR (s : Ser) (x : Rl) : Ser × Bool := if keepsE s x.Levels x.Shifts ≠ 0 then (⟨[], []⟩, false) else (toldS s x, true)
def turnS (s : Ser) : Ser := ⟨(List.range s.Values.length).map fun i => ⟨(gt s.Values i).Time, ⟨24000 - (gt s.Values i).Levels.Hi, 24000 - (gt s.Values i).Levels.Lo⟩⟩, (List.range s.Shifts.length).map fun i => ⟨(gt s.Shifts i).Time, ⟨-(gt s.Shifts i).Levels.Hi, -(gt s.Shifts i).Levels.Lo⟩⟩⟩

/-! ### differences -/
def tmL (s : Ser) (c : List A2) : List Int := c.map fun p => (gt s.Values p.a.toNat).Time
def dfL (l m : List Int) (c : List A2) : List Int := c.map fun p => gt l p.a.toNat - gt m p.b.toNat
/-- the common times, when value i of the first series has been held against k values of the second one -/
def comK (s t : Ser) (i k : Nat) : List A2 := if 0 ≤ idxR t (gt s.Values i).Time ∧ idxR t (gt s.Values i).Time < k then comN s t i ++ [⟨(i : Int), idxR t (gt s.Values i).Time⟩] else comN s t i
theorem comK_zero (s t : Ser) (i : Nat) : comK s t i 0 = comN s t i := by rw [comK, if_neg (by omega)]
theorem comK_end {s t : Ser} {i k : Nat} (hk : k = t.Values.length) : comK s t i k = comN s t (i + 1) := by
  have := idxR_bd t (gt s.Values i).Time
  rw [comK, comN]
  by_cases h : 0 ≤ idxR t (gt s.Values i).Time
  · rw [if_pos ⟨h, by omega⟩, if_pos h]
  · rw [if_neg (fun h2 => h h2.1), if_neg h]
theorem idx_uniq {t : Ser} (h : Ok t) {k : Nat} {x : Int} (hk : k < t.Values.length) (he : (gt t.Values k).Time = x) : idxR t x = (k : Int) :=
  idxR_yes hk (fun j hj hn => by have := h.mono (i := j) (k := k) hk hj; omega) he
theorem comK_yes {s t : Ser} (ht : Ok t) {i k : Nat} (hk : k < t.Values.length) (he : (gt s.Values i).Time = (gt t.Values k).Time) : comK s t i (k + 1) = comK s t i k ++ [⟨(i : Int), (k : Int)⟩] := by
  have h1 := idx_uniq ht hk he.symm
  rw [comK, comK, h1, if_pos (by omega), if_neg (by omega)]
theorem comK_no {s t : Ser} {i k : Nat} (he : ¬ (gt s.Values i).Time = (gt t.Values k).Time) : comK s t i (k + 1) = comK s t i k := by
  have h1 : idxR t (gt s.Values i).Time ≠ (k : Int) := fun h => by
    rcases idxR_cases t (gt s.Values i).Time with ⟨h2, _⟩ | ⟨j, h2, _, h3⟩
    · omega
    · obtain rfl : j = k := by omega
      exact he h3.symm
  rw [comK, comK]
  by_cases h2 : 0 ≤ idxR t (gt s.Values i).Time ∧ idxR t (gt s.Values i).Time < k
  · rw [if_pos h2, if_pos ⟨h2.1, by omega⟩]
  · rw [if_neg h2, if_neg (fun h3 => h2 ⟨h3.1, by omega⟩)]
theorem comK_len (s t : Ser) (i k : Nat) : (comK s t i k).length ≤ i + 1 := by
  have := comN_len s t i
  unfold comK
  split <;> simp <;> omega
theorem tm_yes {s t : Ser} (ht : Ok t) {i k : Nat} (hk : k < t.Values.length) (he : (gt s.Values i).Time = (gt t.Values k).Time) : tmL s (comK s t i k) ++ [(gt s.Values i).Time] = tmL s (comK s t i (k + 1)) := by
  rw [comK_yes ht hk he]; simp [tmL]
theorem df_yes {s t : Ser} (ht : Ok t) {l m : List Int} {i k : Nat} (hk : k < t.Values.length) (he : (gt s.Values i).Time = (gt t.Values k).Time) : dfL l m (comK s t i k) ++ [gt l i - gt m k] = dfL l m (comK s t i (k + 1)) := by
  rw [comK_yes ht hk he]; simp [dfL]
theorem tm_len (s : Ser) (c : List A2) : (tmL s c).length = c.length := by simp [tmL]
theorem df_len (l m : List Int) (c : List A2) : (dfL l m c).length = c.length := by simp [dfL]
theorem tm_at (s : Ser) {c : List A2} {i : Nat} (h : i < c.length) : gt (tmL s c) i = (gt s.Values (gt c i).a.toNat).Time := by unfold tmL; rw [gt_mapL _ _ h]
theorem df_at (l m : List Int) {c : List A2} {i : Nat} (h : i < c.length) : gt (dfL l m c) i = gt l (gt c i).a.toNat - gt m (gt c i).b.toNat := by unfold dfL; rw [gt_mapL _ _ h]
end Go.Proofs.C8
