import Derived.Test.YtednficclnjmjaaC8Mono
/- Century: the examples of the document, reckoned. -/
namespace Go.Proofs.C8
open Go Go.Kx
def wideS : Ser := ⟨[⟨0, ⟨100, 102⟩⟩, ⟨1, ⟨101, 101⟩⟩, ⟨3, ⟨90, 95⟩⟩], [⟨2, ⟨-6, 0⟩⟩]⟩
theorem aw_even : evenR sampleS [100, 101, 90] [-5] = ([100, 101, 95], 0) := by decide +kernel
theorem aw_ext : extR sampleS ⟨0, 3⟩ = (⟨90, 100⟩, ⟨101, 102⟩, 0) := by decide +kernel
theorem aw_rank : rankR sampleS 0 = (⟨0, 2⟩, 0) := by decide +kernel
theorem aw_slope : slopeR sampleS = (⟨-59, 14⟩, ⟨-1, 14⟩, 0) := by decide +kernel
theorem aw_brk : brkR sampleS levelS 1 = ([3], 0) := by decide +kernel
theorem aw_adj : adjR sampleS levelS 3 0 = (⟨-11, -1⟩, 0) := by decide +kernel
theorem aw_stp : stpR sampleS 0 = ([3], 0) := by decide +kernel
theorem aw_fall : fallR sampleS = ([1, 3], 0) := by decide +kernel
theorem aw_chk : chkE sampleS = 0 := by decide +kernel
theorem aw_chkw : chkE wideS = 0 := by decide +kernel
theorem aw_m1 : mF sampleS 9 (mStart sampleS) = some none := by decide +kernel
theorem aw_m2 : mF wideS 9 (mStart wideS) = some (some [100, 101, 101]) := by decide +kernel
theorem fuel9 : fuelM = 9 + 1999999991 := rfl
theorem aw_mono : monoR sampleS = ([], 3) := by
  rw [monoR, if_neg (by rw [aw_chk]; omega), fuel9, mF_more _ aw_m1]
theorem aw_wide : monoR wideS = ([100, 101, 101], 0) := by
  rw [monoR, if_neg (by rw [aw_chkw]; omega), fuel9, mF_more _ aw_m2]
theorem aw_even1 : (evenR sampleS [100, 101, 90] [-5]).1 = [100, 101, 95] := by rw [aw_even]
theorem aw_even2 : (evenR sampleS [100, 101, 90] [-5]).2 = 0 := by rw [aw_even]
theorem aw_ext1 : (extR sampleS ⟨0, 3⟩).1.Lo = 90 := by rw [aw_ext]
theorem aw_ext2 : (extR sampleS ⟨0, 3⟩).1.Hi = 100 := by rw [aw_ext]
theorem aw_ext3 : (extR sampleS ⟨0, 3⟩).2.1.Lo = 101 := by rw [aw_ext]
theorem aw_ext4 : (extR sampleS ⟨0, 3⟩).2.1.Hi = 102 := by rw [aw_ext]
theorem aw_ext5 : (extR sampleS ⟨0, 3⟩).2.2 = 0 := by rw [aw_ext]
theorem aw_rank1 : (rankR sampleS 0).1.Lo = 0 := by rw [aw_rank]
theorem aw_rank2 : (rankR sampleS 0).1.Hi = 2 := by rw [aw_rank]
theorem aw_rank3 : (rankR sampleS 0).2 = 0 := by rw [aw_rank]
theorem aw_slope1 : (slopeR sampleS).1.Num = -59 := by rw [aw_slope]
theorem aw_slope2 : (slopeR sampleS).1.Den = 14 := by rw [aw_slope]
theorem aw_slope3 : (slopeR sampleS).2.1.Num = -1 := by rw [aw_slope]
theorem aw_slope4 : (slopeR sampleS).2.1.Den = 14 := by rw [aw_slope]
theorem aw_slope5 : (slopeR sampleS).2.2 = 0 := by rw [aw_slope]
theorem aw_brk1 : (brkR sampleS levelS 1).1 = [3] := by rw [aw_brk]
theorem aw_brk2 : (brkR sampleS levelS 1).2 = 0 := by rw [aw_brk]
theorem aw_adj1 : (adjR sampleS levelS 3 0).1.Lo = -11 := by rw [aw_adj]
theorem aw_adj2 : (adjR sampleS levelS 3 0).1.Hi = -1 := by rw [aw_adj]
theorem aw_adj3 : (adjR sampleS levelS 3 0).2 = 0 := by rw [aw_adj]
theorem aw_stp1 : (stpR sampleS 0).1 = [3] := by rw [aw_stp]
theorem aw_stp2 : (stpR sampleS 0).2 = 0 := by rw [aw_stp]
theorem aw_stp3 : ((stpR sampleS 0).1.length : Int) = 1 := by rw [aw_stp]; rfl
theorem aw_fall1 : (fallR sampleS).1 = [1, 3] := by rw [aw_fall]
theorem aw_fall2 : (fallR sampleS).2 = 0 := by rw [aw_fall]
theorem aw_mono1 : (monoR sampleS).1 = [] := by rw [aw_mono]
theorem aw_mono2 : (monoR sampleS).2 = 3 := by rw [aw_mono]
theorem aw_wide1 : (monoR wideS).1 = [100, 101, 101] := by rw [aw_wide]
theorem aw_wide2 : (monoR wideS).2 = 0 := by rw [aw_wide]
end Go.Proofs.C8
/- Century: what the statements' own functions compute, in plain Lean. -/
namespace Go.Proofs.C8
open Go Go.Kx

def fewP (s : Ser) : Prop := (s.Values.length ≤ 60 ∨ (200 < s.Values.length ∧ s.Values.length ≤ 400)) ∧ (s.Shifts.length ≤ 20 ∨ (64 < s.Shifts.length ∧ s.Shifts.length ≤ 128))
instance (s : Ser) : Decidable (fewP s) := by unfold fewP; exact inferInstance
def lightP (x : Rl) : Prop := x.Levels.length ≤ 500 ∧ x.Shifts.length ≤ 500
instance (x : Rl) : Decidable (lightP x) := by unfold lightP; exact inferInstance
/-- the ends of all levels and shifts together -/
def endsR (s : Ser) (b : Bool) : Rl := ⟨(List.range s.Values.length).map fun i => if b = true then (gt s.Values i).Levels.Hi else (gt s.Values i).Levels.Lo, (List.range s.Shifts.length).map fun i => if b = true then (gt s.Shifts i).Levels.Lo else (gt s.Shifts i).Levels.Hi⟩
def bestR (s : Ser) (w : Int) (b : Bool) : Rl := ⟨(List.range s.Values.length).map fun (k : Nat) => if decide ((k : Int) = w) = b then (gt s.Values k).Levels.Hi else (gt s.Values k).Levels.Lo,
  (List.range s.Shifts.length).map fun k => if decide ((gt s.Shifts k).Time ≤ (gt s.Values w.toNat).Time) = b then (gt s.Shifts k).Levels.Lo else (gt s.Shifts k).Levels.Hi⟩
def lowerN (l : List Int) (i : Nat) : Nat → Int
  | 0 => 0
  | n + 1 => lowerN l i n + if gt l n < gt l i then 1 else 0
def risesP (l : List Int) : Prop := ∀ i, i < l.length → 0 < i → gt l (i - 1) ≤ gt l i
instance (l : List Int) : Decidable (risesP l) := by unfold risesP; exact inferInstance

/-! ### means -/
def mnN (s : Ser) (l : List Int) (x : Span) (n : Nat) : Int := sumN (fun i => if inT x (gt s.Values i).Time then gt l i else 0) n
def mnD (s : Ser) (x : Span) : Nat → Int
  | 0 => 0
  | n + 1 => mnD s x n + if inT x (gt s.Values n).Time then 1 else 0
def mnE (s : Ser) (l : List Int) (x : Span) : Nat → Span
  | 0 => ⟨1099511627776, -1099511627776⟩
  | n + 1 => if inT x (gt s.Values n).Time then ⟨min (mnE s l x n).Lo (gt l n), max (mnE s l x n).Hi (gt l n)⟩ else mnE s l x n
def mnC (s : Ser) (l : List Int) : Nat := min l.length s.Values.length
def meanR (s : Ser) (l : List Int) (x : Span) : Ratio × Span × Bool := (⟨mnN s l x (mnC s l), mnD s x (mnC s l)⟩, mnE s l x (mnC s l), decide (0 < mnD s x (mnC s l)))
/-! ### parts, greedily -/
def mxL (l : List Int) (a : Nat) : Nat → Int
  | 0 => gt l a
  | n + 1 => max (mxL l a n) (gt l (a + n))
def miL (l : List Int) (a : Nat) : Nat → Int
  | 0 => gt l a
  | n + 1 => min (miL l a n) (gt l (a + n))
/-- the part that begins with a does not reach further than to a + j -/
def ptP (l : List Int) (most : Int) (a j : Nat) : Prop := ¬ (max (mxL l a j) (gt l (a + j)) - min (miL l a j) (gt l (a + j)) ≤ most)
instance (l : List Int) (most : Int) (a : Nat) : DecidablePred (ptP l most a) := fun j => by unfold ptP; exact inferInstance
def ptE (l : List Int) (most : Int) (a : Nat) : Nat := a + first (ptP l most a) (l.length - a)
def ptF (l : List Int) (most : Int) : Nat → Nat → Int
  | 0, _ => 0
  | f + 1, a => if a < l.length then 1 + ptF l most f (ptE l most a) else 0
def ptN (l : List Int) (most : Int) : Int := ptF l most l.length 0
theorem ml_bd {l : List Int} {a : Nat} {A B : Int} (h : ∀ i, i < l.length → A ≤ gt l i ∧ gt l i ≤ B) : ∀ n : Nat, a < l.length → a + n ≤ l.length → (A ≤ mxL l a n ∧ mxL l a n ≤ B) ∧ (A ≤ miL l a n ∧ miL l a n ≤ B)
  | 0, ha, _ => by simp only [mxL, miL]; exact ⟨h a ha, h a ha⟩
  | n + 1, ha, hn => by
    have h1 := ml_bd h n ha (by omega)
    have h2 := h (a + n) (by omega)
    simp only [mxL, miL]; omega
theorem ptP_zero {l : List Int} {most : Int} {a : Nat} (hm : 0 ≤ most) : ¬ ptP l most a 0 := by
  unfold ptP
  simp only [mxL, miL, Nat.add_zero, Int.max_self, Int.min_self]
  omega
theorem ptE_gt {l : List Int} {most : Int} {a : Nat} (hm : 0 ≤ most) (ha : a < l.length) : a < ptE l most a := by
  unfold ptE
  rcases first_cases (ptP l most a) (l.length - a) with ⟨h1, _⟩ | ⟨h1, h2, _⟩
  · omega
  · have : first (ptP l most a) (l.length - a) ≠ 0 := fun e => by rw [e] at h2; exact ptP_zero hm h2
    omega
theorem ptE_yes {l : List Int} {most : Int} {a b : Nat} (hab : a ≤ b) (hb : b ≤ l.length) (h : ∀ j, a + j < b → ¬ ptP l most a j) (he : b = l.length ∨ ptP l most a (b - a)) : ptE l most a = b := by
  unfold ptE
  rcases he with rfl | he
  · rw [first_no (fun j hj => h j (by omega))]; omega
  · by_cases hb' : b = l.length
    · subst hb'; rw [first_no (fun j hj => h j (by omega))]; omega
    · rw [first_eq (k := b - a) (by omega) (fun j hj => h j (by omega)) he]; omega
theorem ptF_fuel (l : List Int) {most : Int} (hm : 0 ≤ most) : ∀ (f a : Nat), l.length - a ≤ f → ptF l most f a = ptF l most (l.length - a) a
  | 0, a, h => by rw [show l.length - a = 0 by omega]
  | f + 1, a, h => by
    by_cases ha : a < l.length
    · obtain ⟨g, hg⟩ : ∃ g, l.length - a = g + 1 := ⟨l.length - a - 1, by omega⟩
      have h1 := ptE_gt hm ha
      rw [hg]; simp only [ptF]; rw [if_pos ha, if_pos ha, ptF_fuel l hm f _ (by omega), ptF_fuel l hm g _ (by omega)]
    · rw [show l.length - a = 0 by omega]; simp only [ptF, if_neg ha]
theorem ptF_step {l : List Int} {most : Int} {a : Nat} (hm : 0 ≤ most) (ha : a < l.length) : ptF l most (l.length - a) a = 1 + ptF l most (l.length - ptE l most a) (ptE l most a) := by
  obtain ⟨g, hg⟩ : ∃ g, l.length - a = g + 1 := ⟨l.length - a - 1, by omega⟩
  have h1 := ptE_gt hm ha
  rw [hg, ptF, if_pos ha, ptF_fuel l hm g _ (by omega)]
/-! ### told exactly; turned round -/
def toldS (s : Ser) (x : Rl) : Ser := ⟨(List.range s.Values.length).map fun i => ⟨(gt s.Values i).Time, ⟨gt x.Levels i, gt x.Levels i⟩⟩, (List.range s.Shifts.length).map fun i => ⟨(gt s.Shifts i).Time, ⟨gt x.Shifts i, gt x.Shifts i⟩⟩⟩
def toldR (s : Ser) (x : Rl) : Ser × Bool := if keepsE s x.Levels x.Shifts ≠ 0 then (⟨[], []⟩, false) else (toldS s x, true)
def turnS (s : Ser) : Ser := ⟨(List.range s.Values.length).map fun i => ⟨(gt s.Values i).Time, ⟨24000 - (gt s.Values i).Levels.Hi, 24000 - (gt s.Values i).Levels.Lo⟩⟩, (List.range s.Shifts.length).map fun i => ⟨(gt s.Shifts i).Time, ⟨-(gt s.Shifts i).Levels.Hi, -(gt s.Shifts i).Levels.Lo⟩⟩⟩

/-! ### differences -/
def tmL (s : Ser) (c : List A2) : List Int := c.map fun p => (gt s.Values p.a.toNat).Time
def dfL (l m : List Int) (c : List A2) : List Int := c.map fun p => gt l p.a.toNat - gt m p.b.toNat
/-- the common times, when value i of the first series has been held against k values of the second one -/
def comK (s t : Ser) (i k : Nat) : List A2 := if 0 ≤ idxR t (gt s.Values i).Time ∧ idxR t (gt s.Values i).Time < k then comN s t i ++ [⟨(i : Int), idxR t (gt s.Values i).Time⟩] else comN s t i
end Go.Proofs.C8
