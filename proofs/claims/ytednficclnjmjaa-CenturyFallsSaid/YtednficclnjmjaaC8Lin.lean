/- Century: sums of adjusted levels lie within their bounds, and reach them; in plain Lean. -/
import Derived.Test.YtednficclnjmjaaC8Law
namespace Go.Proofs.C8
open Go Go.Kx

/-- a sum of adjusted levels is a sum of levels and of shifts -/
theorem lin_eq (s : Ser) (f lv sh : List Int) : sumN (fun i => gt f i * evenAt s lv sh i) s.Values.length = totN f lv s.Values.length + totN (sumXL s f) sh s.Shifts.length := by
  have h1 : sumN (fun i => gt f i * evenAt s lv sh i) s.Values.length = sumN (fun i => gt f i * gt lv i - sumN (fun k => if (gt s.Shifts k).Time ≤ (gt s.Values i).Time then gt f i * gt sh k else 0) s.Shifts.length) s.Values.length :=
    sumN_congr fun i _ => by
      unfold evenAt offN
      rw [Int.mul_sub, ← sumN_mul]
      congr 1
      exact sumN_congr fun k _ => by split <;> simp
  rw [h1, sumN_sub, sumN_swap]
  have h2 : totN (sumXL s f) sh s.Shifts.length = - sumN (fun k => sumN (fun i => if (gt s.Shifts k).Time ≤ (gt s.Values i).Time then gt f i * gt sh k else 0) s.Values.length) s.Shifts.length := by
    unfold totN
    rw [← sumN_neg]
    exact sumN_congr fun k hk => by
      rw [sumXL, gt_map hk]
      unfold sumX
      rw [Int.neg_mul, Int.mul_comm, ← sumN_mul]
      congr 1
      exact sumN_congr fun i _ => by split <;> simp [Int.mul_comm]
  rw [h2]
  unfold totN
  omega
theorem end_lo {x : Span} {f p : Int} (h : x.Lo ≤ p ∧ p ≤ x.Hi) : f * endS x f false ≤ f * p := by
  unfold endS
  by_cases hf : 0 < f
  · rw [if_neg (by simp [hf])]
    exact Int.mul_le_mul_of_nonneg_left h.1 (by omega)
  · rw [if_pos (by simp [hf])]
    exact Int.mul_le_mul_of_nonpos_left (by omega) h.2
theorem end_hi {x : Span} {f p : Int} (h : x.Lo ≤ p ∧ p ≤ x.Hi) : f * p ≤ f * endS x f true := by
  unfold endS
  by_cases hf : 0 < f
  · rw [if_pos (by simp [hf])]
    exact Int.mul_le_mul_of_nonneg_left h.2 (by omega)
  · rw [if_neg (by simp [hf])]
    exact Int.mul_le_mul_of_nonpos_left (by omega) h.1
theorem bd_in {s : Ser} {lv sh : List Int} (h : agreeP s lv sh) (f : List Int) :
    (bd s f).Lo ≤ sumN (fun i => gt f i * evenAt s lv sh i) s.Values.length ∧ sumN (fun i => gt f i * evenAt s lv sh i) s.Values.length ≤ (bd s f).Hi := by
  rw [lin_eq]
  have a1 : totN f (endV s f false) s.Values.length ≤ totN f lv s.Values.length := sumN_le fun i hi => by rw [endV, gt_map hi]; exact end_lo (h.2.1 i hi)
  have a2 : totN f lv s.Values.length ≤ totN f (endV s f true) s.Values.length := sumN_le fun i hi => by rw [endV, gt_map hi]; exact end_hi (h.2.1 i hi)
  have b1 : totN (sumXL s f) (endX s (sumXL s f) false) s.Shifts.length ≤ totN (sumXL s f) sh s.Shifts.length := sumN_le fun i hi => by rw [endX, gt_map hi]; exact end_lo (h.2.2 i hi)
  have b2 : totN (sumXL s f) sh s.Shifts.length ≤ totN (sumXL s f) (endX s (sumXL s f) true) s.Shifts.length := sumN_le fun i hi => by rw [endX, gt_map hi]; exact end_hi (h.2.2 i hi)
  unfold bd bdS totS
  dsimp only
  omega
/-- numbers at the ends that count reach the bound -/
theorem bd_at {s : Ser} {f lv sh : List Int} {b : Bool} (hl : ∀ i, i < s.Values.length → gt f i ≠ 0 → gt lv i = endS (gt s.Values i).Levels (gt f i) b)
    (hs : ∀ k, k < s.Shifts.length → sumX s f k ≠ 0 → gt sh k = endS (gt s.Shifts k).Levels (sumX s f k) b) :
    sumN (fun i => gt f i * evenAt s lv sh i) s.Values.length = totS s f (sumXL s f) b := by
  rw [lin_eq]
  unfold totS
  congr 1
  · exact sumN_congr fun i hi => by
      rw [endV, gt_map hi]
      by_cases h0 : gt f i = 0
      · rw [h0, Int.zero_mul, Int.zero_mul]
      · rw [hl i hi h0]
  · exact sumN_congr fun k hk => by
      rw [sumXL, gt_map hk, endX, gt_map hk, gt_map hk]
      by_cases h0 : sumX s f k = 0
      · rw [h0, Int.zero_mul, Int.zero_mul]
      · rw [hs k hk h0]
theorem sumN_one {g : Nat → Int} {n i : Nat} (hi : i < n) : sumN (fun j => if j = i then g j else 0) n = g i := by
  induction n with
  | zero => omega
  | succ n ih =>
    simp only [sumN]
    by_cases h : n = i
    · subst h
      rw [if_pos rfl, sumN_congr (g := fun _ => 0) (fun j hj => by rw [if_neg (by omega)]), sumN_zero]; omega
    · rw [if_neg h, ih (by omega)]; omega
theorem gap_lin {n i k : Nat} (hi : i < n) (hk : k < n) (g : Nat → Int) : sumN (fun j => gt (gapL n i k) j * g j) n = g i - g k := by
  rw [sumN_congr (g := fun j => (if j = i then g j else 0) - (if j = k then g j else 0)) (fun j hj => by
    rw [gapL, gt_map hj, Int.sub_mul]; congr 1 <;> (split <;> simp)), sumN_sub, sumN_one hi, sumN_one hk]
theorem gap_in {s : Ser} {lv sh : List Int} (h : agreeP s lv sh) {i k : Nat} (hi : i < s.Values.length) (hk : k < s.Values.length) :
    (gap s i k).Lo ≤ evenAt s lv sh i - evenAt s lv sh k ∧ evenAt s lv sh i - evenAt s lv sh k ≤ (gap s i k).Hi := by
  have := bd_in h (gapL s.Values.length i k)
  rw [gap_lin hi hk] at this
  exact this
/-- which shifts count in a difference -/
theorem gap_sumX {s : Ser} {i k : Nat} (hi : i < s.Values.length) (hk : k < s.Values.length) (j : Nat) :
    sumX s (gapL s.Values.length i k) j = (if (gt s.Shifts j).Time ≤ (gt s.Values k).Time then 1 else 0) - (if (gt s.Shifts j).Time ≤ (gt s.Values i).Time then 1 else 0) := by
  unfold sumX
  rw [sumN_congr (g := fun q => (if q = i then (if (gt s.Shifts j).Time ≤ (gt s.Values q).Time then (1 : Int) else 0) else 0) - (if q = k then (if (gt s.Shifts j).Time ≤ (gt s.Values q).Time then 1 else 0) else 0)) (fun q hq => by
    rw [gapL, gt_map hq]; (repeat' split) <;> first | omega | contradiction), sumN_sub, sumN_one (g := fun q => if (gt s.Shifts j).Time ≤ (gt s.Values q).Time then 1 else 0) hi, sumN_one (g := fun q => if (gt s.Shifts j).Time ≤ (gt s.Values q).Time then 1 else 0) hk]
  omega
/-- numbers at the ends of what counts in a difference reach its bound -/
theorem gap_at {s : Ser} {lv sh : List Int} {i k : Nat} (hi : i < s.Values.length) (hk : k < s.Values.length) (hik : i ≠ k) (b : Bool)
    (h1 : gt lv i = if b = true then (gt s.Values i).Levels.Hi else (gt s.Values i).Levels.Lo) (h2 : gt lv k = if b = true then (gt s.Values k).Levels.Lo else (gt s.Values k).Levels.Hi)
    (h3 : ∀ j, j < s.Shifts.length → (gt s.Shifts j).Time ≤ (gt s.Values i).Time → ¬ (gt s.Shifts j).Time ≤ (gt s.Values k).Time → gt sh j = if b = true then (gt s.Shifts j).Levels.Lo else (gt s.Shifts j).Levels.Hi)
    (h4 : ∀ j, j < s.Shifts.length → ¬ (gt s.Shifts j).Time ≤ (gt s.Values i).Time → (gt s.Shifts j).Time ≤ (gt s.Values k).Time → gt sh j = if b = true then (gt s.Shifts j).Levels.Hi else (gt s.Shifts j).Levels.Lo) :
    evenAt s lv sh i - evenAt s lv sh k = if b = true then (gap s i k).Hi else (gap s i k).Lo := by
  have h := bd_at (s := s) (f := gapL s.Values.length i k) (lv := lv) (sh := sh) (b := b) (fun j hj h0 => by
    rw [gapL, gt_map hj] at h0 ⊢
    by_cases e1 : j = i
    · subst e1
      rw [if_pos rfl, if_neg hik, h1]
      cases b <;> simp [endS]
    · by_cases e2 : j = k
      · subst e2
        rw [if_neg e1, if_pos rfl, h2]
        cases b <;> simp [endS]
      · rw [if_neg e1, if_neg e2] at h0; exact absurd rfl h0) (fun j hj h0 => by
    rw [gap_sumX hi hk] at h0 ⊢
    by_cases e1 : (gt s.Shifts j).Time ≤ (gt s.Values i).Time
    · by_cases e2 : (gt s.Shifts j).Time ≤ (gt s.Values k).Time
      · rw [if_pos e1, if_pos e2] at h0; exact absurd rfl h0
      · rw [if_pos e1, if_neg e2, h3 j hj e1 e2]
        cases b <;> simp [endS]
    · by_cases e2 : (gt s.Shifts j).Time ≤ (gt s.Values k).Time
      · rw [if_neg e1, if_pos e2, h4 j hj e1 e2]
        cases b <;> simp [endS]
      · rw [if_neg e1, if_neg e2] at h0; exact absurd rfl h0)
  rw [gap_lin hi hk] at h
  rw [h]
  cases b <;> rfl
/-- adjusted levels are small -/
theorem even_bd {s : Ser} (h : Ok s) {lv sh : List Int} (ha : agreeP s lv sh) {i : Nat} (hi : i < s.Values.length) : -800000 ≤ evenAt s lv sh i ∧ evenAt s lv sh i ≤ 800000 := by
  have h1 := ha.2.1 i hi
  have h2 := h.vl hi
  have h3 := offN_bd (xs := s.Shifts) (sh := sh) (t := (gt s.Values i).Time) (n := s.Shifts.length) (fun j hj => by have := ha.2.2 j hj; have := h.xl hj; omega)
  have h4 := h.nX
  unfold evenAt
  omega
theorem evenR_ok {s : Ser} {lv sh : List Int} (h : (evenR s lv sh).2 = 0) : Ok s ∧ agreeP s lv sh ∧ evenR s lv sh = (evenL s lv sh, 0) := by
  unfold evenR at h ⊢
  by_cases hk : keepsE s lv sh ≠ 0
  · rw [if_pos hk] at h; exact absurd h hk
  · have hz : keepsE s lv sh = 0 := by omega
    exact ⟨(keepsE_zero hz).1, (keepsE_zero hz).2, if_neg hk⟩
theorem evenL_bd {s : Ser} (h : Ok s) {lv sh : List Int} (ha : agreeP s lv sh) : ∀ i, i < (evenL s lv sh).length → -1000000 ≤ gt (evenL s lv sh) i ∧ gt (evenL s lv sh) i ≤ 1000000 := fun i hi => by
  rw [evenL_len] at hi
  rw [evenL_at hi]
  have := even_bd h ha hi
  omega
end Go.Proofs.C8
