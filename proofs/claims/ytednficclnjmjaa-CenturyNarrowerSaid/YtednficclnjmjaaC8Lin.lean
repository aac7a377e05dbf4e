/- Century: sums of adjusted levels lie within their bounds, and reach them; in plain Lean. -/
import Derived.Test.YtednficclnjmjaaC8Law
namespace Go.Proofs.C8
open Go Go.Kx

/-- a sum of adjusted levels is a sum of levels and of shifts -/
theorem lin_eq (s : Ser) (f lv sh : List Int) : sumN (fun i => gt f i * evenAt s lv sh i) s.Values.length = totN f lv s.Values.length + totN (sumXL s f) sh s.Shifts.length := by
  have h1 : sumN (fun i => gt f i * evenAt s lv sh i) s.Values.length = sumN (fun i => gt f i * gt lv i - sumN (fun k => if (gt s.Shifts k).Time ≤ (gt s.Values i).Time then gt f i * gt sh k else 0) s.Shifts.length) s.Values.length :=
    sumN_congr fun i _ => by
      unfold evenAt offN
      rw [Int.mul_sub, ← sumN_mul]
      congr 1
      exact sumN_congr fun k _ => by split <;> simp
  rw [h1, sumN_sub, sumN_swap]
  have h2 : totN (sumXL s f) sh s.Shifts.length = - sumN (fun k => sumN (fun i => if (gt s.Shifts k).Time ≤ (gt s.Values i).Time then gt f i * gt sh k else 0) s.Values.length) s.Shifts.length := by
    unfold totN
    rw [← sumN_neg]
    exact sumN_congr fun k hk => by
      rw [sumXL, gt_map hk]
      unfold sumX
      rw [Int.neg_mul, Int.mul_comm, ← sumN_mul]
      congr 1
      exact sumN_congr fun i _ => by split <;> simp [Int.mul_comm]
  rw [h2]
  unfold totN
  omega
theorem end_lo {x : Span} {f p : Int} (h : x.Lo ≤ p ∧ p ≤ x.Hi) : f * endS x f false ≤ f * p := by
  unfold endS
  by_cases hf : 0 < f
  · rw [if_neg (by simp [hf])]
    exact Int.mul_le_mul_of_nonneg_left h.1 (by omega)
  · rw [if_pos (by simp [hf])]
    exact Int.mul_le_mul_of_nonpos_left (by omega) h.2
theorem end_hi {x : Span} {f p : Int} (h : x.Lo ≤ p ∧ p ≤ x.Hi) : f * p ≤ f * endS x f true := by
  unfold endS
  by_cases hf : 0 < f
  · rw [if_pos (by simp [hf])]
    exact Int.mul_le_mul_of_nonneg_left h.2 (by omega)
  · rw [if_neg (by simp [hf])]
    exact Int.mul_le_mul_of_nonpos_left (by omega) h.1
theorem bd_in {s : Ser} {lv sh : List Int} (h : agreeP s lv sh) (f : List Int) :
    (bd s f).Lo ≤ sumN (fun i => gt f i * evenAt s lv sh i) s.Values.length ∧ sumN (fun i => gt f i * evenAt s lv sh i) s.Values.length ≤ (bd s f).Hi := by
  rw [lin_eq]
  have a1 : totN f (endV s f false) s.Values.length ≤ totN f lv s.Values.length := sumN_le fun i hi => by rw [endV, gt_map hi]; exact end_lo (h.2.1 i hi)
  have a2 : totN f lv s.Values.length ≤ totN f (endV s f true) s.Values.length := sumN_le fun i hi => by rw [endV, gt_map hi]; exact end_hi (h.2.1 i hi)
  have b1 : totN (sumXL s f) (endX s (sumXL s f) false) s.Shifts.length ≤ totN (sumXL s f) sh s.Shifts.length := sumN_le fun i hi => by rw [endX, gt_map hi]; exact end_lo (h.2.2 i hi)
  have b2 : totN (sumXL s f) sh s.Shifts.length ≤ totN (sumXL s f) (endX s (sumXL s f) true) s.Shifts.length := sumN_le fun i hi => by rw [endX, gt_map hi]; exact end_hi (h.2.2 i hi)
  unfold bd bdS totS
  dsimp only
  omega
theorem sumN_one {g : Nat → Int} {n i : Nat} (hi : i < n) : sumN (fun j => if j = i then g j else 0) n = g i := by
  induction n with
  | zero => omega
  | succ n ih =>
    simp only [sumN]
    by_cases h : n = i
    · subst h
      rw [if_pos rfl, sumN_congr (g := fun _ => 0) (fun j hj => by rw [if_neg (by omega)]), sumN_zero]; omega
    · rw [if_neg h, ih (by omega)]; omega
theorem gap_lin {n i k : Nat} (hi : i < n) (hk : k < n) (g : Nat → Int) : sumN (fun j => gt (gapL n i k) j * g j) n = g i - g k := by
  rw [sumN_congr (g := fun j => (if j = i then g j else 0) - (if j = k then g j else 0)) (fun j hj => by
    rw [gapL, gt_map hj, Int.sub_mul]; congr 1 <;> (split <;> simp)), sumN_sub, sumN_one hi, sumN_one hk]
theorem gap_in {s : Ser} {lv sh : List Int} (h : agreeP s lv sh) {i k : Nat} (hi : i < s.Values.length) (hk : k < s.Values.length) :
    (gap s i k).Lo ≤ evenAt s lv sh i - evenAt s lv sh k ∧ evenAt s lv sh i - evenAt s lv sh k ≤ (gap s i k).Hi := by
  have := bd_in h (gapL s.Values.length i k)
  rw [gap_lin hi hk] at this
  exact this
end Go.Proofs.C8
