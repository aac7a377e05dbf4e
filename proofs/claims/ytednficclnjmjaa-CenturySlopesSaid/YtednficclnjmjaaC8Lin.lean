/- Century: sums of adjusted levels lie within their bounds, and reach them; in plain Lean. -/
import Derived.Test.YtednficclnjmjaaC8Law
namespace Go.Proofs.C8
open Go Go.Kx

/-- a sum of adjusted levels is a sum of levels and of shifts -/
theorem lin_eq (s : Ser) (f lv sh : List Int) : sumN (fun i => gt f i * evenAt s lv sh i) s.Values.length = totN f lv s.Values.length + totN (sumXL s f) sh s.Shifts.length := by
  have h1 : sumN (fun i => gt f i * evenAt s lv sh i) s.Values.length = sumN (fun i => gt f i * gt lv i - sumN (fun k => if (gt s.Shifts k).Time ≤ (gt s.Values i).Time then gt f i * gt sh k else 0) s.Shifts.length) s.Values.length :=
    sumN_congr fun i _ => by
      unfold evenAt offN
      rw [Int.mul_sub, ← sumN_mul]
      congr 1
      exact sumN_congr fun k _ => by split <;> simp
  rw [h1, sumN_sub, sumN_swap]
  have h2 : totN (sumXL s f) sh s.Shifts.length = - sumN (fun k => sumN (fun i => if (gt s.Shifts k).Time ≤ (gt s.Values i).Time then gt f i * gt sh k else 0) s.Values.length) s.Shifts.length := by
    unfold totN
    rw [← sumN_neg]
    exact sumN_congr fun k hk => by
      rw [sumXL, gt_map hk]
      unfold sumX
      rw [Int.neg_mul, Int.mul_comm, ← sumN_mul]
      congr 1
      exact sumN_congr fun i _ => by split <;> simp [Int.mul_comm]
  rw [h2]
  unfold totN
  omega
/-- adjusted levels are small -/
theorem even_bd {s : Ser} (h : Ok s) {lv sh : List Int} (ha : agreeP s lv sh) {i : Nat} (hi : i < s.Values.length) : -800000 ≤ evenAt s lv sh i ∧ evenAt s lv sh i ≤ 800000 := by
  have h1 := ha.2.1 i hi
  have h2 := h.vl hi
  have h3 := offN_bd (xs := s.Shifts) (sh := sh) (t := (gt s.Values i).Time) (n := s.Shifts.length) (fun j hj => by have := ha.2.2 j hj; have := h.xl hj; omega)
  have h4 := h.nX
  unfold evenAt
  omega
theorem evenR_agree {s : Ser} {lv sh : List Int} (h : Ok s) (ha : agreeP s lv sh) : evenR s lv sh = (evenL s lv sh, 0) := by
  have hk : keepsE s lv sh = 0 := by unfold keepsE; rw [if_neg (fun hn => hn h.e), if_pos ha]
  rw [evenR, if_neg (fun hn => hn hk)]
theorem evenL_bd {s : Ser} (h : Ok s) {lv sh : List Int} (ha : agreeP s lv sh) : ∀ i, i < (evenL s lv sh).length → -1000000 ≤ gt (evenL s lv sh) i ∧ gt (evenL s lv sh) i ≤ 1000000 := fun i hi => by
  rw [evenL_len] at hi
  rw [evenL_at hi]
  have := even_bd h ha hi
  omega
end Go.Proofs.C8
