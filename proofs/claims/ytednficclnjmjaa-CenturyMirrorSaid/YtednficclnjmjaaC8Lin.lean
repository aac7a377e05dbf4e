/- Century: sums of adjusted levels lie within their bounds, and reach them; in plain Lean. -/
import Derived.Test.YtednficclnjmjaaC8Law
namespace Go.Proofs.C8
open Go Go.Kx

theorem sumN_one {g : Nat → Int} {n i : Nat} (hi : i < n) : sumN (fun j => if j = i then g j else 0) n = g i := by
  induction n with
  | zero => omega
  | succ n ih =>
    simp only [sumN]
    by_cases h : n = i
    · subst h
      rw [if_pos rfl, sumN_congr (g := fun _ => 0) (fun j hj => by rw [if_neg (by omega)]), sumN_zero]; omega
    · rw [if_neg h, ih (by omega)]; omega
theorem gap_lin {n i k : Nat} (hi : i < n) (hk : k < n) (g : Nat → Int) : sumN (fun j => gt (gapL n i k) j * g j) n = g i - g k := by
  rw [sumN_congr (g := fun j => (if j = i then g j else 0) - (if j = k then g j else 0)) (fun j hj => by
    rw [gapL, gt_map hj, Int.sub_mul]; congr 1 <;> (split <;> simp)), sumN_sub, sumN_one hi, sumN_one hk]
end Go.Proofs.C8
