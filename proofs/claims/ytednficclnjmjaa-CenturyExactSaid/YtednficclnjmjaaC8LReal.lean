/- Century: whatever really was lies within what is told; in plain Lean. -/
import Derived.Test.YtednficclnjmjaaC8LExt
import Derived.Test.YtednficclnjmjaaC8Less
namespace Go.Proofs.C8
open Go Go.Kx

/-! ### fractions in lowest terms -/
theorem low_mul {a d : Int} (hd : 0 < d) : 0 < (Int.gcd a d : Int) ∧ (lowR a d).Num * (Int.gcd a d : Int) = a ∧ (lowR a d).Den * (Int.gcd a d : Int) = d ∧ 0 < (lowR a d).Den := by
  have hg : 0 < (Int.gcd a d : Int) := by
    have : Int.gcd a d ≠ 0 := fun h => by rw [Int.gcd_eq_zero_iff] at h; omega
    omega
  have h1 : (lowR a d).Num * (Int.gcd a d : Int) = a := Int.tdiv_mul_cancel (Int.gcd_dvd_left ..)
  have h2 : (lowR a d).Den * (Int.gcd a d : Int) = d := Int.tdiv_mul_cancel (Int.gcd_dvd_right ..)
  refine ⟨hg, h1, h2, ?_⟩
  apply Classical.byContradiction
  intro hn
  have : (lowR a d).Den * (Int.gcd a d : Int) ≤ 0 * (Int.gcd a d : Int) := Int.mul_le_mul_of_nonneg_right (by omega) (by omega)
  omega
theorem low_bd {a d M : Int} (hd : 0 < d) (hdM : d ≤ M) (ha : -M ≤ a ∧ a ≤ M) : (0 < (lowR a d).Den ∧ (lowR a d).Den ≤ M) ∧ (-M ≤ (lowR a d).Num ∧ (lowR a d).Num ≤ M) := by
  have h := low_mul (a := a) hd
  have h1 : -M ≤ d ∧ d ≤ M := by omega
  exact ⟨⟨h.2.2.2, (tdiv_bd h1).2⟩, tdiv_bd ha⟩
/-- a fraction against one in lowest terms, of the same denominator -/
theorem less_low {m : Ratio} {a d : Int} (hd : 0 < d) (hm : m.Den = d) : (lessP m (lowR a d) ↔ m.Num < a) ∧ (lessP (lowR a d) m ↔ a < m.Num) := by
  obtain ⟨hg, h1, h2, h3⟩ := low_mul (a := a) hd
  unfold lessP
  rw [hm]
  generalize (Int.gcd a d : Int) = g at *
  generalize (lowR a d).Num = p at *
  generalize (lowR a d).Den = q at *
  -- m q < p d  iff  m q g < p g q  iff m < a
  have e1 : p * d = a * q := by rw [← h1, ← h2, Int.mul_assoc, Int.mul_comm g]
  rw [e1]
  constructor
  · constructor
    · intro h; exact Int.lt_of_mul_lt_mul_right h (by omega)
    · intro h; exact Int.mul_lt_mul_of_pos_right h h3
  · constructor
    · intro h; exact Int.lt_of_mul_lt_mul_right h (by omega)
    · intro h; exact Int.mul_lt_mul_of_pos_right h h3
theorem low_sign {p d : Int} (hd : 0 < d) : ((0 < p ↔ 0 < (lowR p d).Num) ∧ (p < 0 ↔ (lowR p d).Num < 0)) := by
  obtain ⟨hg, h1, _, _⟩ := low_mul (a := p) hd
  generalize (lowR p d).Num = q at *
  generalize (Int.gcd p d : Int) = g at *
  subst h1
  constructor
  · constructor
    · intro h; exact Int.lt_of_mul_lt_mul_right (a := g) (by rw [Int.zero_mul]; exact h) (by omega)
    · intro h; exact Int.mul_pos h hg
  · constructor
    · intro h; exact Int.lt_of_mul_lt_mul_right (a := g) (by rw [Int.zero_mul]; exact h) (by omega)
    · intro h; exact Int.mul_neg_of_neg_of_pos h hg

/-! ### means -/
theorem wt_sum {s : Ser} {x : Span} {c : Int} (e : Nat → Int) : sumN (fun i => gt (wtL s x c) i * e i) s.Values.length = c * sumN (fun i => if inT x (gt s.Values i).Time then e i else 0) s.Values.length := by
  rw [← sumN_mul]
  exact sumN_congr fun i hi => by rw [wtL, gt_map hi]; split <;> simp
theorem mnN_even {s : Ser} {lv sh : List Int} {x : Span} : mnN s (evenL s lv sh) x s.Values.length = sumN (fun i => if inT x (gt s.Values i).Time then evenAt s lv sh i else 0) s.Values.length := by
  unfold mnN
  exact sumN_congr fun i hi => by rw [evenL_at hi]
theorem mean_val {s : Ser} {lv sh : List Int} {x : Span} : (meanR s (evenL s lv sh) x).1 = ⟨sumN (fun i => if inT x (gt s.Values i).Time then evenAt s lv sh i else 0) s.Values.length, (wtC s x : Int)⟩ := by
  unfold meanR
  rw [mnC_len (evenL_len _ _ _), mnN_even, mnD_eq]
  rfl
theorem mbR_zero {s : Ser} {x : Span} (h : (mbR s x).2.2 = 0) : Ok s ∧ spOk x 0 10000 ∧ 0 < wtC s x ∧ mbR s x = (lowR (bd s (wtL s x 1)).Lo (wtC s x), lowR (bd s (wtL s x 1)).Hi (wtC s x), 0) := by
  by_cases h1 : chkE s ≠ 0
  · rw [mbR_err h1] at h; exact absurd h h1
  · by_cases h2 : spOk x 0 10000
    · by_cases h3 : (wtC s x : Int) = 0
      · rw [mbR_none (by omega) h2 h3] at h; cases h
      · exact ⟨Ok.of (by omega), h2, by omega, mbR_ok (by omega) h2 h3⟩
    · rw [mbR_arg (by omega) h2] at h; cases h
def LBd (r : Ratio) : Prop := (0 < r.Den ∧ r.Den ≤ 4000000000000000000) ∧ (-4000000000000000000 ≤ r.Num ∧ r.Num ≤ 4000000000000000000)
theorem mean_small {s : Ser} (h : Ok s) {lv sh : List Int} (ha : agreeP s lv sh) {x : Span} (h0 : 0 < wtC s x) : LBd (meanR s (evenL s lv sh) x).1 := by
  rw [mean_val]
  have h1 := wtC_le s x
  have h2 := h.nV
  have h3 := sumN_bd (f := fun i => if inT x (gt s.Values i).Time then evenAt s lv sh i else 0) (n := s.Values.length) (lo := -800000) (hi := 800000) (fun i hi => by have := even_bd h ha hi; split <;> omega)
  unfold LBd
  dsimp only
  omega
/-! ### changes -/
/-! ### slopes -/
theorem slopeR_zero {s : Ser} (h : (slopeR s).2.2 = 0) : twoVE s = 0 ∧ slopeR s = (lowR (bd s (momL s)).Lo (momD s), lowR (bd s (momL s)).Hi (momD s), 0) := by
  by_cases h2 : twoVE s ≠ 0
  · unfold slopeR at h; rw [if_pos h2] at h; exact absurd h h2
  · have hz : twoVE s = 0 := by omega
    refine ⟨hz, ?_⟩
    rw [slopeR, if_neg h2, slpS_ok hz, slpD, if_neg h2]
    rfl
theorem exS_even {s : Ser} {lv sh : List Int} : exS s (evenL s lv sh) = sumN (fun i => gt (momL s) i * evenAt s lv sh i) s.Values.length := sumN_congr fun i hi => by rw [evenL_at hi]
theorem trend_err (s : Ser) : (trendR s).2 = (slopeR s).2.2 := by
  unfold trendR slopeR
  split <;> rfl
end Go.Proofs.C8
