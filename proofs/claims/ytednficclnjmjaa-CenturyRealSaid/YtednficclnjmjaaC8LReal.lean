/- Century: whatever really was lies within what is told; in plain Lean. -/
import Derived.Test.YtednficclnjmjaaC8LExt
import Derived.Test.YtednficclnjmjaaC8Less
namespace Go.Proofs.C8
open Go Go.Kx

/-! ### fractions in lowest terms -/
theorem low_mul {a d : Int} (hd : 0 < d) : 0 < (Int.gcd a d : Int) ∧ (lowR a d).Num * (Int.gcd a d : Int) = a ∧ (lowR a d).Den * (Int.gcd a d : Int) = d ∧ 0 < (lowR a d).Den := by
  have hg : 0 < (Int.gcd a d : Int) := by
    have : Int.gcd a d ≠ 0 := fun h => by rw [Int.gcd_eq_zero_iff] at h; omega
    omega
  have h1 : (lowR a d).Num * (Int.gcd a d : Int) = a := Int.tdiv_mul_cancel (Int.gcd_dvd_left ..)
  have h2 : (lowR a d).Den * (Int.gcd a d : Int) = d := Int.tdiv_mul_cancel (Int.gcd_dvd_right ..)
  refine ⟨hg, h1, h2, ?_⟩
  apply Classical.byContradiction
  intro hn
  have : (lowR a d).Den * (Int.gcd a d : Int) ≤ 0 * (Int.gcd a d : Int) := Int.mul_le_mul_of_nonneg_right (by omega) (by omega)
  omega
theorem low_bd {a d M : Int} (hd : 0 < d) (hdM : d ≤ M) (ha : -M ≤ a ∧ a ≤ M) : (0 < (lowR a d).Den ∧ (lowR a d).Den ≤ M) ∧ (-M ≤ (lowR a d).Num ∧ (lowR a d).Num ≤ M) := by
  have h := low_mul (a := a) hd
  have h1 : -M ≤ d ∧ d ≤ M := by omega
  exact ⟨⟨h.2.2.2, (tdiv_bd h1).2⟩, tdiv_bd ha⟩
/-- a fraction against one in lowest terms, of the same denominator -/
theorem less_low {m : Ratio} {a d : Int} (hd : 0 < d) (hm : m.Den = d) : (lessP m (lowR a d) ↔ m.Num < a) ∧ (lessP (lowR a d) m ↔ a < m.Num) := by
  obtain ⟨hg, h1, h2, h3⟩ := low_mul (a := a) hd
  unfold lessP
  rw [hm]
  generalize (Int.gcd a d : Int) = g at *
  generalize (lowR a d).Num = p at *
  generalize (lowR a d).Den = q at *
  -- m q < p d  iff  m q g < p g q  iff m < a
  have e1 : p * d = a * q := by rw [← h1, ← h2, Int.mul_assoc, Int.mul_comm g]
  rw [e1]
  constructor
  · constructor
    · intro h; exact Int.lt_of_mul_lt_mul_right h (by omega)
    · intro h; exact Int.mul_lt_mul_of_pos_right h h3
  · constructor
    · intro h; exact Int.lt_of_mul_lt_mul_right h (by omega)
    · intro h; exact Int.mul_lt_mul_of_pos_right h h3
theorem less_lows {p a d : Int} (hd : 0 < d) : (lessP (lowR p d) (lowR a d) ↔ p < a) := by
  have h := low_mul (a := p) hd
  have key : lessP (lowR p d) (lowR a d) ↔ lessP ⟨p, d⟩ (lowR a d) := by
    unfold lessP
    dsimp only
    have e : p * (lowR a d).Den = (lowR p d).Num * (lowR a d).Den * (Int.gcd p d : Int) := by
      conv => lhs; rw [← h.2.1]
      rw [Int.mul_right_comm]
    have e2 : (lowR a d).Num * d = (lowR a d).Num * (lowR p d).Den * (Int.gcd p d : Int) := by
      rw [Int.mul_assoc, h.2.2.1]
    rw [e, e2]
    exact ⟨fun hl => Int.mul_lt_mul_of_pos_right hl h.1, fun hl => Int.lt_of_mul_lt_mul_right hl (by omega)⟩
  rw [key]
  exact (less_low (m := ⟨p, d⟩) hd rfl).1
theorem low_sign {p d : Int} (hd : 0 < d) : ((0 < p ↔ 0 < (lowR p d).Num) ∧ (p < 0 ↔ (lowR p d).Num < 0)) := by
  obtain ⟨hg, h1, _, _⟩ := low_mul (a := p) hd
  generalize (lowR p d).Num = q at *
  generalize (Int.gcd p d : Int) = g at *
  subst h1
  constructor
  · constructor
    · intro h; exact Int.lt_of_mul_lt_mul_right (a := g) (by rw [Int.zero_mul]; exact h) (by omega)
    · intro h; exact Int.mul_pos h hg
  · constructor
    · intro h; exact Int.lt_of_mul_lt_mul_right (a := g) (by rw [Int.zero_mul]; exact h) (by omega)
    · intro h; exact Int.mul_neg_of_neg_of_pos h hg

/-! ### means -/
theorem wt_sum {s : Ser} {x : Span} {c : Int} (e : Nat → Int) : sumN (fun i => gt (wtL s x c) i * e i) s.Values.length = c * sumN (fun i => if inT x (gt s.Values i).Time then e i else 0) s.Values.length := by
  rw [← sumN_mul]
  exact sumN_congr fun i hi => by rw [wtL, gt_map hi]; split <;> simp
theorem mnN_even {s : Ser} {lv sh : List Int} {x : Span} : mnN s (evenL s lv sh) x s.Values.length = sumN (fun i => if inT x (gt s.Values i).Time then evenAt s lv sh i else 0) s.Values.length := by
  unfold mnN
  exact sumN_congr fun i hi => by rw [evenL_at hi]
theorem mean_val {s : Ser} {lv sh : List Int} {x : Span} : (meanR s (evenL s lv sh) x).1 = ⟨sumN (fun i => if inT x (gt s.Values i).Time then evenAt s lv sh i else 0) s.Values.length, (wtC s x : Int)⟩ := by
  unfold meanR
  rw [mnC_len (evenL_len _ _ _), mnN_even, mnD_eq]
  rfl
theorem mbR_zero {s : Ser} {x : Span} (h : (mbR s x).2.2 = 0) : Ok s ∧ spOk x 0 10000 ∧ 0 < wtC s x ∧ mbR s x = (lowR (bd s (wtL s x 1)).Lo (wtC s x), lowR (bd s (wtL s x 1)).Hi (wtC s x), 0) := by
  by_cases h1 : chkE s ≠ 0
  · rw [mbR_err h1] at h; exact absurd h h1
  · by_cases h2 : spOk x 0 10000
    · by_cases h3 : (wtC s x : Int) = 0
      · rw [mbR_none (by omega) h2 h3] at h; cases h
      · exact ⟨Ok.of (by omega), h2, by omega, mbR_ok (by omega) h2 h3⟩
    · rw [mbR_arg (by omega) h2] at h; cases h
def LBd (r : Ratio) : Prop := (0 < r.Den ∧ r.Den ≤ 4000000000000000000) ∧ (-4000000000000000000 ≤ r.Num ∧ r.Num ≤ 4000000000000000000)
theorem mean_small {s : Ser} (h : Ok s) {lv sh : List Int} (ha : agreeP s lv sh) {x : Span} (h0 : 0 < wtC s x) : LBd (meanR s (evenL s lv sh) x).1 := by
  rw [mean_val]
  have h1 := wtC_le s x
  have h2 := h.nV
  have h3 := sumN_bd (f := fun i => if inT x (gt s.Values i).Time then evenAt s lv sh i else 0) (n := s.Values.length) (lo := -800000) (hi := 800000) (fun i hi => by have := even_bd h ha hi; split <;> omega)
  unfold LBd
  dsimp only
  omega
theorem mean_real {s : Ser} {lv sh : List Int} (ha : agreeP s lv sh) {x : Span} (h0 : (mbR s x).2.2 = 0) : LBd (meanR s (evenL s lv sh) x).1 ∧ LBd (mbR s x).1 ∧ LBd (mbR s x).2.1 ∧ ¬ lessP (meanR s (evenL s lv sh) x).1 (mbR s x).1 ∧ ¬ lessP (mbR s x).2.1 (meanR s (evenL s lv sh) x).1 := by
  obtain ⟨h, hsp, hw, he⟩ := mbR_zero h0
  have hb := bd_in ha (wtL s x 1)
  rw [wt_sum, Int.one_mul] at hb
  have hbb := bd_bd h (wt_fac (s := s) (x := x) (c := 1) (by omega))
  have hwl := wtC_le s x
  have hn := h.nV
  refine ⟨mean_small h ha hw, ?_, ?_, ?_, ?_⟩
  · rw [he]; exact low_bd (by omega) (by omega) hbb.1
  · rw [he]; exact low_bd (by omega) (by omega) hbb.2
  · rw [he, mean_val]
    have := (less_low (m := ⟨sumN (fun i => if inT x (gt s.Values i).Time then evenAt s lv sh i else 0) s.Values.length, (wtC s x : Int)⟩) (a := (bd s (wtL s x 1)).Lo) (d := (wtC s x : Int)) (by omega) rfl).1
    rw [this]
    dsimp only; omega
  · rw [he, mean_val]
    have := (less_low (m := ⟨sumN (fun i => if inT x (gt s.Values i).Time then evenAt s lv sh i else 0) s.Values.length, (wtC s x : Int)⟩) (a := (bd s (wtL s x 1)).Hi) (d := (wtC s x : Int)) (by omega) rfl).2
    rw [this]
    dsimp only; omega
/-! ### changes -/
theorem chgR_zero {s : Ser} {a b : Span} (h : (chgR s a b).2 = 0) : Ok s ∧ 0 < wtC s a ∧ 0 < wtC s b ∧ (chgR s a b).1 = sureS (bd s (chgL s a b)) := by
  by_cases h1 : chkE s ≠ 0
  · rw [chgR_err h1] at h; exact absurd h h1
  · by_cases h2 : spOk a 0 10000 ∧ spOk b 0 10000
    · by_cases h3 : (wtC s a : Int) = 0 ∨ (wtC s b : Int) = 0
      · rw [chgR_none (by omega) h2 h3] at h; cases h
      · exact ⟨Ok.of (by omega), by omega, by omega, by rw [chgR_ok (by omega) h2 h3]⟩
    · rw [chgR_arg (by omega) h2] at h; cases h
theorem chg_sum {s : Ser} {a b : Span} (e : Nat → Int) : sumN (fun i => gt (chgL s a b) i * e i) s.Values.length =
    (wtC s a : Int) * sumN (fun i => if inT b (gt s.Values i).Time then e i else 0) s.Values.length - (wtC s b : Int) * sumN (fun i => if inT a (gt s.Values i).Time then e i else 0) s.Values.length := by
  rw [← wt_sum, ← wt_sum, ← sumN_sub]
  exact sumN_congr fun i hi => by rw [chgL, subL, gt_map (by rw [wtL_len]; exact hi), Int.sub_mul]
theorem sure_pos {b : Span} {v : Int} (h : b.Lo ≤ v ∧ v ≤ b.Hi) : (sureS b = 1 → 0 < v) ∧ (sureS b = -1 → v < 0) := by
  unfold sureS
  constructor <;> intro hs <;> (split at hs; · omega) <;> (split at hs <;> omega)
theorem chg_real {s : Ser} {lv sh : List Int} (ha : agreeP s lv sh) {a b : Span} (h0 : (chgR s a b).2 = 0) : LBd (meanR s (evenL s lv sh) a).1 ∧ LBd (meanR s (evenL s lv sh) b).1 ∧ ((chgR s a b).1 = 1 → lessP (meanR s (evenL s lv sh) a).1 (meanR s (evenL s lv sh) b).1) ∧ ((chgR s a b).1 = -1 → lessP (meanR s (evenL s lv sh) b).1 (meanR s (evenL s lv sh) a).1) := by
  obtain ⟨h, hwa, hwb, he⟩ := chgR_zero h0
  have hb := bd_in ha (chgL s a b)
  rw [chg_sum] at hb
  have hs := sure_pos hb
  refine ⟨mean_small h ha hwa, mean_small h ha hwb, fun h1 => ?_, fun h1 => ?_⟩
  · rw [he] at h1
    have := hs.1 h1
    rw [mean_val, mean_val]
    unfold lessP
    dsimp only
    rw [Int.mul_comm, Int.mul_comm (sumN _ _) (wtC s a : Int)]
    omega
  · rw [he] at h1
    have := hs.2 h1
    rw [mean_val, mean_val]
    unfold lessP
    dsimp only
    rw [Int.mul_comm, Int.mul_comm (sumN _ _) (wtC s b : Int)]
    omega
/-! ### slopes -/
theorem slopeR_zero {s : Ser} (h : (slopeR s).2.2 = 0) : twoVE s = 0 ∧ slopeR s = (lowR (bd s (momL s)).Lo (momD s), lowR (bd s (momL s)).Hi (momD s), 0) := by
  by_cases h2 : twoVE s ≠ 0
  · unfold slopeR at h; rw [if_pos h2] at h; exact absurd h h2
  · have hz : twoVE s = 0 := by omega
    refine ⟨hz, ?_⟩
    rw [slopeR, if_neg h2, slpS_ok hz, slpD, if_neg h2]
    rfl
theorem exS_even {s : Ser} {lv sh : List Int} : exS s (evenL s lv sh) = sumN (fun i => gt (momL s) i * evenAt s lv sh i) s.Values.length := sumN_congr fun i hi => by rw [evenL_at hi]
theorem slope_real {s : Ser} {lv sh : List Int} (ha : agreeP s lv sh) (h0 : (slopeR s).2.2 = 0) : (Ok s ∧ 2 ≤ s.Values.length) ∧ LBd (exactR s (evenL s lv sh)) ∧ LBd (slopeR s).1 ∧ LBd (slopeR s).2.1 ∧ ¬ lessP (exactR s (evenL s lv sh)) (slopeR s).1 ∧ ¬ lessP (slopeR s).2.1 (exactR s (evenL s lv sh)) ∧
    ((trendR s).1 = 1 → 0 < (exactR s (evenL s lv sh)).Num) ∧ ((trendR s).1 = -1 → (exactR s (evenL s lv sh)).Num < 0) := by
  obtain ⟨h2, he⟩ := slopeR_zero h0
  have hk := twoVE_zero h2
  have h := hk.1
  have hd := momD_pos h hk.2
  have hdl := momD_le h
  have hb := bd_in ha (momL s)
  rw [← exS_even] at hb
  have hbb := bd_bd h (momL_fac h)
  have hx := exS_bd h (l := evenL s lv sh) (fun i hi => evenL_bd h ha i (by rw [evenL_len]; exact hi)) (Nat.le_refl _)
  have hsg := low_sign (p := exS s (evenL s lv sh)) hd
  have hs := sure_pos hb
  have ht : (trendR s).1 = sureS (bd s (momL s)) := by rw [trendR_ok h2, slpS_ok h2]; rfl
  refine ⟨hk, low_bd hd (by omega) (show -4000000000000000000 ≤ exS s (evenL s lv sh) ∧ exS s (evenL s lv sh) ≤ 4000000000000000000 by unfold exS; omega), ?_, ?_, ?_, ?_, fun h1 => ?_, fun h1 => ?_⟩
  · rw [he]; exact low_bd hd (by omega) hbb.1
  · rw [he]; exact low_bd hd (by omega) hbb.2
  · rw [he, exactR, less_lows hd]; omega
  · rw [he, exactR, less_lows hd]; omega
  · rw [ht] at h1; exact hsg.1.1 (hs.1 h1)
  · rw [ht] at h1; exact hsg.2.1 (hs.2 h1)
theorem trend_err (s : Ser) : (trendR s).2 = (slopeR s).2.2 := by
  unfold trendR slopeR
  split <;> rfl
end Go.Proofs.C8
