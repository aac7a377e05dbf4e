/- Century: whatever really was lies within what is told; in plain Lean. -/
import Derived.Test.YtednficclnjmjaaC8LExt
import Derived.Test.YtednficclnjmjaaC8Less
namespace Go.Proofs.C8
open Go Go.Kx

/-! ### fractions in lowest terms -/
theorem low_mul {a d : Int} (hd : 0 < d) : 0 < (Int.gcd a d : Int) ∧ (lowR a d).Num * (Int.gcd a d : Int) = a ∧ (lowR a d).Den * (Int.gcd a d : Int) = d ∧ 0 < (lowR a d).Den := by
  have hg : 0 < (Int.gcd a d : Int) := by
    have : Int.gcd a d ≠ 0 := fun h => by rw [Int.gcd_eq_zero_iff] at h; omega
    omega
  have h1 : (lowR a d).Num * (Int.gcd a d : Int) = a := Int.tdiv_mul_cancel (Int.gcd_dvd_left ..)
  have h2 : (lowR a d).Den * (Int.gcd a d : Int) = d := Int.tdiv_mul_cancel (Int.gcd_dvd_right ..)
  refine ⟨hg, h1, h2, ?_⟩
  apply Classical.byContradiction
  intro hn
  have : (lowR a d).Den * (Int.gcd a d : Int) ≤ 0 * (Int.gcd a d : Int) := Int.mul_le_mul_of_nonneg_right (by omega) (by omega)
  omega
theorem low_bd {a d M : Int} (hd : 0 < d) (hdM : d ≤ M) (ha : -M ≤ a ∧ a ≤ M) : (0 < (lowR a d).Den ∧ (lowR a d).Den ≤ M) ∧ (-M ≤ (lowR a d).Num ∧ (lowR a d).Num ≤ M) := by
  have h := low_mul (a := a) hd
  have h1 : -M ≤ d ∧ d ≤ M := by omega
  exact ⟨⟨h.2.2.2, (tdiv_bd h1).2⟩, tdiv_bd ha⟩
/-- a fraction against one in lowest terms, of the same denominator -/
theorem less_low {m : Ratio} {a d : Int} (hd : 0 < d) (hm : m.Den = d) : (lessP m (lowR a d) ↔ m.Num < a) ∧ (lessP (lowR a d) m ↔ a < m.Num) := by
  obtain ⟨hg, h1, h2, h3⟩ := low_mul (a := a) hd
  unfold lessP
  rw [hm]
  generalize (Int.gcd a d : Int) = g at *
  generalize (lowR a d).Num = p at *
  generalize (lowR a d).Den = q at *
  -- m q < p d  iff  m q g < p g q  iff m < a
  have e1 : p * d = a * q := by rw [← h1, ← h2, Int.mul_assoc, Int.mul_comm g]
  rw [e1]
  constructor
  · constructor
    · intro h; exact Int.lt_of_mul_lt_mul_right h (by omega)
    · intro h; exact Int.mul_lt_mul_of_pos_right h h3
  · constructor
    · intro h; exact Int.lt_of_mul_lt_mul_right h (by omega)
    · intro h; exact Int.mul_lt_mul_of_pos_right h h3
theorem less_lows {p a d : Int} (hd : 0 < d) : (lessP (lowR p d) (lowR a d) ↔ p < a) := by
  have h := low_mul (a := p) hd
  have key : lessP (lowR p d) (lowR a d) ↔ lessP ⟨p, d⟩ (lowR a d) := by
    unfold lessP
    dsimp only
    have e : p * (lowR a d).Den = (lowR p d).Num * (lowR a d).Den * (Int.gcd p d : Int) := by
      conv => lhs; rw [← h.2.1]
      rw [Int.mul_right_comm]
    have e2 : (lowR a d).Num * d = (lowR a d).Num * (lowR p d).Den * (Int.gcd p d : Int) := by
      rw [Int.mul_assoc, h.2.2.1]
    rw [e, e2]
    exact ⟨fun hl => Int.mul_lt_mul_of_pos_right hl h.1, fun hl => Int.lt_of_mul_lt_mul_right hl (by omega)⟩
  rw [key]
  exact (less_low (m := ⟨p, d⟩) hd rfl).1
/-! ### means -/
theorem mbR_zero {s : Ser} {x : Span} (h : (mbR s x).2.2 = 0) : Ok s ∧ spOk x 0 10000 ∧ 0 < wtC s x ∧ mbR s x = (lowR (bd s (wtL s x 1)).Lo (wtC s x), lowR (bd s (wtL s x 1)).Hi (wtC s x), 0) := by
  by_cases h1 : chkE s ≠ 0
  · rw [mbR_err h1] at h; exact absurd h h1
  · by_cases h2 : spOk x 0 10000
    · by_cases h3 : (wtC s x : Int) = 0
      · rw [mbR_none (by omega) h2 h3] at h; cases h
      · exact ⟨Ok.of (by omega), h2, by omega, mbR_ok (by omega) h2 h3⟩
    · rw [mbR_arg (by omega) h2] at h; cases h
def LBd (r : Ratio) : Prop := (0 < r.Den ∧ r.Den ≤ 4000000000000000000) ∧ (-4000000000000000000 ≤ r.Num ∧ r.Num ≤ 4000000000000000000)
/-! ### changes -/
/-! ### slopes -/
end Go.Proofs.C8
