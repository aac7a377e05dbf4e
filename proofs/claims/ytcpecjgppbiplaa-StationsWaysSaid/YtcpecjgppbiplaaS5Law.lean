/- Stations: what the first laws say, in plain Lean: no stations' code in sight. -/
import Derived.Test.YtcpecjgppbiplaaS5Awake
namespace Go.Proofs.S5
open Go Go.Kx

/-! ### levels at the sea -/
theorem seaR_zero {l h : Int} (hz : (seaR l h).2 = 0) : (0 ≤ l ∧ l ≤ 12000) ∧ (0 ≤ h ∧ h ≤ 4000) := by
  unfold seaR at hz; split at hz
  · assumption
  · cases hz
theorem seaR_val {l h : Int} (hz : (seaR l h).2 = 0) : (seaR l h).1 = seaS l h := by unfold seaR; rw [if_pos (seaR_zero hz)]
theorem landsR_back {l h : Int} (hl : 0 ≤ l ∧ l ≤ 12000) (hh : 0 ≤ h ∧ h ≤ 4000) : landsR (seaS l h) h = (⟨l, l⟩, 0) := by
  have h1 := seaS_ge hh.1 hl.1
  have h2 := sea_mul (l := l) (h := h) (by omega) hh
  have h3 : seaS l h ≤ 18000 := by
    have h4 := mul_bd hl.1 hl.2 hh.1 hh.2
    have h5 : l * h / 8000 ≤ 48000000 / 8000 := Int.ediv_le_ediv (by omega) (by omega)
    unfold seaS; omega
  have := landsR_yes (level := seaS l h) (h := h) (k := l.toNat) (by omega) hh (by omega) (fun i hi => by
    have := seaS_mono hh.1 (a := (i : Int)) (b := l) (by omega) (by omega)
    omega) (by rw [show ((l.toNat : Nat) : Int) = l by omega])
  rw [this, show ((l.toNat : Nat) : Int) = l by omega]
theorem seaR_up {l h : Int} (h0 : (seaR l h).2 = 0) (h1 : (seaR (l + 1) h).2 = 0) : seaS l h < (seaR (l + 1) h).1 := by
  have := seaR_zero h0
  rw [seaR_val h1]
  exact seaS_mono this.2.1 this.1.1 (by omega)
theorem seaS_high {l h h' : Int} (hl : 0 ≤ l) (hh : h ≤ h') : seaS l h ≤ seaS l h' := by
  unfold seaS
  have h1 : l * h ≤ l * h' := Int.mul_le_mul_of_nonneg_left hh hl
  have h2 : l * h / 8000 ≤ l * h' / 8000 := Int.ediv_le_ediv (by omega) h1
  omega
theorem seaR_high {l h : Int} (h0 : (seaR l h).2 = 0) (h1 : (seaR l (h + 1)).2 = 0) : seaS l h ≤ (seaR l (h + 1)).1 := by
  have := seaR_zero h0
  rw [seaR_val h1]
  exact seaS_high this.1.1 (by omega)
theorem seasR_zero {l : Int} {s : Span} (hz : (seasR l s).2 = 0) : (0 ≤ l ∧ l ≤ 12000) ∧ spanOk s := by
  unfold seasR at hz; split at hz
  · assumption
  · cases hz
theorem seasR_val {l : Int} {s : Span} (hz : (seasR l s).2 = 0) : (seasR l s).1 = seasS l s := by unfold seasR; rw [if_pos (seasR_zero hz)]
theorem seasR_more {l more : Int} {s : Span} (h0 : (seasR l s).2 = 0) (h1 : (seasR l ⟨s.Lo, more⟩).2 = 0) (hm : more ≤ s.Hi) :
    (seasR l ⟨s.Lo, more⟩).1.Lo = (seasR l s).1.Lo ∧ (seasR l ⟨s.Lo, more⟩).1.Hi ≤ (seasR l s).1.Hi := by
  rw [seasR_val h0, seasR_val h1]
  exact ⟨rfl, seaS_high (seasR_zero h0).1.1 hm⟩
theorem seasR_up {l more : Int} {s : Span} (h0 : (seasR l s).2 = 0) (h1 : (seasR more s).2 = 0) (hm : l < more) :
    (seasR l s).1.Lo < (seasR more s).1.Lo ∧ (seasR l s).1.Hi < (seasR more s).1.Hi := by
  have h2 := seasR_zero h0
  obtain ⟨⟨h3, _⟩, ⟨h4, h5⟩, _⟩ := h2
  rw [seasR_val h0, seasR_val h1]
  exact ⟨seaS_mono h4 h3 hm, seaS_mono (by omega) h3 hm⟩

/-! ### distances -/
theorem sq_nn (a : Int) : 0 ≤ a * a := by
  rcases Int.le_total 0 a with h | h
  · exact Int.mul_nonneg h h
  · exact Int.mul_nonneg_of_nonpos_of_nonpos h h
theorem lag (a b c d : Int) : (a * a + b * b) * (c * c + d * d) - (a * c + b * d) * (a * c + b * d) = (a * d - b * c) * (a * d - b * c) := by
  simp only [Int.mul_add, Int.mul_sub, Int.mul_comm, Int.mul_left_comm]
  omega
theorem dot_le {a b c d p q : Int} (hp : a * a + b * b ≤ p * p) (hq : c * c + d * d ≤ q * q) (h0 : 0 ≤ p) (h1 : 0 ≤ q) : a * c + b * d ≤ p * q := by
  have h2 := lag a b c d
  have h3 := sq_nn (a * d - b * c)
  have h4 : (a * a + b * b) * (c * c + d * d) ≤ (p * p) * (q * q) := Int.mul_le_mul hp hq (by have := sq_nn c; have := sq_nn d; omega) (sq_nn p)
  have h5 : (p * p) * (q * q) = (p * q) * (p * q) := by simp only [Int.mul_comm, Int.mul_left_comm]
  rcases Int.lt_or_le (p * q) (a * c + b * d) with h | h
  · have h6 : 0 ≤ p * q := Int.mul_nonneg h0 h1
    have h7 : (p * q) * (p * q) < (a * c + b * d) * (a * c + b * d) := Int.mul_self_lt_mul_self h6 h
    omega
  · exact h
theorem distS_spec {a b : Station} (ha : placedOk a) (hb : placedOk b) : 0 ≤ distS a b ∧ dist2 a b ≤ distS a b * distS a b ∧ (0 < distS a b → (distS a b - 1) * (distS a b - 1) < dist2 a b) := by
  have h0 := dist2_bd ha hb
  have h1 := sqUp_ge (dist2 a b).toNat
  refine ⟨by unfold distS; omega, ?_, fun hp => ?_⟩
  · have h2 : (((sqUp (dist2 a b).toNat) * (sqUp (dist2 a b).toNat) : Nat) : Int) = distS a b * distS a b := by unfold distS; exact Int.natCast_mul ..
    omega
  · have h3 : 0 < sqUp (dist2 a b).toNat := by unfold distS at hp; omega
    have h4 := sqUp_least (dist2 a b).toNat (sqUp (dist2 a b).toNat - 1) (by omega)
    have h5 : (((sqUp (dist2 a b).toNat - 1) * (sqUp (dist2 a b).toNat - 1) : Nat) : Int) = (distS a b - 1) * (distS a b - 1) := by
      have h6 : ((sqUp (dist2 a b).toNat - 1 : Nat) : Int) = distS a b - 1 := by unfold distS; omega
      rw [← h6]; exact Int.natCast_mul ..
    omega
theorem dist2_comm (a b : Station) : dist2 a b = dist2 b a := by
  unfold dist2
  have h1 : (a.X - b.X) * (a.X - b.X) = (b.X - a.X) * (b.X - a.X) := by rw [← Int.neg_mul_neg]; congr 1 <;> omega
  have h2 : (a.Y - b.Y) * (a.Y - b.Y) = (b.Y - a.Y) * (b.Y - a.Y) := by rw [← Int.neg_mul_neg]; congr 1 <;> omega
  rw [h1, h2]
theorem distS_comm (a b : Station) : distS a b = distS b a := by unfold distS; rw [dist2_comm]
/-- no way by a third one is shorter -/
theorem distS_tri {a b c : Station} (ha : placedOk a) (hb : placedOk b) (hc : placedOk c) : distS a c ≤ distS a b + distS b c := by
  obtain ⟨p0, p1, _⟩ := distS_spec ha hb
  obtain ⟨q0, q1, _⟩ := distS_spec hb hc
  obtain ⟨r0, _, r2⟩ := distS_spec ha hc
  rcases Int.lt_or_le (distS a b + distS b c) (distS a c) with h | h
  · exfalso
    have h1 := r2 (by omega)
    have h2 : (distS a b + distS b c) * (distS a b + distS b c) ≤ (distS a c - 1) * (distS a c - 1) := Int.mul_le_mul (by omega) (by omega) (by omega) (by omega)
    have h3 := dot_le (a := a.X - b.X) (b := a.Y - b.Y) (c := b.X - c.X) (d := b.Y - c.Y) p1 q1 p0 q0
    have h4 : (distS a b + distS b c) * (distS a b + distS b c) = distS a b * distS a b + distS b c * distS b c + 2 * (distS a b * distS b c) := by
      simp only [Int.mul_add, Int.mul_comm]; omega
    have h5 : dist2 a c = dist2 a b + dist2 b c + 2 * ((a.X - b.X) * (b.X - c.X) + (a.Y - b.Y) * (b.Y - c.Y)) := by
      unfold dist2
      simp only [Int.mul_sub, Int.mul_comm]
      omega
    omega
  · exact h
theorem boundS_comm (w : Wind) (a b : Station) : boundS w a b = boundS w b a := by
  unfold boundS; rw [distS_comm]
  by_cases h : a.ID = b.ID
  · rw [if_pos h, if_pos h.symm]
  · rw [if_neg h, if_neg (fun e => h e.symm)]
theorem boundS_grow {w : Wind} {a b c : Station} (hw : windE w = 0) (h : distS a b ≤ distS a c) (hab : a.ID ≠ b.ID) (hac : a.ID ≠ c.ID) : boundS w a b ≤ boundS w a c := by
  unfold boundS
  rw [if_neg hab, if_neg hac]
  have h1 : w.Each * distS a b ≤ w.Each * distS a c := Int.mul_le_mul_of_nonneg_left h (windE_zero hw).2.1
  have := Int.ediv_le_ediv (c := 100) (by omega) h1
  omega
theorem distR_zero {a b : Station} (h : (distR a b).2 = 0) : (placedOk a ∧ placedOk b) ∧ (distR a b).1 = distS a b := by
  unfold distR at h ⊢
  split at h
  · rename_i h1; exact absurd h h1
  · rename_i h1
    have hz := twoE_zero (Decidable.of_not_not h1)
    rw [if_neg h1]
    exact ⟨⟨(oneE_zero hz.1).1, (oneE_zero hz.2).1⟩, rfl⟩
theorem withinR_zero {w : Wind} {a b : Station} (h : (withinR w a b).2 = 0) : windE w = 0 ∧ (withinR w a b).1 = boundS w a b := by
  unfold withinR at h ⊢
  split at h
  · rename_i h1; exact absurd h h1
  · rename_i h1
    split at h
    · rename_i h2; exact absurd h h2
    · rename_i h2
      rw [if_neg h1, if_neg h2]
      exact ⟨Decidable.of_not_not h2, rfl⟩
theorem sqm_bd {d : Int} (h0 : 0 ≤ d) (h1 : d ≤ 8000000) : (0 ≤ (d - 1) * (d - 1) ∧ (d - 1) * (d - 1) ≤ 64000000000000) ∧ (0 ≤ d * d ∧ d * d ≤ 64000000000000) := by
  have h2 := mul_bd h0 h1 h0 h1
  refine ⟨⟨sq_nn _, ?_⟩, by omega⟩
  rcases Int.le_total 1 d with h | h
  · have := mul_bd (x := d - 1) (y := d - 1) (A := 8000000) (C := 8000000) (by omega) (by omega) (by omega) (by omega); omega
  · have : d = 0 ∨ d = 1 := by omega
    rcases this with rfl | rfl <;> decide
end Go.Proofs.S5
