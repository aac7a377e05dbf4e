/- Century: fractions, held against one another, in plain Lean. -/
import Derived.Test.YtednficclnjmjaaC8Mean
namespace Go.Proofs.C8
open Go Go.Kx

theorem floor_yes {a b : Int} (hb : 0 < b) (h : a.tmod b ≠ 0) (ha : a < 0) : a.tdiv b - 1 = a / b := by
  rw [Int.tdiv_eq_ediv, if_neg (fun hn => by
    rcases hn with h1 | h1
    · omega
    · exact h (Int.tmod_eq_zero_of_dvd h1)), Int.sign_eq_one_of_pos hb]
  omega
theorem floor_no {a b : Int} (h : a.tmod b = 0 ∨ 0 ≤ a) : a.tdiv b = a / b := by
  rw [Int.tdiv_eq_ediv, if_pos (by
    rcases h with h1 | h1
    · exact .inr (Int.dvd_of_tmod_eq_zero h1)
    · exact .inl h1)]
  omega
def lessP (a b : Ratio) : Prop := a.Num * b.Den < b.Num * a.Den
instance (a b : Ratio) : Decidable (lessP a b) := by unfold lessP; exact inferInstance
theorem div_bds {a b : Int} (hb : 0 < b) : a - b < a / b * b ∧ a / b * b ≤ a := by
  have h1 := Int.mul_ediv_add_emod a b
  have h2 := Int.emod_nonneg a (show b ≠ 0 by omega)
  have h3 := Int.emod_lt_of_pos a hb
  rw [Int.mul_comm] at h1
  omega
/-- whole parts differ -/
theorem less_whole {a b : Ratio} (ha : 0 < a.Den) (hb : 0 < b.Den) (h : a.Num / a.Den ≠ b.Num / b.Den) : lessP a b ↔ a.Num / a.Den < b.Num / b.Den := by
  have h1 := div_bds (a := a.Num) ha
  have h2 := div_bds (a := b.Num) hb
  unfold lessP
  have m1 : a.Num / a.Den * (a.Den * b.Den) = a.Num / a.Den * a.Den * b.Den := by rw [Int.mul_assoc]
  have m2 : b.Num / b.Den * (a.Den * b.Den) = b.Num / b.Den * b.Den * a.Den := by rw [Int.mul_assoc, Int.mul_comm a.Den b.Den]
  have p := Int.mul_pos ha hb
  have a1 : a.Num / a.Den * a.Den * b.Den ≤ a.Num * b.Den := Int.mul_le_mul_of_nonneg_right h1.2 (by omega)
  have a2 : a.Num * b.Den < (a.Num / a.Den * a.Den + a.Den) * b.Den := Int.mul_lt_mul_of_pos_right (by omega) hb
  have b1 : b.Num / b.Den * b.Den * a.Den ≤ b.Num * a.Den := Int.mul_le_mul_of_nonneg_right h2.2 (by omega)
  have b2 : b.Num * a.Den < (b.Num / b.Den * b.Den + b.Den) * a.Den := Int.mul_lt_mul_of_pos_right (by omega) ha
  rw [Int.add_mul] at a2 b2
  have c : b.Den * a.Den = a.Den * b.Den := Int.mul_comm _ _
  constructor
  · intro hl
    apply Classical.byContradiction
    intro hn
    have h3 : (b.Num / b.Den + 1) * (a.Den * b.Den) ≤ a.Num / a.Den * (a.Den * b.Den) := Int.mul_le_mul_of_nonneg_right (by omega) (by omega)
    rw [Int.add_mul] at h3
    omega
  · intro hl
    have h3 : (a.Num / a.Den + 1) * (a.Den * b.Den) ≤ b.Num / b.Den * (a.Den * b.Den) := Int.mul_le_mul_of_nonneg_right (by omega) (by omega)
    rw [Int.add_mul] at h3
    omega
/-- whole parts agree: the rests are held against one another -/
theorem less_rest {a b : Ratio} (h : a.Num / a.Den = b.Num / b.Den) : lessP a b ↔ (a.Num - a.Num / a.Den * a.Den) * b.Den < (b.Num - b.Num / b.Den * b.Den) * a.Den := by
  unfold lessP
  rw [Int.sub_mul, Int.sub_mul, h]
  have : b.Num / b.Den * a.Den * b.Den = b.Num / b.Den * b.Den * a.Den := by rw [Int.mul_assoc, Int.mul_assoc, Int.mul_comm a.Den]
  omega
theorem rest_bd {a b : Int} (hb : 0 < b) : 0 ≤ a - a / b * b ∧ a - a / b * b < b := by have := div_bds (a := a) hb; omega
/-- the state of the steps -/
def LI (a b : Ratio) (k : Nat) (A C : Ratio) : Prop := (lessP a b ↔ lessP A C) ∧ (0 < A.Den ∧ A.Den ≤ 4000000000000000000) ∧ (0 < C.Den ∧ C.Den ≤ 4000000000000000000) ∧ (-4000000000000000000 ≤ A.Num ∧ A.Num ≤ 4000000000000000000) ∧ (-4000000000000000000 ≤ C.Num ∧ C.Num ≤ 4000000000000000000) ∧
  (0 < k → (A.Den < A.Num ∧ C.Den < C.Num) ∧ 2 ^ (k - 1) * ((A.Num + C.Num) * (A.Den + C.Den)) ≤ (2 : Int) ^ 126)
theorem half_mod {x y : Int} (hy : 0 < y) (hxy : y < x) : 2 * (x - x / y * y) < x := by
  have h1 := rest_bd (a := x) hy
  have h2 : 1 ≤ x / y := by
    apply Classical.byContradiction
    intro hn
    have h3 : x / y * y ≤ 0 * y := Int.mul_le_mul_of_nonneg_right (by omega) (by omega)
    omega
  have h4 : 1 * y ≤ x / y * y := Int.mul_le_mul_of_nonneg_right h2 (by omega)
  omega
theorem less_next {a b : Ratio} {k : Nat} {A C : Ratio} (h : LI a b k A C) (he : A.Num / A.Den = C.Num / C.Den) (h1 : A.Num - A.Num / A.Den * A.Den ≠ 0) (h2 : C.Num - C.Num / C.Den * C.Den ≠ 0) :
    LI a b (k + 1) ⟨C.Den, C.Num - C.Num / C.Den * C.Den⟩ ⟨A.Den, A.Num - A.Num / A.Den * A.Den⟩ := by
  obtain ⟨g1, g2, g3, g4, g5, g6⟩ := h
  have r1 := rest_bd (a := A.Num) g2.1
  have r2 := rest_bd (a := C.Num) g3.1
  refine ⟨g1.trans ((less_rest he).trans ?_), by dsimp only; omega, by dsimp only; omega, by dsimp only; omega, by dsimp only; omega, fun _ => ⟨⟨by dsimp only; omega, by dsimp only; omega⟩, ?_⟩⟩
  · unfold lessP
    dsimp only
    rw [Int.mul_comm C.Den, Int.mul_comm A.Den]
  · dsimp only
    have hp2 := fun h => half_mod (x := A.Num) g2.1 h
    have hq2 := fun h => half_mod (x := C.Num) g3.1 h
    generalize A.Num - A.Num / A.Den * A.Den = p at *
    generalize hq : C.Num - C.Num / C.Den * C.Den = q at *
    rw [Nat.add_sub_cancel]
    rcases Nat.eq_zero_or_pos k with h0 | h0
    · subst h0
      have m1 : (C.Den + A.Den) * (q + p) ≤ (2 : Int) ^ 63 * 2 ^ 63 := Int.mul_le_mul (by omega) (by omega) (by omega) (by decide)
      have e : (2 : Int) ^ 63 * 2 ^ 63 = 2 ^ 126 := by decide
      rw [Int.pow_zero, Int.one_mul]
      omega
    · obtain ⟨⟨g7, g8⟩, g9⟩ := g6 h0
      have e1 := hp2 g7
      have e2 := hq2 g8
      obtain ⟨j, rfl⟩ : ∃ j, k = j + 1 := ⟨k - 1, by omega⟩
      rw [Nat.add_sub_cancel] at g9
      have hpos : 0 ≤ (2 : Int) ^ j := Int.pow_nonneg (by decide)
      have m1 : (A.Den + C.Den) * (2 * (q + p)) ≤ (A.Den + C.Den) * (A.Num + C.Num) := Int.mul_le_mul_of_nonneg_left (by omega) (by omega)
      have m2 : (2 : Int) ^ j * ((A.Den + C.Den) * (2 * (q + p))) ≤ 2 ^ j * ((A.Den + C.Den) * (A.Num + C.Num)) := Int.mul_le_mul_of_nonneg_left m1 hpos
      have e3 : (2 : Int) ^ (j + 1) * ((C.Den + A.Den) * (q + p)) = 2 ^ j * ((A.Den + C.Den) * (2 * (q + p))) := by
        rw [Int.pow_succ, Int.mul_assoc, Int.add_comm C.Den, Int.mul_left_comm 2]
      rw [e3]
      rw [Int.mul_comm (A.Num + C.Num)] at g9
      exact Int.le_trans m2 g9
theorem less_start {a b : Ratio} (ha : (0 < a.Den ∧ a.Den ≤ 4000000000000000000) ∧ (-4000000000000000000 ≤ a.Num ∧ a.Num ≤ 4000000000000000000)) (hb : (0 < b.Den ∧ b.Den ≤ 4000000000000000000) ∧ (-4000000000000000000 ≤ b.Num ∧ b.Num ≤ 4000000000000000000)) : LI a b 0 a b :=
  ⟨.rfl, ha.1, hb.1, ha.2, hb.2, fun h => absurd h (Nat.lt_irrefl _)⟩
theorem less_steps {a b : Ratio} {k : Nat} {A C : Ratio} (h : LI a b k A C) (hk : k = 200) : False := by
  subst hk
  obtain ⟨_, g2, g3, g4, g5, g6⟩ := h
  obtain ⟨⟨g7, g8⟩, g9⟩ := g6 (by omega)
  have m : 2 * 2 ≤ (A.Num + C.Num) * (A.Den + C.Den) := Int.mul_le_mul (by omega) (by omega) (by omega) (by omega)
  have m2 : (2 : Int) ^ 199 * 4 ≤ 2 ^ 199 * ((A.Num + C.Num) * (A.Den + C.Den)) := Int.mul_le_mul_of_nonneg_left m (by decide)
  have : (2 : Int) ^ 126 < 2 ^ 199 * 4 := by decide
  have g9' : (2 : Int) ^ 199 * ((A.Num + C.Num) * (A.Den + C.Den)) ≤ 2 ^ 126 := g9
  omega
theorem less_ret1 {a b : Ratio} {k : Nat} {A C : Ratio} (h : LI a b k A C) (hn : ¬ A.Num / A.Den = C.Num / C.Den) : lessP a b ↔ A.Num / A.Den < C.Num / C.Den := h.1.trans (less_whole h.2.1.1 h.2.2.1.1 hn)
theorem less_ret2 {a b : Ratio} {k : Nat} {A C : Ratio} (h : LI a b k A C) (he : A.Num / A.Den = C.Num / C.Den) (h2 : C.Num - C.Num / C.Den * C.Den = 0) : ¬ lessP a b := by
  rw [h.1, less_rest he, h2, Int.zero_mul]
  have := rest_bd (a := A.Num) h.2.1.1
  have := Int.mul_nonneg this.1 (show 0 ≤ C.Den by have := h.2.2.1.1; omega)
  omega
theorem less_ret3 {a b : Ratio} {k : Nat} {A C : Ratio} (h : LI a b k A C) (he : A.Num / A.Den = C.Num / C.Den) (h2 : ¬ C.Num - C.Num / C.Den * C.Den = 0) (h1 : A.Num - A.Num / A.Den * A.Den = 0) : lessP a b := by
  rw [h.1, less_rest he, h1, Int.zero_mul]
  have := rest_bd (a := C.Num) h.2.2.1.1
  exact Int.mul_pos (by omega) h.2.1.1
/-- the slope of adjusted levels -/
def exS (s : Ser) (l : List Int) : Int := totN (momL s) l s.Values.length
def exactR (s : Ser) (l : List Int) : Ratio := lowR (exS s l) (momD s)
theorem exS_bd {s : Ser} (h : Ok s) {l : List Int} (hl : ∀ i, i < s.Values.length → -1000000 ≤ gt l i ∧ gt l i ≤ 1000000) {n : Nat} (hn : n ≤ s.Values.length) : -2000000000000000 ≤ totN (momL s) l n ∧ totN (momL s) l n ≤ 2000000000000000 := by
  have h1 := totN_bd (f := momL s) (p := l) (n := n) (A := 10000000) (B := 1000000) (fun i hi => (momL_fac h).2 i (by omega)) (fun i hi => hl i (by omega))
  have h2 := h.nV
  omega
end Go.Proofs.C8
