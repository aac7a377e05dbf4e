import Derived.Test.YtmnipmbgdbdjeaaC2Spec
/- Clocks: readings of a chain: the lesser, the greater, the median ones; what is between; in plain Lean. -/
namespace Go.Proofs.C2
open Go Go.Kx

theorem Rd.min {g a : Nat → Span} {n : Nat} {x y : Nat → Int} (hx : Rd g a n x) (hy : Rd g a n y) : Rd g a n (fun i => Min.min (x i) (y i)) :=
  ⟨fun i hi => by have h1 := hx.1 i hi; have h2 := hy.1 i hi; (try dsimp only); omega, fun i hi => by have h1 := hx.2 i hi; have h2 := hy.2 i hi; (try dsimp only); omega⟩
theorem Rd.max {g a : Nat → Span} {n : Nat} {x y : Nat → Int} (hx : Rd g a n x) (hy : Rd g a n y) : Rd g a n (fun i => Max.max (x i) (y i)) :=
  ⟨fun i hi => by have h1 := hx.1 i hi; have h2 := hy.1 i hi; (try dsimp only); omega, fun i hi => by have h1 := hx.2 i hi; have h2 := hy.2 i hi; (try dsimp only); omega⟩
/-- the median as the program has it -/
def med (a b c : Int) : Int := Max.max (Min.min a b) (Min.min (Max.max a b) c)
theorem Rd.med {g a : Nat → Span} {n : Nat} {x y z : Nat → Int} (hx : Rd g a n x) (hy : Rd g a n y) (hz : Rd g a n z) : Rd g a n (fun i => C2.med (x i) (y i) (z i)) :=
  (hx.min hy).max ((hx.max hy).min hz)
theorem ediv_mid {p D lo hi : Int} (hD : 0 < D) (h1 : D * lo ≤ p) (h2 : p ≤ D * hi) : lo ≤ p / D ∧ p / D ≤ hi := by
  have e1 : D * lo / D = lo := Int.mul_ediv_cancel_left lo (by omega)
  have e2 : D * hi / D = hi := Int.mul_ediv_cancel_left hi (by omega)
  exact ⟨by rw [← e1]; exact Int.ediv_le_ediv hD h1, by rw [← e2]; exact Int.ediv_le_ediv hD h2⟩
theorem ediv_shift {p q D c : Int} (hD : 0 < D) (h : p ≤ q + D * c) : p / D ≤ q / D + c := by
  have := Int.ediv_le_ediv hD h
  rwa [Int.add_mul_ediv_left _ _ (by omega)] at this
theorem ediv_shift2 {p q D c : Int} (hD : 0 < D) (h : q + D * c ≤ p) : q / D + c ≤ p / D := by
  have := Int.ediv_le_ediv hD h
  rwa [Int.add_mul_ediv_left _ _ (by omega)] at this
theorem mul_le {s a b : Int} (hs : 0 ≤ s) (h : a ≤ b) : s * a ≤ s * b := Int.mul_le_mul_of_nonneg_left h hs
/-- between two readings lie others -/
theorem Rd.conv {g a : Nat → Span} {n : Nat} {x y : Nat → Int} (hx : Rd g a n x) (hy : Rd g a n y) {s t : Int} (hs : 0 ≤ s) (ht : 0 ≤ t) (hD : 0 < s + t) : Rd g a n (fun i => (s * x i + t * y i) / (s + t)) := by
  refine ⟨fun i hi => ?_, fun i hi => ?_⟩
  · have h1 := hx.1 i hi; have h2 := hy.1 i hi
    refine ediv_mid hD ?_ ?_
    · rw [Int.add_mul]; have := mul_le hs h1.1; have := mul_le ht h2.1; omega
    · rw [Int.add_mul]; have := mul_le hs h1.2; have := mul_le ht h2.2; omega
  · have h1 := hx.2 i hi; have h2 := hy.2 i hi
    have a1 := mul_le hs h1.1; have a2 := mul_le ht h2.1; have a3 := mul_le hs h1.2; have a4 := mul_le ht h2.2
    rw [Int.mul_sub] at a1 a2 a3 a4
    have b1 := ediv_shift2 (p := s * x (i + 1) + t * y (i + 1)) (q := s * x i + t * y i) (c := (g i).Lo) hD (by rw [Int.add_mul]; omega)
    have b2 := ediv_shift (p := s * x (i + 1) + t * y (i + 1)) (q := s * x i + t * y i) (c := (g i).Hi) hD (by rw [Int.add_mul]; omega)
    (try dsimp only)
    omega
/-! ### two columns -/
/-- the greatest difference of two columns: no reading passes it, one reaches it -/
theorem mos_up {g B : Nat → Span} {n f i : Nat} {x : Nat → Int} (hx : Rd g B n x) (hf : f ≤ n) (hi : i ≤ n) : x i - x f ≤ mos g B n f i := by
  refine hi_st (x := fun j => x j - x f) (fun j hj => ?_) (fun j hj => ?_) hi
  · have h1 := hx.1 j hj; have h2 := hx.1 f hf
    unfold mosA; (try dsimp only); split
    · subst_vars; omega
    · omega
  · have := hx.2 j hj; (try dsimp only); omega
theorem mos_rd {g a : Nat → Span} {n f i : Nat} (hg : GapOk g n) (ho : okP g a n) (hf : f ≤ n) (hi : i ≤ n) : ∃ x, Rd g a n x ∧ x i - x f = mos g (st g a n) n f i := by
  have hlo := lo_rd hg ho
  have hlb : Rd g (st g a n) n (fun j => (st g a n j).Lo) := ⟨fun j hj => by have := ho j (by omega); (try dsimp only); omega, hlo.2⟩
  have hhb : Rd g (st g a n) n (fun j => (st g a n j).Hi) := ⟨fun j hj => by have := ho j (by omega); (try dsimp only); omega, (hi_rd hg ho).2⟩
  have hu := fun j (hj : j ≤ n) => mos_up hlb hf hj
  have hyd : ∀ j, j < n → (g j).Lo ≤ mos g (st g a n) n f (j + 1) - mos g (st g a n) n f j ∧ mos g (st g a n) n f (j + 1) - mos g (st g a n) n f j ≤ (g j).Hi := fun j hj => by
    have := st_fix hg (mosA (st g a n) f) hj; unfold mos; omega
  have hyh : ∀ j, j ≤ n → mos g (st g a n) n f j + (st g a n f).Lo ≤ (st g a n j).Hi := fun j hj => by
    have h1 := (st_in g (mosA (st g a n) f) hj).2
    have h2 : (mosA (st g a n) f j).Hi ≤ (st g a n j).Hi - (st g a n f).Lo := by unfold mosA; (try dsimp only); split <;> omega
    unfold mos; omega
  have hz : mos g (st g a n) n f f = 0 := by
    have h1 := (st_in g (mosA (st g a n) f) hf).2
    have h2 : (mosA (st g a n) f f).Hi ≤ 0 := by unfold mosA; (try dsimp only); rw [if_pos rfl]; omega
    have h3 := hu f hf
    (try dsimp only at h3)
    unfold mos at h3 ⊢
    omega
  have hR : Rd g a n (fun j => Max.max (st g a n j).Lo ((st g a n f).Lo + mos g (st g a n) n f j)) := by
    refine ⟨fun j hj => ?_, fun j hj => ?_⟩
    · have h1 := st_in g a hj; have h2 := ho j (by omega); have h3 := hyh j hj; (try dsimp only); omega
    · have h1 := hlo.2 j hj; have h2 := hyd j hj; (try dsimp only at h1 ⊢); omega
  refine ⟨_, hR, ?_⟩
  have h1 := hu i hi
  (try dsimp only at h1 ⊢)
  rw [hz]
  omega

/-! ### two marks are enough -/
end Go.Proofs.C2
