/- Stations: tight bounds as shortest ways: no stations' code in sight. -/
import Derived.Test.YtcpecjgppbiplaaS5Spec3
namespace Go.Proofs.S5
open Go Go.Kx

/-- what is kept from layer to layer -/
structure Met (n : Nat) (f : Nat → Nat → Int) : Prop where
  zero : ∀ i, i < n → f i i = 0
  nn : ∀ i j, i < n → j < n → 0 ≤ f i j
theorem rowS_eq {n k i : Nat} {f : Nat → Nat → Int} (h : Met n f) (hk : k < n) (hi : i < n) : ∀ j, j ≤ n → ∀ a b, a < n → b < n → rowS k i f j a b = if a = i ∧ b < j then min (f i b) (f i k + f k b) else f a b
  | 0, _, a, b, _, _ => by rw [rowS, if_neg (by omega)]
  | j + 1, hj, a, b, ha, hb => by
    have ih := rowS_eq h hk hi j (by omega)
    rw [rowS, stepM]
    by_cases e : a = i ∧ b = j
    · obtain ⟨rfl, rfl⟩ := e
      rw [if_pos ⟨rfl, rfl⟩, if_pos (by omega), ih a b ha hb, ih a k ha hk, ih k b hk hb, if_neg (by omega)]
      have hz := h.zero k hk
      by_cases e1 : a = k
      · subst e1
        split <;> omega
      · rw [if_neg (show ¬ (k = a ∧ b < b) by omega)]
        by_cases e2 : k < b
        · rw [if_pos ⟨rfl, e2⟩]; omega
        · rw [if_neg (by omega)]
    · rw [if_neg e, ih a b ha hb]
      by_cases e2 : a = i ∧ b < j
      · rw [if_pos e2, if_pos (by omega)]
      · rw [if_neg e2, if_neg (by omega)]
theorem layS_eq {n k : Nat} {f : Nat → Nat → Int} (h : Met n f) (hk : k < n) : ∀ i, i ≤ n → (∀ a b, a < n → b < n → layS n k f i a b = if a < i then min (f a b) (f a k + f k b) else f a b) ∧ Met n (layS n k f i)
  | 0, _ => ⟨fun a b _ _ => by rw [layS, if_neg (by omega)], h⟩
  | i + 1, hi => by
    obtain ⟨h1, h2⟩ := layS_eq h hk i (by omega)
    have h3 := rowS_eq h2 hk (show i < n by omega) n (Nat.le_refl _)
    have key : ∀ a b, a < n → b < n → layS n k f (i + 1) a b = if a < i + 1 then min (f a b) (f a k + f k b) else f a b := by
      intro a b ha hb
      rw [layS, h3 a b ha hb]
      have hz := h.zero k hk
      have e1 := h1 a b ha hb; have e2 := h1 a k ha hk; have e3 := h1 k b hk hb
      by_cases e : a = i
      · subst e
        rw [if_pos ⟨rfl, hb⟩, if_pos (by omega), e1, e2, e3, if_neg (by omega), if_neg (by omega)]
        split <;> omega
      · rw [if_neg (by omega), e1]
        by_cases e4 : a < i
        · rw [if_pos e4, if_pos (by omega)]
        · rw [if_neg e4, if_neg (by omega)]
    refine ⟨key, fun a ha => ?_, fun a b ha hb => ?_⟩
    · rw [key a a ha ha]
      have h4 := h.zero a ha; have h5 := h.nn a k ha hk; have h6 := h.nn k a hk ha
      split <;> omega
    · rw [key a b ha hb]
      have h4 := h.nn a b ha hb; have h5 := h.nn a k ha hk; have h6 := h.nn k b hk hb
      split <;> omega
theorem allS_tri {n : Nat} {f : Nat → Nat → Int} (h : Met n f) : ∀ k, k ≤ n → Met n (allS n f k) ∧ (∀ m i j, m < k → i < n → j < n → allS n f k i j ≤ allS n f k i m + allS n f k m j) ∧ (∀ i j, i < n → j < n → allS n f k i j ≤ f i j)
  | 0, _ => ⟨h, fun m i j h1 => by omega, fun i j _ _ => Int.le_refl _⟩
  | k + 1, hk => by
    obtain ⟨h1, h2, h3⟩ := allS_tri h k (by omega)
    obtain ⟨h4, h5⟩ := layS_eq h1 (show k < n by omega) n (Nat.le_refl _)
    have e : ∀ i j, i < n → j < n → allS n f (k + 1) i j = min (allS n f k i j) (allS n f k i k + allS n f k k j) := fun i j hi hj => by rw [allS, h4 i j hi hj, if_pos hi]
    refine ⟨h5, fun m i j hm hi hj => ?_, fun i j hi hj => ?_⟩
    · rw [e i j hi hj, e i m hi (by omega), e m j (by omega) hj]
      have hz := h1.zero k (by omega)
      rcases Nat.lt_succ_iff_lt_or_eq.1 hm with h6 | h6
      · have a1 := h2 m i j h6 hi hj
        have a2 := h2 m k j h6 (by omega) hj
        have a3 := h2 m i k h6 hi (by omega)
        have a4 := h1.nn k m (by omega) (by omega)
        have a5 := h1.nn m k (by omega) (by omega)
        omega
      · subst h6
        have a1 := h1.nn i m hi (by omega)
        omega
    · rw [e i j hi hj]
      have := h3 i j hi hj
      omega
theorem boundM_met {w : Wind} {l : List Station} (h : windedE w l = 0) : Met l.length (boundM w l) :=
  ⟨fun i hi => by rw [boundM, if_pos ⟨hi, hi⟩, boundS, if_pos rfl], fun i j hi hj => (boundM_bd h i j hi hj).1⟩
theorem tight_tri {w : Wind} {l : List Station} (h : windedE w l = 0) {i j m : Nat} (hi : i < l.length) (hj : j < l.length) (hm : m < l.length) : tightM w l i j ≤ tightM w l i m + tightM w l m j :=
  (allS_tri (boundM_met h) l.length (Nat.le_refl _)).2.1 m i j hm hi hj
theorem tight_zero {w : Wind} {l : List Station} (h : windedE w l = 0) {i : Nat} (hi : i < l.length) : tightM w l i i = 0 := (allS_tri (boundM_met h) l.length (Nat.le_refl _)).1.zero i hi
end Go.Proofs.S5
