import Derived.Test.YtmnipmbgdbdjeaaC2Walk2
import Derived.Test.YtmnipmbgdbdjeaaC2LC
import Derived.Test.YtmnipmbgdbdjeaaC2Zero
/- Clocks: searches, tables, answers; in plain Lean. -/
namespace Go.Proofs.C2
open Go Go.Kx

def tab0 : List Int := List.replicate 40401 0
theorem tab_start (c : Ck) : Tab tab0 (tabF c 0 0) := tab_zero c
theorem zv0 (w : World) : (zeroValue 144).run Try.prog w = .ok (Value.agg (ints tab0).toArray) w := zv144 w
theorem cells0 : (Value.agg (ints tab0).toArray).cells = (ints tab0 ++ []).toArray := by rw [List.append_nil]; rfl
attribute [irreducible] tab0
theorem tab_next {c : Ck} {L : List Int} {i k : Nat} (h : Tab L (tabF c i k)) (hi : i < 201) (hk : k < c.gaps.length + 1) (hn : c.gaps.length ≤ 199) : Tab (L.set (0 + i * 201 + k * 1) (gt (mostL c i) k)) (tabF c i (k + 1)) := by
  have e : gt (mostL c i) k = mos (gt c.gaps) (gt c.at_) c.gaps.length i k := gt_map hk
  rw [e]; exact tab_step h hi hk hn
theorem mostL_len (c : Ck) (f : Nat) : (mostL c f).length = c.gaps.length + 1 := map_len _ _
/-! ### the opened clock -/
theorem setC_n (d : Drum) (m : List Mark) : (setC d m).gaps.length = d.Rates.length := gapL_len d
theorem setC_l (d : Drum) (m : List Mark) : (setC d m).at_.length = d.Rates.length + 1 := setD_len d m
/-! ### binary search -/
def lowI (l : List Int) (t : Int) : Nat := first (fun i => t ≤ gt l i) l.length
def upP (l : List Int) : Prop := ∀ i, i + 1 < l.length → gt l i < gt l (i + 1)
theorem up_lt {l : List Int} (h : upP l) : ∀ {i j : Nat}, i < j → j < l.length → gt l i < gt l j := by
  have key : ∀ k i, i + k + 1 < l.length → gt l i < gt l (i + k + 1) := by
    intro k
    induction k with
    | zero => intro i h2; exact h i h2
    | succ k ih => intro i h1; have h3 := ih i (by omega); have h4 := h (i + k + 1) (by omega); rw [show i + (k + 1) + 1 = i + k + 1 + 1 by omega]; omega
  intro i j hij hj
  have := key (j - i - 1) i (by omega)
  rwa [show i + (j - i - 1) + 1 = j by omega] at this
theorem low_eq {l : List Int} {t : Int} {i : Nat} (hi : i ≤ l.length) (h1 : ∀ k, k < i → gt l k < t) (h2 : ∀ k, i ≤ k → k < l.length → t ≤ gt l k) : i = lowI l t := by
  rcases Nat.lt_or_ge i l.length with h3 | h3
  · exact (first_eq h3 (fun j hj => by have := h1 j hj; omega) (h2 i (Nat.le_refl _) h3)).symm
  · have := first_no (p := fun i => t ≤ gt l i) (n := l.length) (fun j hj => by have := h1 j (by omega); omega)
    unfold lowI; omega
theorem low_lo (l : List Int) (t : Int) : ∀ k, k < lowI l t → gt l k < t := by
  rcases first_cases (fun i => t ≤ gt l i) l.length with h | h
  · intro k hk; have := h.2 k (by unfold lowI at hk; omega); omega
  · intro k hk; have := h.2.2 k hk; omega
theorem low_hi {l : List Int} (hu : upP l) (t : Int) : ∀ k, lowI l t ≤ k → k < l.length → t ≤ gt l k := by
  intro k h1 h2
  rcases first_cases (fun i => t ≤ gt l i) l.length with h | h
  · unfold lowI at h1; omega
  · have h3 : t ≤ gt l (lowI l t) := h.2.1
    rcases Nat.lt_or_ge (lowI l t) k with h4 | h4
    · have := up_lt hu h4 h2; omega
    · obtain rfl : k = lowI l t := by omega
      exact h3
theorem low_le (l : List Int) (t : Int) : lowI l t ≤ l.length := by
  rcases first_cases (fun i => t ≤ gt l i) l.length with h | h <;> unfold lowI <;> omega
theorem pas_low {l : List Int} (hu : upP l) {t : Int} (h : lowI l t < l.length ∧ gt l (lowI l t) = t) : pasS l t = (lowI l t : Int) := pas_found hu h.1 h.2
theorem pas_low2 {l : List Int} (hu : upP l) {t : Int} (h : ¬ (lowI l t < l.length ∧ gt l (lowI l t) = t)) : pasS l t = (lowI l t : Int) - 1 := by
  refine pas_none (low_le l t) (low_lo l t) fun i h1 h2 => ?_
  have h3 := low_hi hu t i h1 h2
  rcases Nat.lt_or_ge (lowI l t) i with h4 | h4
  · have := up_lt hu h4 h2; have := low_hi hu t (lowI l t) (Nat.le_refl _) (by omega); omega
  · obtain rfl : i = lowI l t := by omega
    rcases Int.lt_or_le t (gt l (lowI l t)) with h5 | h5
    · exact h5
    · exact absurd ⟨h2, by omega⟩ h
attribute [irreducible] lowI
theorem bet_at {c : Ck} {a b : Int} (ha : 0 ≤ a ∧ a ≤ c.gaps.length) (hb : 0 ≤ b ∧ b ≤ c.gaps.length) (hn : c.gaps.length ≤ 199) : gt (tabL c) (0 + a.toNat * 201 + b.toNat * 1) = (betS c a.toNat b.toNat).Hi ∧ - gt (tabL c) (0 + b.toNat * 201 + a.toNat * 1) = (betS c a.toNat b.toNat).Lo := by
  rw [tabL_at (by omega) (by omega) hn, tabL_at (by omega) (by omega) hn]; exact ⟨rfl, rfl⟩
theorem tab_bd {c : Ck} (h : CkW c) {a b : Int} (ha : 0 ≤ a ∧ a ≤ c.gaps.length) (hb : 0 ≤ b ∧ b ≤ c.gaps.length) : -3000000 ≤ gt (tabL c) (0 + a.toNat * 201 + b.toNat * 1) ∧ gt (tabL c) (0 + a.toNat * 201 + b.toNat * 1) ≤ 400 := by
  rw [tabL_at (by omega) (by omega) h.n]; exact mos_bd h (by omega) (by omega)
end Go.Proofs.C2
