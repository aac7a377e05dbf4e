/- Stations: shortest ways: they exist, and are told alike by both texts: no stations' code in sight. -/
import Derived.Test.YtcpecjgppbiplaaS5Sea
namespace Go.Proofs.S5
open Go Go.Kx

/-! ### walks -/
def wlen (f : Nat → Nat → Int) : Nat → List Nat → Int
  | _, [] => 0
  | i, k :: l => f i k + wlen f k l
def wend : Nat → List Nat → Nat
  | i, [] => i
  | _, k :: l => wend k l
section
variable {w : Wind} {l : List Station} (h : windedE w l = 0)
include h
end

/-! ### the fewest further elements -/
def IsHop (w : Wind) (l : List Station) (b i m : Nat) : Prop := reachS w l b m i = true ∧ ∀ j, j < m → reachS w l b j i = false
/-- the next one of a shortest way has one further element less -/
theorem IsHop.next {w : Wind} {l : List Station} {b i m : Nat} (h : IsHop w l b i (m + 1)) : ∃ k, k < l.length ∧ edgeM w l b i k ∧ IsHop w l b k m := by
  have h1 := h.1
  unfold reachS at h1
  rw [List.any_eq_true] at h1
  obtain ⟨k, hk, h2⟩ := h1
  simp only [Bool.and_eq_true, decide_eq_true_eq] at h2
  have hk' := List.mem_range.1 hk
  refine ⟨k, hk', h2.1, h2.2, fun j hj => ?_⟩
  cases hr : reachS w l b j k with
  | false => rfl
  | true => have := h.2 (j + 1) (by omega); rw [reach_yes hk' h2.1 hr] at this; cases this
def hS (w : Wind) (l : List Station) (b i : Nat) : Nat := (leastM w l i b l.length 0).getD 0
/-! ### the reference's way of counting: rounds over all pairs -/
def Cnt (w : Wind) (l : List Station) (b i : Nat) (x : Int) : Prop := ∃ m : Nat, x = m ∧ reachS w l b m i = true
/-- counts that are reached -/
def HA (w : Wind) (l : List Station) (b : Nat) (L : List Int) : Prop := L.length = l.length ∧ ∀ i, i < l.length → 0 ≤ gt L i ∧ gt L i ≤ l.length + 1 ∧ (gt L i ≤ l.length → Cnt w l b i (gt L i))
/-- ways of at most r further elements are counted -/
def HC (w : Wind) (l : List Station) (b r : Nat) (L : List Int) : Prop := ∀ i, i < l.length → ∀ m : Nat, m ≤ r → reachS w l b m i = true → gt L i ≤ m
def HD (w : Wind) (l : List Station) (b r i k : Nat) (L : List Int) : Prop :=
  (∀ x, x < i → x < l.length → ∀ m : Nat, m ≤ r + 1 → reachS w l b m x = true → gt L x ≤ m) ∧ (i ≠ b → ∀ y, y < k → y < l.length → edgeM w l b i y → ∀ m : Nat, m ≤ r → reachS w l b m y = true → gt L i ≤ m + 1)
theorem HA.start {w : Wind} {l : List Station} {b : Nat} (hb : b < l.length) {L : List Int} (hl : L.length = l.length) (h : ∀ i, i < l.length → gt L i = l.length + 1) : HA w l b (L.set b 0) ∧ HC w l b 0 (L.set b 0) := by
  have hbl : b < L.length := by omega
  refine ⟨⟨by simp [hl], fun i hi => ?_⟩, fun i hi m hm hr => ?_⟩
  · rw [gt_set hbl]
    by_cases e : b = i
    · subst e; rw [if_pos rfl]; exact ⟨by omega, by omega, fun _ => ⟨0, rfl, reach0 rfl⟩⟩
    · rw [if_neg e, h i hi]; exact ⟨by omega, by omega, fun hx => by omega⟩
  · have : m = 0 := by omega
    subst this
    have hib : i = b := (by unfold reachS at hr; simpa using hr)
    subst hib
    rw [gt_set hbl, if_pos rfl]; omega
theorem HD.zero {w : Wind} {l : List Station} {b r : Nat} {L : List Int} : HD w l b r 0 0 L := ⟨fun _ hx => absurd hx (Nat.not_lt_zero _), fun _ _ hy => absurd hy (Nat.not_lt_zero _)⟩
theorem HD.row {w : Wind} {l : List Station} {b r i k : Nat} {L : List Int} (h : HD w l b r i k L) (hc : HC w l b r L) (_hb : b < l.length) (hi : i < l.length) (hk : l.length ≤ k) : HD w l b r (i + 1) 0 L := by
  refine ⟨fun x hx hxl m hm hr => ?_, fun _ y hy => absurd hy (Nat.not_lt_zero _)⟩
  by_cases e : x = i
  · subst e
    by_cases eb : x = b
    · have := hc x hxl 0 (Nat.zero_le _) (reach0 eb); omega
    · cases m with
      | zero => exact hc x hxl 0 (Nat.zero_le _) hr
      | succ m =>
        unfold reachS at hr
        rw [List.any_eq_true] at hr
        obtain ⟨y, hy, h2⟩ := hr
        simp only [Bool.and_eq_true, decide_eq_true_eq] at h2
        have hyl := List.mem_range.1 hy
        have := h.2 eb y (by omega) hyl h2.1 m (by omega) h2.2
        omega
  · exact h.1 x (by omega) hxl m hm hr
theorem HD.fin {w : Wind} {l : List Station} {b r i : Nat} {L : List Int} (h : HD w l b r i 0 L) (hi : l.length ≤ i) : HC w l b (r + 1) L := fun x hx m hm hr => h.1 x (by omega) hx m hm hr
theorem HD.skip {w : Wind} {l : List Station} {b r i k : Nat} {L : List Int} (h : HD w l b r i k L) (hn : ¬ (i ≠ b ∧ edgeM w l b i k)) : HD w l b r i (k + 1) L :=
  ⟨h.1, fun hib y hy hyl he m hm hr => by
    by_cases e : y = k
    · subst e; exact absurd ⟨hib, he⟩ hn
    · exact h.2 hib y (by omega) hyl he m hm hr⟩
def hopsL (w : Wind) (l : List Station) (b : Nat) : List Int := (List.range l.length).map fun i => (hS w l b i : Int)
end Go.Proofs.S5
