/- Stations: raising levels round by round comes to the least sea levels: no stations' code in sight. -/
import Derived.Test.YtcpecjgppbiplaaS5Way
namespace Go.Proofs.S5
open Go Go.Kx

/-! ### rounds -/
/-- ways of at most r further elements have raised -/
def SC (w : Wind) (l : List Station) (lo : Nat → Int) (r : Nat) (L : List Int) : Prop := ∀ i c, i < l.length → c < l.length → ∀ m, m ≤ r → reachS w l c m i = true → lo c - tightM w l i c ≤ gt L i
def SP (w : Wind) (l : List Station) (lo : Nat → Int) (r i k : Nat) (L : List Int) : Prop :=
  (∀ x, x < i → x < l.length → ∀ c, c < l.length → ∀ m, m ≤ r + 1 → reachS w l c m x = true → lo c - tightM w l x c ≤ gt L x) ∧
  (∀ y, y < k → y < l.length → ∀ c, c < l.length → edgeM w l c i y → ∀ m, m ≤ r → reachS w l c m y = true → lo c - tightM w l i c ≤ gt L i)
theorem SC.start {w : Wind} {l : List Station} {lo : Nat → Int} {L : List Int} (h : windedE w l = 0) (hL : SOk lo (tightM w l) l.length L) : SC w l lo 0 L := fun i c hi hc m hm hr => by
  have : m = 0 := by omega
  subst this
  have hic : i = c := (by unfold reachS at hr; simpa using hr)
  subst hic
  have := (hL.bd i hi).1
  rw [tight_zero h hi]; omega
theorem SP.zero {w : Wind} {l : List Station} {lo : Nat → Int} {r : Nat} {L : List Int} : SP w l lo r 0 0 L := ⟨fun _ hx => absurd hx (Nat.not_lt_zero _), fun _ hy => absurd hy (Nat.not_lt_zero _)⟩
theorem SP.row {w : Wind} {l : List Station} {lo : Nat → Int} {r i k : Nat} {L : List Int} (h : SP w l lo r i k L) (hc : SC w l lo r L) (hk : l.length ≤ k) : SP w l lo r (i + 1) 0 L := by
  refine ⟨fun x hx hxl c hcl m hm hr => ?_, fun _ hy => absurd hy (Nat.not_lt_zero _)⟩
  by_cases e : x = i
  · subst e
    cases m with
    | zero => exact hc x c hxl hcl 0 (Nat.zero_le _) hr
    | succ m =>
      unfold reachS at hr
      rw [List.any_eq_true] at hr
      obtain ⟨y, hy, h2⟩ := hr
      simp only [Bool.and_eq_true, decide_eq_true_eq] at h2
      have hyl := List.mem_range.1 hy
      exact h.2 y (by omega) hyl c hcl h2.1 m (by omega) h2.2
  · exact h.1 x (by omega) hxl c hcl m hm hr
theorem SP.fin {w : Wind} {l : List Station} {lo : Nat → Int} {r i : Nat} {L : List Int} (h : SP w l lo r i 0 L) (hi : l.length ≤ i) : SC w l lo (r + 1) L := fun x c hx hc m hm hr => h.1 x (by omega) hx c hc m hm hr
/-! ### rows of bounds -/
/-! ### whether levels can be at one time -/
def keepsR (w : Wind) (l : List Station) (week : Int) (list : List Int) : Bool × Int := (decide (levelsE w l week list = 0 ∧ fitsS w l week list), levelsE w l week list)
end Go.Proofs.S5
