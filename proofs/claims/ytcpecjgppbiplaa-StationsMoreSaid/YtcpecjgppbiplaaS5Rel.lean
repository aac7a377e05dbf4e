/- Stations: raising levels round by round comes to the least sea levels: no stations' code in sight. -/
import Derived.Test.YtcpecjgppbiplaaS5Way
namespace Go.Proofs.S5
open Go Go.Kx

theorem allS_comm {n : Nat} {f : Nat → Nat → Int} (h : Met n f) (hs : ∀ i j, i < n → j < n → f i j = f j i) : ∀ k, k ≤ n → ∀ i j, i < n → j < n → allS n f k i j = allS n f k j i
  | 0, _, i, j, hi, hj => hs i j hi hj
  | k + 1, hk, i, j, hi, hj => by
    have h1 := (allS_tri h k (by omega)).1
    obtain ⟨h4, _⟩ := layS_eq h1 (show k < n by omega) n (Nat.le_refl _)
    have e : ∀ i j, i < n → j < n → allS n f (k + 1) i j = min (allS n f k i j) (allS n f k i k + allS n f k k j) := fun i j hi hj => by rw [allS, h4 i j hi hj, if_pos hi]
    have a1 := allS_comm h hs k (by omega) i j hi hj
    have a2 := allS_comm h hs k (by omega) i k hi (by omega)
    have a3 := allS_comm h hs k (by omega) k j (by omega) hj
    rw [e i j hi hj, e j i hj hi, a1, a2, a3, Int.add_comm]
theorem boundS_sym (w : Wind) (a b : Station) : boundS w a b = boundS w b a := by
  have h0 : ∀ x y : Int, (x - y) * (x - y) = (y - x) * (y - x) := fun x y => by rw [← Int.neg_mul_neg]; congr 1 <;> omega
  have hd : distS a b = distS b a := by unfold distS dist2; rw [h0 a.X, h0 a.Y]
  unfold boundS
  rw [hd]
  by_cases h : a.ID = b.ID
  · rw [if_pos h, if_pos h.symm]
  · rw [if_neg h, if_neg (fun e => h e.symm)]
theorem boundM_comm (w : Wind) (l : List Station) (i j : Nat) : boundM w l i j = boundM w l j i := by
  unfold boundM
  by_cases h : i < l.length ∧ j < l.length
  · rw [if_pos h, if_pos ⟨h.2, h.1⟩, boundS_sym]
  · rw [if_neg h, if_neg (fun e => h ⟨e.2, e.1⟩)]
theorem tight_comm {w : Wind} {l : List Station} (h : windedE w l = 0) {i j : Nat} (hi : i < l.length) (hj : j < l.length) : tightM w l i j = tightM w l j i :=
  allS_comm (boundM_met h) (fun i j _ _ => boundM_comm w l i j) l.length (Nat.le_refl _) i j hi hj

/-! ### rounds -/
/-- ways of at most r further elements have raised -/
def SC (w : Wind) (l : List Station) (lo : Nat → Int) (r : Nat) (L : List Int) : Prop := ∀ i c, i < l.length → c < l.length → ∀ m, m ≤ r → reachS w l c m i = true → lo c - tightM w l i c ≤ gt L i
def SP (w : Wind) (l : List Station) (lo : Nat → Int) (r i k : Nat) (L : List Int) : Prop :=
  (∀ x, x < i → x < l.length → ∀ c, c < l.length → ∀ m, m ≤ r + 1 → reachS w l c m x = true → lo c - tightM w l x c ≤ gt L x) ∧
  (∀ y, y < k → y < l.length → ∀ c, c < l.length → edgeM w l c i y → ∀ m, m ≤ r → reachS w l c m y = true → lo c - tightM w l i c ≤ gt L i)
theorem SC.start {w : Wind} {l : List Station} {lo : Nat → Int} {L : List Int} (h : windedE w l = 0) (hL : SOk lo (tightM w l) l.length L) : SC w l lo 0 L := fun i c hi hc m hm hr => by
  have : m = 0 := by omega
  subst this
  have hic : i = c := (by unfold reachS at hr; simpa using hr)
  subst hic
  have := (hL.bd i hi).1
  rw [tight_zero h hi]; omega
theorem SP.zero {w : Wind} {l : List Station} {lo : Nat → Int} {r : Nat} {L : List Int} : SP w l lo r 0 0 L := ⟨fun _ hx => absurd hx (Nat.not_lt_zero _), fun _ hy => absurd hy (Nat.not_lt_zero _)⟩
theorem SP.row {w : Wind} {l : List Station} {lo : Nat → Int} {r i k : Nat} {L : List Int} (h : SP w l lo r i k L) (hc : SC w l lo r L) (hk : l.length ≤ k) : SP w l lo r (i + 1) 0 L := by
  refine ⟨fun x hx hxl c hcl m hm hr => ?_, fun _ hy => absurd hy (Nat.not_lt_zero _)⟩
  by_cases e : x = i
  · subst e
    cases m with
    | zero => exact hc x c hxl hcl 0 (Nat.zero_le _) hr
    | succ m =>
      unfold reachS at hr
      rw [List.any_eq_true] at hr
      obtain ⟨y, hy, h2⟩ := hr
      simp only [Bool.and_eq_true, decide_eq_true_eq] at h2
      have hyl := List.mem_range.1 hy
      exact h.2 y (by omega) hyl c hcl h2.1 m (by omega) h2.2
  · exact h.1 x (by omega) hxl c hcl m hm hr
theorem SP.fin {w : Wind} {l : List Station} {lo : Nat → Int} {r i : Nat} {L : List Int} (h : SP w l lo r i 0 L) (hi : l.length ≤ i) : SC w l lo (r + 1) L := fun x c hx hc m hm hr => h.1 x (by omega) hx c hc m hm hr
/-! ### rows of bounds -/
/-! ### whether levels can be at one time -/
theorem checkFrom_code (l : List Station) : ∀ n i, (checkFrom l n i).1 = 0 ∨ (checkFrom l n i).1 = 50 ∨ (checkFrom l n i).1 = 51
  | 0, _ => .inl rfl
  | n + 1, i => by
    rw [checkFrom]
    split
    · unfold badAt; split
      · exact .inr (.inl rfl)
      · split
        · exact .inr (.inr rfl)
        · exact .inl rfl
    · exact checkFrom_code l n (i + 1)
theorem levelsE_ne (w : Wind) (l : List Station) (week : Int) (list : List Int) : levelsE w l week list ≠ 3 := by
  have h1 : (checkS l).1 ≠ 3 := by
    unfold checkS; split
    · simp
    · rcases checkFrom_code l l.length 0 with h | h | h <;> omega
  have h2 := windE_or w
  unfold levelsE windedE
  (repeat' split) <;> omega
def keepsR (w : Wind) (l : List Station) (week : Int) (list : List Int) : Bool × Int := (decide (levelsE w l week list = 0 ∧ fitsS w l week list), levelsE w l week list)
theorem sideR_code (w : Wind) (l : List Station) (week : Int) (list : List Int) :
    ((sideR w l week list).2 = 3 ↔ levelsE w l week list = 0 ∧ ¬ fitsS w l week list) ∧ ((sideR w l week list).2 = 0 ↔ levelsE w l week list = 0 ∧ fitsS w l week list) ∧ (levelsE w l week list ≠ 0 → (sideR w l week list).2 = levelsE w l week list) := by
  have hn := levelsE_ne w l week list
  by_cases h : levelsE w l week list = 0
  · by_cases hf : fitsS w l week list
    · rw [sideR_yes h hf]; simp [h, hf]
    · rw [sideR_no h hf]; simp [h, hf]
  · rw [sideR_err h]; simp [h, hn]
theorem keeps_no {w : Wind} {l : List Station} {week : Int} {list : List Int} (h : (sideR w l week list).2 = 3) : keepsR w l week list = (false, 0) := by
  have := (sideR_code w l week list).1.1 h
  unfold keepsR; rw [decide_eq_false (fun hx => this.2 hx.2), this.1]
theorem keeps_yes {w : Wind} {l : List Station} {week : Int} {list : List Int} (h : (sideR w l week list).2 = 0) : keepsR w l week list = (true, 0) := by
  have := (sideR_code w l week list).2.1.1 h
  unfold keepsR; rw [decide_eq_true this, this.1]
theorem keeps_err {w : Wind} {l : List Station} {week : Int} {list : List Int} (h3 : (sideR w l week list).2 ≠ 3) (h0 : (sideR w l week list).2 ≠ 0) : keepsR w l week list = (false, (sideR w l week list).2) := by
  obtain ⟨h1, h2, h4⟩ := sideR_code w l week list
  have hne : levelsE w l week list ≠ 0 := fun h => by
    by_cases hf : fitsS w l week list
    · exact h0 (h2.2 ⟨h, hf⟩)
    · exact h3 (h1.2 ⟨h, hf⟩)
  unfold keepsR; rw [decide_eq_false (fun hx => hne hx.1), h4 hne]
theorem keeps_eq {w : Wind} {l : List Station} {week : Int} {list : List Int} (h3 : ¬ (sideR w l week list).2 = 3) : keepsR w l week list = (decide ((sideR w l week list).2 = 0), (sideR w l week list).2) := by
  by_cases h : (sideR w l week list).2 = 0
  · rw [keeps_yes h, h]; rfl
  · rw [keeps_err h3 h, decide_eq_false h]
end Go.Proofs.S5
