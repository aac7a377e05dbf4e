/- Stations: tight bounds, ways and pairs as the further laws say them, in plain Lean: no stations' code in sight. -/
import Derived.Test.YtcpecjgppbiplaaS5Mix
namespace Go.Proofs.S5
open Go Go.Kx

theorem oneE_of {s : Station} (hp : placedOk s) (hh : highOk s.Heights) : oneE s = 0 := by
  unfold oneE
  rw [checkS_ok (by simp)]
  intro j hj
  have hj0 : j = 0 := by simp at hj; omega
  subst hj0
  unfold badAt
  rw [if_neg, if_neg]
  · simpa [gt] using hh
  · simp only [gt, List.getD_cons_zero]
    intro h
    rcases h with h | h
    · exact h hp
    · exact absurd h.1 (Nat.lt_irrefl _)
section
variable {w : Wind} {l : List Station} (h : windedE w l = 0)
include h
theorem one_ok {i : Nat} (hi : i < l.length) : oneE (gt l i) = 0 := by
  have := checkS_placed (windedE_zero h).1 hi
  exact oneE_of this.1 this.2
omit h in
theorem boundM_eq {i k : Nat} (hi : i < l.length) (hk : k < l.length) : boundM w l i k = boundS w (gt l i) (gt l k) := if_pos ⟨hi, hk⟩
theorem diff_tight {s : Nat → Int} (hs : ∀ i k, i < l.length → k < l.length → s i - s k ≤ boundM w l i k) {i k : Nat} (hi : i < l.length) (hk : k < l.length) : s i - s k ≤ tightM w l i k := by
  obtain ⟨p, h1, h2, h3⟩ := allS_walk (boundM_met h) l.length (Nat.le_refl _) i k hi hk
  have key : ∀ (p : List Nat) (i : Nat), i < l.length → (∀ x ∈ p, x < l.length) → s i - s (wend i p) ≤ wlen (boundM w l) i p := by
    intro p
    induction p with
    | nil => intro i _ _; simp [wend, wlen]
    | cons k p ih =>
      intro i hi hp
      have h4 := ih k (hp k (List.mem_cons_self ..)) (fun x hx => hp x (List.mem_cons_of_mem _ hx))
      have h5 := hs i k hi (hp k (List.mem_cons_self ..))
      rw [wend, wlen]; omega
  have h6 := key p i hi h1
  rw [h2, h3] at h6
  exact h6
/-! ### sea levels of levels -/
omit h in
theorem keeps_iff {week : Int} {levels : List Int} (hlz : levelsE w l week levels = 0) : (keepsR w l week levels).1 = true ↔ fitsS w l week levels := by simp [keepsR, hlz]
/-! ### two by two -/
end
end Go.Proofs.S5
