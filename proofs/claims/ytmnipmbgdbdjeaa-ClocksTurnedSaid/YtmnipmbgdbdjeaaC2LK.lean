import Derived.Test.YtmnipmbgdbdjeaaC2LI
/- Clocks: what the statements lean on, fourth part; in plain Lean. -/
namespace Go.Proofs.C2
open Go Go.Kx

/-! ### exact -/
theorem ex_sym (d : Drum) (m : List Mark) (a b : Int) : (betR d m b a).2 = (betR d m a b).2 := by
  have he : openE d m [b, a] [] = openE d m [a, b] [] := by
    unfold openE
    have : argP d [b, a] [] ↔ argP d [a, b] [] := by rw [arg_two, arg_two]; exact and_comm
    by_cases h : argP d [a, b] []
    · simp [h, this.2 h]
    · have h2 : ¬ argP d [b, a] [] := fun h3 => h (this.1 h3)
      simp [h, h2]
  by_cases h : openE d m [a, b] [] = 0
  · rw [betR_ok h, betR_ok (he.trans h)]
  · rw [betR_bad h, betR_bad (fun h2 => h (he.symm.trans h2)), he]
theorem ex_zero {d : Drum} {m : List Mark} {a b : Int} (h : (betR d m a b).2 = 0) :
    ((betR d m b a).2 = 0 ∧ (spanR d m a).2 = 0) ∧ ((betR d m b a).1.Lo = -(betR d m a b).1.Hi ∧ (betR d m b a).1.Hi = -(betR d m a b).1.Lo) ∧
    (betR d m a b).1.Lo ≤ (betR d m a b).1.Hi ∧ ((-400 ≤ (betR d m a b).1.Lo ∧ (betR d m a b).1.Lo ≤ 400) ∧ -400 ≤ (betR d m a b).1.Hi ∧ (betR d m a b).1.Hi ≤ 400) ∧ (a = b → (betR d m a b).1 = ⟨0, 0⟩) := by
  have h1 := betR_zero h
  have h2 : (betR d m b a).2 = 0 := by rw [ex_sym]; exact h
  have ho := bet_order h1.1.dr h1.2.1 (a := a.toNat) (b := b.toNat) (by omega) (by omega)
  refine ⟨⟨h2, span_iff.2 ⟨h1.1, h1.2.2.1, h1.2.1⟩⟩, ?_, ?_, h1.2.2.2.2.2, fun e => ?_⟩
  · rw [bet_val h, bet_val h2]; exact ⟨rfl, (Int.neg_neg _).symm⟩
  · rw [h1.2.2.2.2.1]; exact ho
  · subst e
    rw [bet_val h, mosD_self h1.1.dr h1.2.1 (by omega)]; rfl
theorem ex_can {x : Clk} {a b : Int} (h : (betR x.D x.M a b).2 = 0) (hl : x.M.length ≤ 20) {t u : Int} (ht : 0 ≤ t ∧ t ≤ 400) (hu : 0 ≤ u ∧ u ≤ 400) :
    canR x [⟨a, ⟨t, t⟩⟩, ⟨b, ⟨u, u⟩⟩] = true ↔ ∃ y, RdD x.D x.M y ∧ y a.toNat = t ∧ y b.toNat = u := by
  have h1 := betR_zero h
  rw [can_iff, ok_ex h1.1.dr]
  have hc : colsOk x.D [⟨a, ⟨t, t⟩⟩, ⟨b, ⟨u, u⟩⟩] := fun y hy => by
    simp only [List.mem_cons, List.not_mem_nil, or_false] at hy
    rcases hy with rfl | rfl
    · exact h1.2.2.1
    · exact h1.2.2.2.1
  have hy : ∀ y : Nat → Int, RdD x.D (x.M ++ [⟨a, ⟨t, t⟩⟩, ⟨b, ⟨u, u⟩⟩]) y ↔ RdD x.D x.M y ∧ y a.toNat = t ∧ y b.toNat = u := fun y => by
    rw [rd_app h1.1.cols hc]
    refine and_congr_right fun _ => ⟨fun h2 => ?_, fun h2 z hz => ?_⟩
    · have h3 := h2 ⟨a, ⟨t, t⟩⟩ (by simp); have h4 := h2 ⟨b, ⟨u, u⟩⟩ (by simp)
      (try dsimp only at h3 h4); omega
    · simp only [List.mem_cons, List.not_mem_nil, or_false] at hz
      rcases hz with rfl | rfl <;> (try dsimp only) <;> omega
  constructor
  · rintro ⟨_, y, h2⟩; exact ⟨y, (hy y).1 h2⟩
  · rintro ⟨y, h2⟩
    refine ⟨ok_app h1.1 (fun z hz => ?_) (by simp; omega), y, (hy y).2 h2⟩
    simp only [List.mem_cons, List.not_mem_nil, or_false] at hz
    rcases hz with rfl | rfl <;> unfold spOk <;> (try dsimp only) <;> omega
theorem ex_in {x : Clk} {a b : Int} (h : (betR x.D x.M a b).2 = 0) (hl : x.M.length ≤ 20) {t n : Int} (ht : 0 ≤ t ∧ t ≤ 400) (hu : 0 ≤ t + n ∧ t + n ≤ 400) (hc : canR x [⟨a, ⟨t, t⟩⟩, ⟨b, ⟨t + n, t + n⟩⟩] = true) : (betR x.D x.M a b).1.Lo ≤ n ∧ n ≤ (betR x.D x.M a b).1.Hi := by
  have h1 := betR_zero h
  obtain ⟨y, hy, e1, e2⟩ := (ex_can h hl ht hu).1 hc
  have := (bet_iff h1.1.dr h1.2.1 (a := a.toNat) (b := b.toNat) (by omega) (by omega) (n := n)).1 ⟨y, hy, by omega⟩
  rw [h1.2.2.2.2.1]; exact this
theorem ex_out {x : Clk} {a b : Int} (h : (betR x.D x.M a b).2 = 0) (hl : x.M.length ≤ 20) {n : Int}
    (hall : ∀ t, (spanR x.D x.M a).1.Lo ≤ t → t ≤ (spanR x.D x.M a).1.Hi → ¬ ((0 ≤ t + n ∧ t + n ≤ 400) ∧ canR x [⟨a, ⟨t, t⟩⟩, ⟨b, ⟨t + n, t + n⟩⟩] = true)) : ¬ ((betR x.D x.M a b).1.Lo ≤ n ∧ n ≤ (betR x.D x.M a b).1.Hi) := by
  have h1 := betR_zero h
  intro hn
  rw [h1.2.2.2.2.1] at hn
  obtain ⟨y, hy, he⟩ := (bet_iff h1.1.dr h1.2.1 (a := a.toNat) (b := b.toNat) (by omega) (by omega) (n := n)).2 hn
  have h2 := hy.st (i := a.toNat) (by omega); have h3 := hy.st (i := b.toNat) (by omega)
  have b2 := stD_bd h1.1 h1.2.1 (i := a.toNat) (by omega); have b3 := stD_bd h1.1 h1.2.1 (i := b.toNat) (by omega)
  have hv := span_val (ex_zero h).1.2
  unfold stD at b2 b3 hv
  refine hall (y a.toNat) (by rw [hv]; exact h2.1) (by rw [hv]; exact h2.2) ⟨by omega, (ex_can h hl (by omega) (by omega)).2 ⟨y, hy, rfl, by omega⟩⟩
theorem ex_tri {d : Drum} {m : List Mark} {a b c : Int} (h : (betR d m a b).2 = 0) (h1 : (betR d m a c).2 = 0) (h2 : (betR d m c b).2 = 0) :
    (betR d m a c).1.Lo + (betR d m c b).1.Lo ≤ (betR d m a b).1.Lo ∧ (betR d m a b).1.Hi ≤ (betR d m a c).1.Hi + (betR d m c b).1.Hi := by
  have z := bet_iff0.1 h; have z1 := bet_iff0.1 h1; have z2 := bet_iff0.1 h2
  rw [bet_val h, bet_val h1, bet_val h2]
  have t1 := mosD_tri z.1.dr z.2.2 (a := a.toNat) (b := b.toNat) (c := c.toNat) (by omega) (by omega) (by omega)
  have t2 := mosD_tri z.1.dr z.2.2 (a := b.toNat) (b := a.toNat) (c := c.toNat) (by omega) (by omega) (by omega)
  (try dsimp only); omega
end Go.Proofs.C2
