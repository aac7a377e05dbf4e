import Derived.Test.YtmnipmbgdbdjeaaC2LH
/- Clocks: what the statements lean on, third part; in plain Lean. -/
namespace Go.Proofs.C2
open Go Go.Kx

/-! ### columns -/
theorem at_no {d : Drum} {m : List Mark} {t : Int} (h : (atR d m t).2 ≠ 0) : (atR d m t).1 = ⟨0, 0⟩ := by
  by_cases h1 : openE d m [] [t] = 0
  · rw [atR_ok h1] at h; exact absurd rfl h
  · rw [atR_bad h1]
theorem col_can {x : Clk} {t : Int} (h : (atR x.D x.M t).2 = 0) (hl : x.M.length ≤ 20) {k : Int} (hk : -1 ≤ k ∧ k ≤ (x.D.Rates.length : Int)) :
    ((k < (x.D.Rates.length : Int) → t < 400) → (canR x (colM x.D.Rates.length k t) = true ↔ (atR x.D x.M t).1.Lo ≤ k ∧ k ≤ (atR x.D x.M t).1.Hi)) ∧
    (k < (x.D.Rates.length : Int) → 400 ≤ t → ¬ ((atR x.D x.M t).1.Lo ≤ k ∧ k ≤ (atR x.D x.M t).1.Hi)) := by
  have h1 := at_iff.1 h
  rw [at_val h]
  (try dsimp only)
  have hc := col_iff h1.1.dr h1.1.cols h1.2.2 (t := t) hk
  rw [← hc, can_iff]
  refine ⟨fun hm => ⟨fun h2 => h2.2, fun h2 => ⟨ok_app h1.1 (fun y hy => ?_) ?_, h2⟩⟩, fun hn ht ho => ?_⟩
  · unfold colM at hy
    rcases List.mem_append.1 hy with h' | h'
    · split at h'
      · rw [List.mem_singleton.1 h']; unfold spOk; (try dsimp only); omega
      · exact absurd h' (List.not_mem_nil)
    · split at h'
      · rw [List.mem_singleton.1 h']; unfold spOk; have := hm (by assumption); (try dsimp only); omega
      · exact absurd h' (List.not_mem_nil)
  · have h3 : (colM x.D.Rates.length k t).length ≤ 2 := by unfold colM; rw [List.length_append]; split <;> split <;> simp
    omega
  · obtain ⟨y, hy⟩ := (ok_ex h1.1.dr).1 ho
    have h2 := (col_rd h1.1.cols hk).1 hy
    have h3 := h2.2.2 hn
    have h4 := ((atS_iff x.M (k + 1).toNat _).1 (h2.1.1 (k + 1).toNat (by omega))).1
    omega
theorem colM_len (n : Nat) (k t : Int) : (colM n k t).length ≤ 2 := by
  unfold colM; rw [List.length_append]
  by_cases h : 0 ≤ k <;> by_cases h2 : k < (n : Int) <;> simp [h, h2]
theorem col_a {n : Nat} {k t : Int} (h : ¬ 0 ≤ k) (h1 : k < (n : Int)) : colM n k t = [⟨k + 1, ⟨t + 1, 400⟩⟩] := by unfold colM; rw [if_neg h, if_pos h1]; rfl
theorem col_b {n : Nat} {k t : Int} (h : 0 ≤ k) (h1 : k < (n : Int)) : colM n k t = [⟨k, ⟨0, t⟩⟩, ⟨k + 1, ⟨t + 1, 400⟩⟩] := by unfold colM; rw [if_pos h, if_pos h1]; rfl
theorem col_c {n : Nat} {k t : Int} (h : 0 ≤ k) (h1 : ¬ k < (n : Int)) : colM n k t = [⟨k, ⟨0, t⟩⟩] := by unfold colM; rw [if_pos h, if_neg h1]; rfl
theorem col_next {d : Drum} {m : List Mark} {t u : Int} (h : (atR d m t).2 = 0) (hu : (atR d m u).2 = 0) (hle : t ≤ u) : (atR d m t).1.Lo ≤ (atR d m u).1.Lo ∧ (atR d m t).1.Hi ≤ (atR d m u).1.Hi := by
  have h1 := at_iff.1 h
  rw [at_val h, at_val hu]
  exact ⟨pas_tick (his_up h1.1.dr h1.2.2) hle, pas_tick (los_up h1.1.dr h1.2.2) hle⟩

/-! ### runs -/
theorem run_ok {d : Drum} {m : List Mark} (h : (spanR d m 0).2 = 0) {t : Nat} (ht : t ≤ 400) : (((runR d m t).2 = 0 ↔ (spanR d m 0).1.Lo ≤ (t : Int) ∧ (t : Int) ≤ (spanR d m 0).1.Hi) ∧ ((runR d m t).2 = 0 ∨ (runR d m t).2 = 3)) ∧
    ((runR d m t).2 = 0 → ((runR d m t).1.length = d.Rates.length + 1 ∧ gt (runR d m t).1 0 = ⟨t, t⟩) ∧ ∀ a : Int, runN d m a.toNat (t + 1) = ⟨min (runN d m a.toNat t).Lo (gt (runR d m t).1 a.toNat).Lo, max (runN d m a.toNat t).Hi (gt (runR d m t).1 a.toNat).Hi⟩) ∧
    ((runR d m t).2 ≠ 0 → ∀ a : Int, runN d m a.toNat (t + 1) = runN d m a.toNat t) := by
  have h1 := span_iff.1 h
  have ho : openE d m [] [(t : Int)] = 0 := open_iff.2 ⟨h1.1, arg_tick.2 (by omega), h1.2.2⟩
  have hw := wi_ok (d := d) (m := m) h1.1.dr (k := 0) (by omega) (t := (t : Int))
  rw [span_val h]
  have e0 : (0 : Int).toNat = 0 := rfl
  rw [e0]
  by_cases hc : okC (wiC d m 0 t)
  · have hr : runR d m t = (setL (wiC d m 0 t), 0) := runR_ok ho hc
    rw [hr]
    have hl : (setL (wiC d m 0 t)).length = d.Rates.length + 1 := by rw [setL_len]; exact congrArg (· + 1) (gapL_len d)
    refine ⟨⟨⟨fun _ => (hw.1 hc).2, fun _ => rfl⟩, .inl rfl⟩, fun _ => ⟨⟨hl, ?_⟩, fun a => by rw [runN, if_pos hc]⟩, fun hn => absurd rfl hn⟩
    have h2 := (wi_lo h1.1.dr (Nat.zero_le _) hc).2.1; have h3 := (wi_hi h1.1.dr (Nat.zero_le _) hc).2.1
    rw [losL_at (by omega)] at h2; rw [hisL_at (by omega)] at h3
    exact span_eq h2 h3
  · have hr : runR d m t = ([], 3) := runR_no ho hc
    rw [hr]
    exact ⟨⟨⟨fun h2 => (by cases h2), fun h2 => absurd (hw.2 ⟨h1.2.2, h2⟩) hc⟩, .inr rfl⟩, fun h2 => (by cases h2), fun _ a => by rw [runN, if_neg hc]⟩
theorem run_end {d : Drum} {m : List Mark} {a : Int} (h : (spanR d m a).2 = 0) : runN d m a.toNat 401 = (spanR d m a).1 := by
  have h1 := span_iff.1 h
  rw [span_val h]; exact run_all h1.1 h1.2.2 (by omega)
theorem run_bd {d : Drum} {m : List Mark} {a : Int} (h : (spanR d m a).2 = 0) (n : Nat) : (-1 ≤ (runN d m a.toNat n).Lo ∧ (runN d m a.toNat n).Lo ≤ 401) ∧ -1 ≤ (runN d m a.toNat n).Hi ∧ (runN d m a.toNat n).Hi ≤ 401 := by
  have h1 := span_iff.1 h
  induction n with
  | zero => simp only [runN]; omega
  | succ n ih =>
    rw [runN]; split
    · rename_i ho
      have hl : (setL (wiC d m 0 n)).length = d.Rates.length + 1 := by rw [setL_len]; exact congrArg (· + 1) (gapL_len d)
      have h2 := (wi_lo h1.1.dr (Nat.zero_le _) ho).1.1 a.toNat (by omega); have h3 := (wi_hi h1.1.dr (Nat.zero_le _) ho).1.1 a.toNat (by omega)
      rw [losL_at (by omega)] at h2; rw [hisL_at (by omega)] at h3
      have h4 := atS_bd h1.1 a.toNat
      (try dsimp only); omega
    · exact ih

/-! ### rates -/
theorem drf_no {d : Drum} {m : List Mark} {a b : Int} (h : (drfR d m a b).2.2 ≠ 0) : (drfR d m a b).1 = ⟨0, 0⟩ ∧ (drfR d m a b).2.1 = ⟨0, 0⟩ := by
  unfold drfR at h ⊢
  split
  · exact ⟨rfl, rfl⟩
  · split
    · exact ⟨rfl, rfl⟩
    · split
      · exact ⟨rfl, rfl⟩
      · rename_i h1 h2 h3; rw [if_neg h1, if_neg h2, if_neg h3] at h; exact absurd rfl h
theorem drf_yes {d : Drum} {m : List Mark} {a b : Int} (h : (drfR d m a b).2.2 = 0) : ((betR d m a b).2 = 0 ∧ a < b) ∧ (drfR d m a b).1 = lowR (betR d m a b).1.Lo (b - a) ∧ (drfR d m a b).2.1 = lowR (betR d m a b).1.Hi (b - a) := by
  unfold drfR at h ⊢
  split
  · rename_i h1; rw [if_pos h1] at h; exact absurd h h1
  · rename_i h1
    rw [if_neg h1] at h
    split
    · rename_i h2; rw [if_pos h2] at h; cases h
    · rename_i h2
      rw [if_neg h2] at h
      split
      · rename_i h3; rw [if_pos h3] at h; exact absurd h h3
      · rename_i h3; exact ⟨⟨Decidable.of_not_not h3, by omega⟩, rfl, rfl⟩
theorem mul_bd {a b A B : Int} (ha : -A ≤ a ∧ a ≤ A) (hb : 0 ≤ b ∧ b ≤ B) : -(A * B) ≤ a * b ∧ a * b ≤ A * B := by
  have h0 : 0 ≤ A := by omega
  have h1 : a * b ≤ A * b := Int.mul_le_mul_of_nonneg_right ha.2 hb.1
  have h2 : -A * b ≤ a * b := Int.mul_le_mul_of_nonneg_right ha.1 hb.1
  have h3 : A * b ≤ A * B := Int.mul_le_mul_of_nonneg_left hb.2 h0
  rw [Int.neg_mul] at h2
  omega
theorem rates_gap {d : Drum} (hd : drumP d) {a i : Int} {k : Nat} (hi : i = a + k) (ha : 0 ≤ a) (h : i < (d.Rates.length : Int)) : (gapR d i).1 = gapS d (a.toNat + k) ∧ (gapR d i).2 = 0 := by
  subst hi
  have e : gapR d (a + k) = (gapS d (a + k).toNat, 0) := by rw [gapR, if_neg (by rw [drumE_ok hd]; omega), if_pos (by omega)]
  rw [e, show (a + (k : Int)).toNat = a.toNat + k by omega]; exact ⟨rfl, rfl⟩
/-- all that the last lines of the statement of rates ask for -/
theorem rates_end {d : Drum} {m : List Mark} {a b : Int} {n : Nat} (h : (drfR d m a b).2.2 = 0) (hn : (n : Int) = b - a) :
    ((sgN d a.toNat n).Lo ≤ (betR d m a b).1.Lo ∧ (betR d m a b).1.Hi ≤ (sgN d a.toNat n).Hi) ∧
    ((drfR d m a b).1.Num * (b - a) = (betR d m a b).1.Lo * (drfR d m a b).1.Den ∧ (drfR d m a b).2.1.Num * (b - a) = (betR d m a b).1.Hi * (drfR d m a b).2.1.Den) ∧
    (lgN d a.toNat n * (drfR d m a b).1.Den ≤ (drfR d m a b).1.Num ∧ (drfR d m a b).2.1.Num ≤ mgN d a.toNat n * (drfR d m a b).2.1.Den) ∧
    ((-80000 ≤ (drfR d m a b).1.Num * (b - a) ∧ (drfR d m a b).1.Num * (b - a) ≤ 80000) ∧ -80000 ≤ (drfR d m a b).2.1.Num * (b - a) ∧ (drfR d m a b).2.1.Num * (b - a) ≤ 80000) ∧
    ((-3000000 ≤ lgN d a.toNat n * (drfR d m a b).1.Den ∧ lgN d a.toNat n * (drfR d m a b).1.Den ≤ 3000000) ∧ -3000000 ≤ mgN d a.toNat n * (drfR d m a b).2.1.Den ∧ mgN d a.toNat n * (drfR d m a b).2.1.Den ≤ 3000000) := by
  obtain ⟨⟨hb, hab⟩, e1, e2⟩ := drf_yes h
  have h1 := betR_zero hb
  have hd : 0 < b - a := by omega
  have hs := bet_sum h1.1.dr h1.2.1 (a := a.toNat) (n := n) (by omega)
  rw [show a.toNat + n = b.toNat by omega, ← h1.2.2.2.2.1] at hs
  have hbd := h1.2.2.2.2.2
  have hlg := lg_bd h1.1.dr a.toNat n (by omega)
  have hmg := mg_bd h1.1.dr a.toNat n (by omega)
  have hls := lg_sum d a.toNat n (by omega)
  have hms := mg_sum d a.toNat n
  rw [hn] at hls hms
  have hr := h1.1.dr.1.1.2
  have b1 := low_bd (a := (betR d m a b).1.Lo) (M := 400) hd (by omega) (by omega)
  have b2 := low_bd (a := (betR d m a b).1.Hi) (M := 400) hd (by omega) (by omega)
  have c1 := low_cross (a := (betR d m a b).1.Lo) hd
  have c2 := low_cross (a := (betR d m a b).1.Hi) hd
  have g1 := lowR_ge (a := (betR d m a b).1.Lo) (k := lgN d a.toNat n) hd (by omega)
  have g2 := lowR_le (a := (betR d m a b).1.Hi) (k := mgN d a.toNat n) hd (by omega)
  rw [← e1] at b1 c1 g1
  rw [← e2] at b2 c2 g2
  have p1 := mul_bd (a := (drfR d m a b).1.Num) (b := b - a) (A := 400) (B := 200) (by omega) (by omega)
  have p2 := mul_bd (a := (drfR d m a b).2.1.Num) (b := b - a) (A := 400) (B := 200) (by omega) (by omega)
  have hl3 := hlg.2.2 (by omega)
  have p3 := mul_bd (a := lgN d a.toNat n) (b := (drfR d m a b).1.Den) (A := 6440) (B := 400) (by omega) (by omega)
  have p4 := mul_bd (a := mgN d a.toNat n) (b := (drfR d m a b).2.1.Den) (A := 6440) (B := 400) (by omega) (by omega)
  have p5 := mul_bd (a := (betR d m a b).1.Lo) (b := (drfR d m a b).1.Den) (A := 400) (B := 400) (by omega) (by omega)
  have p6 := mul_bd (a := (betR d m a b).1.Hi) (b := (drfR d m a b).2.1.Den) (A := 400) (B := 400) (by omega) (by omega)
  exact ⟨hs, ⟨c1, c2⟩, ⟨g1, g2⟩, ⟨by omega, by omega⟩, by omega, by omega⟩
end Go.Proofs.C2
