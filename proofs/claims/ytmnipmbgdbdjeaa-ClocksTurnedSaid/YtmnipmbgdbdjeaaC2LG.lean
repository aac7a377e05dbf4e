import Derived.Test.YtmnipmbgdbdjeaaC2Aw
import Derived.Test.YtmnipmbgdbdjeaaC2LE
/- Clocks: what the statements lean on, in plain Lean. -/
namespace Go.Proofs.C2
open Go Go.Kx

theorem feas_no {d : Drum} {m : List Mark} (h : ¬ ((feasR d m).2 = 0 ∧ (feasR d m).1 = true)) : chkE d m ≠ 0 ∨ (chkE d m = 0 ∧ ¬ okD d m) := by
  by_cases h0 : chkE d m = 0
  · refine .inr ⟨h0, fun ho => h ?_⟩
    rw [feasR_ok h0]; exact ⟨rfl, decide_eq_true ho⟩
  · exact .inl h0
theorem feas_yes {d : Drum} {m : List Mark} (h1 : (feasR d m).2 = 0) (h2 : (feasR d m).1 = true) : Ok d m ∧ okD d m := by
  by_cases h0 : chkE d m = 0
  · rw [feasR_ok h0] at h2; exact ⟨Ok.of h0, of_decide_eq_true h2⟩
  · rw [feasR_err h0] at h1; exact absurd h1 h0
theorem feas_of {d : Drum} {m : List Mark} (h : Ok d m) : (feasR d m).2 = 0 ∧ ((feasR d m).1 = true ↔ okD d m) := by
  rw [feasR_ok h.e]; exact ⟨rfl, by simp⟩
theorem arg_nil (d : Drum) : argP d [] [] := ⟨fun i hi => absurd hi (Nat.not_lt_zero _), fun i hi => absurd hi (Nat.not_lt_zero _)⟩
theorem open_nil {d : Drum} {m : List Mark} (h : Ok d m) : openE d m [] [] = if okD d m then 0 else 22 := by
  by_cases ho : okD d m
  · rw [if_pos ho, openE_ok h.e (arg_nil d) ho]
  · rw [if_neg ho, openE_time h.e (arg_nil d) ho]
theorem keep_bad {d : Drum} {m : List Mark} (h : chkE d m ≠ 0 ∨ (chkE d m = 0 ∧ ¬ okD d m)) (l : List Int) : keepE d m l ≠ 0 := fun hk => by
  have hz := keepE_zero hk
  rcases h with h | h
  · exact h hz.1.e
  · exact h.2 (keep_ok hz.2)
theorem lat_no {d : Drum} {m : List Mark} (h : ¬ ((feasR d m).2 = 0 ∧ (feasR d m).1 = true)) : (earR d m).2 ≠ 0 ∧ (latR d m).2 = (earR d m).2 ∧ ∀ l, keepE d m l ≠ 0 := by
  have h1 := feas_no h
  have he : openE d m [] [] ≠ 0 := by
    rcases h1 with h1 | h1
    · rw [openE_bad h1]; exact h1
    · rw [open_nil (Ok.of h1.1), if_neg h1.2]; decide
  rw [earR_bad he, latR_bad he]
  exact ⟨he, rfl, keep_bad h1⟩
theorem lat_yes {d : Drum} {m : List Mark} (h1 : (feasR d m).2 = 0) (h2 : (feasR d m).1 = true) : (Ok d m ∧ okD d m) ∧ ((earR d m).2 = 0 ∧ (latR d m).2 = 0) ∧ (earR d m).1 = losL (setD d m) ∧ (latR d m).1 = hisL (setD d m) := by
  have h := feas_yes h1 h2
  have he : openE d m [] [] = 0 := by rw [open_nil h.1, if_pos h.2]
  rw [earR_ok he, latR_ok he]
  exact ⟨h, ⟨rfl, rfl⟩, rfl, rfl⟩
theorem lat_keep {d : Drum} {m : List Mark} (h1 : (feasR d m).2 = 0) (h2 : (feasR d m).1 = true) : (keepE d m (earR d m).1 = 0 ∧ keepE d m (latR d m).1 = 0) ∧ ∀ l, keepE d m l = 0 → aheadP (earR d m).1 l ∧ aheadP l (latR d m).1 := by
  obtain ⟨⟨hok, ho⟩, _, e1, e2⟩ := lat_yes h1 h2
  rw [e1, e2]
  refine ⟨⟨keepE_ok hok (los_keep hok.dr ho), keepE_ok hok (his_keep hok.dr ho)⟩, fun l hl => ?_⟩
  have hk := (keepE_zero hl).2
  have hll : (losL (setD d m)).length = d.Rates.length + 1 := by rw [losL_len, setD_len]
  have hhl : (hisL (setD d m)).length = d.Rates.length + 1 := by rw [hisL_len, setD_len]
  refine ⟨⟨by rw [hll]; exact hk.1.symm, fun i hi => ?_⟩, by rw [hhl]; exact hk.1, fun i hi => ?_⟩
  · rw [lo_at (by omega)]; exact (keep_in hk (by omega)).1
  · rw [hi_at (by rw [hk.1] at hi; omega)]; exact (keep_in hk (by rw [hk.1] at hi; omega)).2
theorem lat_ends {d : Drum} {m : List Mark} {a b : List Int} (ha : keepE d m a = 0) (hb : keepE d m b = 0) : a.length = b.length ∧ keepE d m (minL a b) = 0 ∧ keepE d m (maxL a b) = 0 := by
  have h1 := keepE_zero ha; have h2 := keepE_zero hb
  exact ⟨h1.2.1.trans h2.2.1.symm, keepE_ok h1.1 (keep_min h1.2 h2.2), keepE_ok h1.1 (keep_max h1.2 h2.2)⟩
theorem med_no {d : Drum} {m : List Mark} {a b c : List Int} (h : ¬ (keepE d m a = 0 ∧ keepE d m b = 0 ∧ keepE d m c = 0)) : (medR d m a b c).2 ≠ 0 ∧ (medR d m a b c).1.length = 0 := by
  by_cases h0 : chkE d m = 0
  · have hok := Ok.of h0
    rw [medR_no h0 (by
      rw [keepE_iff hok, keepE_iff hok, keepE_iff hok] at h
      by_cases ha : keepP d m a
      · by_cases hb : keepP d m b
        · exact .inr (.inr fun hc => h ⟨ha, hb, hc⟩)
        · exact .inr (.inl hb)
      · exact .inl ha)]
    exact ⟨by simp, rfl⟩
  · rw [medR_bad h0]; exact ⟨h0, rfl⟩
theorem med_yes {d : Drum} {m : List Mark} {a b c : List Int} (ha : keepE d m a = 0) (hb : keepE d m b = 0) (hc : keepE d m c = 0) : (medR d m a b c).2 = 0 ∧ (medR d m a b c).1 = medL a b c ∧ keepE d m (medL a b c) = 0 ∧ (a.length = b.length ∧ a.length = c.length) ∧
    ∀ i, i < a.length → (0 ≤ gt a i ∧ gt a i ≤ 400) ∧ (0 ≤ gt b i ∧ gt b i ≤ 400) ∧ 0 ≤ gt c i ∧ gt c i ≤ 400 := by
  have h1 := keepE_zero ha; have h2 := keepE_zero hb; have h3 := keepE_zero hc
  rw [medR_ok h1.1.e h1.2 h2.2 h3.2]
  have hl : ∀ {l}, keepP d m l → ∀ i, i < l.length → 0 ≤ gt l i ∧ gt l i ≤ 400 := fun {l} hk i hi => by
    have := ((atS_iff m i _).1 (hk.2.1 i (by rw [hk.1] at hi; exact hi))).1; omega
  exact ⟨rfl, rfl, keepE_ok h1.1 (keep_med h1.2 h2.2 h3.2), ⟨h1.2.1.trans h2.2.1.symm, h1.2.1.trans h3.2.1.symm⟩, fun i hi => ⟨hl h1.2 i hi, hl h2.2 i (by rw [h2.2.1, ← h1.2.1]; exact hi), hl h3.2 i (by rw [h3.2.1, ← h1.2.1]; exact hi)⟩⟩
theorem medL_at {a b c : List Int} {i : Nat} (h : i < a.length) : gt (medL a b c) i = max (min (gt a i) (gt b i)) (min (max (gt a i) (gt b i)) (gt c i)) := gt_map h
theorem medL_len (a b c : List Int) : (medL a b c).length = a.length := map_len _ _
theorem minL_len (a b : List Int) : (minL a b).length = a.length := map_len _ _
theorem maxL_len (a b : List Int) : (maxL a b).length = a.length := map_len _ _
end Go.Proofs.C2
