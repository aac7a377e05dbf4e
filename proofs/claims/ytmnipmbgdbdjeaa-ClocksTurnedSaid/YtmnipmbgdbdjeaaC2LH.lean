import Derived.Test.YtmnipmbgdbdjeaaC2LG
import Derived.Test.YtmnipmbgdbdjeaaC2LF
/- Clocks: what the statements lean on, second part; in plain Lean. -/
namespace Go.Proofs.C2
open Go Go.Kx

theorem arg_one {d : Drum} {c : Int} : argP d [c] [] ↔ 0 ≤ c ∧ c ≤ (d.Rates.length : Int) := by
  constructor
  · intro h; exact Decidable.of_not_not (h.1 0 (by simp))
  · intro h; exact ⟨fun i hi => by obtain rfl : i = 0 := by simpa using hi
                                   exact fun hn => hn h, fun i hi => absurd hi (Nat.not_lt_zero _)⟩
theorem arg_two {d : Drum} {a b : Int} : argP d [a, b] [] ↔ (0 ≤ a ∧ a ≤ (d.Rates.length : Int)) ∧ 0 ≤ b ∧ b ≤ (d.Rates.length : Int) := by
  constructor
  · intro h; exact ⟨Decidable.of_not_not (h.1 0 (by simp)), Decidable.of_not_not (h.1 1 (by simp))⟩
  · intro h
    refine ⟨fun i hi => ?_, fun i hi => absurd hi (Nat.not_lt_zero _)⟩
    rcases (show i = 0 ∨ i = 1 by simp at hi; omega) with rfl | rfl
    · exact fun hn => hn h.1
    · exact fun hn => hn h.2
theorem arg_tick {d : Drum} {t : Int} : argP d [] [t] ↔ 0 ≤ t ∧ t ≤ 400 := by
  constructor
  · intro h; exact Decidable.of_not_not (h.2 0 (by simp))
  · intro h; exact ⟨fun i hi => absurd hi (Nat.not_lt_zero _), fun i hi => by obtain rfl : i = 0 := by simpa using hi
                                                                              exact fun hn => hn h⟩
theorem arg_both {d : Drum} {c t : Int} : argP d [c] [t] ↔ (0 ≤ c ∧ c ≤ (d.Rates.length : Int)) ∧ 0 ≤ t ∧ t ≤ 400 := by
  constructor
  · intro h; exact ⟨Decidable.of_not_not (h.1 0 (by simp)), Decidable.of_not_not (h.2 0 (by simp))⟩
  · intro h; exact ⟨fun i hi => by obtain rfl : i = 0 := by simpa using hi
                                   exact fun hn => hn h.1, fun i hi => by obtain rfl : i = 0 := by simpa using hi
                                                                          exact fun hn => hn h.2⟩
theorem open_iff {d : Drum} {m : List Mark} {cs ts : List Int} : openE d m cs ts = 0 ↔ Ok d m ∧ argP d cs ts ∧ okD d m := ⟨openE_zero, fun h => openE_ok h.1.e h.2.1 h.2.2⟩
theorem span_iff {d : Drum} {m : List Mark} {a : Int} : (spanR d m a).2 = 0 ↔ Ok d m ∧ (0 ≤ a ∧ a ≤ (d.Rates.length : Int)) ∧ okD d m := by
  rw [← arg_one, ← open_iff]
  by_cases h : openE d m [a] [] = 0
  · rw [spanR_ok h]; exact ⟨fun _ => h, fun _ => rfl⟩
  · rw [spanR_bad h]
theorem span_val {d : Drum} {m : List Mark} {a : Int} (h : (spanR d m a).2 = 0) : (spanR d m a).1 = stD d m a.toNat := by
  have h1 := span_iff.1 h
  rw [spanR_ok (open_iff.2 ⟨h1.1, arg_one.2 h1.2.1, h1.2.2⟩)]
  exact setD_at (by omega)
theorem span_bd {d : Drum} {m : List Mark} {a : Int} (h : (spanR d m a).2 = 0) : (0 ≤ (spanR d m a).1.Lo ∧ (spanR d m a).1.Lo ≤ (spanR d m a).1.Hi) ∧ (spanR d m a).1.Hi ≤ 400 := by
  have h1 := span_iff.1 h
  rw [span_val h]; exact stD_bd h1.1 h1.2.2 (by omega)
theorem with_iff {d : Drum} {m : List Mark} {a t : Int} : (withR d m a t).2 = 0 ↔ (Ok d m ∧ (0 ≤ a ∧ a ≤ (d.Rates.length : Int)) ∧ okD d m) ∧ (0 ≤ t ∧ t ≤ 400) ∧ (stD d m a.toNat).Lo ≤ t ∧ t ≤ (stD d m a.toNat).Hi := by
  by_cases h : openE d m [a] [t] = 0
  · have h1 := open_iff.1 h
    have h2 := arg_both.1 h1.2.1
    have hw := wi_ok (d := d) (m := m) h1.1.dr (k := a.toNat) (by omega) (t := t)
    by_cases ho : okC (wiC d m a.toNat t)
    · rw [withR_ok h ho]; exact ⟨fun _ => ⟨⟨h1.1, h2.1, h1.2.2⟩, h2.2, (hw.1 ho).2⟩, fun _ => rfl⟩
    · rw [withR_no h ho]
      exact ⟨fun h3 => (by cases h3), fun h3 => absurd (hw.2 ⟨h3.1.2.2, h3.2.2⟩) ho⟩
  · rw [withR_bad h]
    exact ⟨fun h3 => absurd h3 h, fun h3 => absurd (open_iff.2 ⟨h3.1.1, arg_both.2 ⟨h3.1.2.1, h3.2.1⟩, h3.1.2.2⟩) h⟩
theorem with_val {d : Drum} {m : List Mark} {a t : Int} (h : (withR d m a t).2 = 0) : okC (wiC d m a.toNat t) ∧ (withR d m a t).1 = losL (setL (wiC d m a.toNat t)) := by
  have h1 := with_iff.1 h
  have ho := (wi_ok (d := d) (m := m) h1.1.1.dr (k := a.toNat) (by omega) (t := t)).2 ⟨h1.1.2.2, h1.2.2⟩
  refine ⟨ho, ?_⟩
  rw [withR_ok (open_iff.2 ⟨h1.1.1, arg_both.2 ⟨h1.1.2.1, h1.2.1⟩, h1.1.2.2⟩) ho]; rfl
theorem feas_iff {d : Drum} {m : List Mark} : ((feasR d m).2 = 0 ∧ (feasR d m).1 = true) ↔ Ok d m ∧ okD d m := ⟨fun h => feas_yes h.1 h.2, fun h => ⟨(feas_of h.1).1, (feas_of h.1).2.2 h.2⟩⟩
theorem can_iff {x : Clk} {p : List Mark} : canR x p = true ↔ Ok x.D (x.M ++ p) ∧ okD x.D (x.M ++ p) := by
  rw [← feas_iff]; unfold canR; simp
theorem ok_app {d : Drum} {m p : List Mark} (h : Ok d m) (hp : ∀ y, y ∈ p → (0 ≤ y.Column ∧ y.Column ≤ (d.Rates.length : Int)) ∧ spOk y.Ticks 0 400) (hl : m.length + p.length ≤ 64) : Ok d (m ++ p) := by
  refine ⟨h.dr, by rw [List.length_append]; exact hl, fun j hj hb => ?_⟩
  have hx := gt_mem hj
  rcases List.mem_append.1 hx with h1 | h1
  · obtain ⟨i, hi, he⟩ := mem_gt h1
    exact h.ma i hi (by unfold markB at hb ⊢; rw [he]; exact hb)
  · exact hb (hp _ h1)
/-! ### ticks -/
theorem ticks_bad {d : Drum} {m : List Mark} {a t : Int} (h : (spanR d m a).2 ≠ 0) : (withR d m a t).2 ≠ 0 := fun hw => h (span_iff.2 (with_iff.1 hw).1)
theorem ticks_in {d : Drum} {m : List Mark} {a t : Int} (h : (spanR d m a).2 = 0) : (withR d m a t).2 = 0 ↔ (spanR d m a).1.Lo ≤ t ∧ t ≤ (spanR d m a).1.Hi := by
  have hb := span_bd h
  rw [with_iff]
  rw [span_val h] at hb ⊢
  exact ⟨fun h1 => h1.2.2, fun h1 => ⟨span_iff.1 h, by omega, h1⟩⟩
theorem ticks_can {x : Clk} {a t : Int} (h : (spanR x.D x.M a).2 = 0) (hl : x.M.length ≤ 20) : (withR x.D x.M a t).2 = 0 ↔ canR x [⟨a, ⟨t, t⟩⟩] = true := by
  have h1 := span_iff.1 h
  have e : (⟨a, ⟨t, t⟩⟩ : Mark) = oneM a.toNat t := by unfold oneM; rw [show ((a.toNat : Nat) : Int) = a by omega]
  have h2 := ok_one h1.1.dr h1.1.cols (k := a.toNat) (by omega) (t := t)
  rw [can_iff, with_iff, e, h2]
  constructor
  · intro h3
    refine ⟨ok_app h1.1 (fun y hy => ?_) (by simp; omega), h3.1.2.2, h3.2.2⟩
    rw [List.mem_singleton.1 hy]; unfold oneM spOk; (try dsimp only); omega
  · intro h3
    have hb := stD_bd h1.1 h1.2.2 (i := a.toNat) (by omega)
    exact ⟨h1, by omega, h3.2.2⟩
theorem ticks_keep {d : Drum} {m : List Mark} {a t : Int} (h : (withR d m a t).2 = 0) : keepE d m (withR d m a t).1 = 0 ∧ (0 ≤ a ∧ a < ((withR d m a t).1.length : Int)) ∧ gt (withR d m a t).1 a.toNat = t := by
  have h1 := with_iff.1 h; have h2 := with_val h
  rw [h2.2]
  have h3 := wi_keep h1.1.1.dr (by omega) h2.1
  have hl := h3.1.1
  exact ⟨keepE_ok h1.1.1 h3.1, by omega, h3.2⟩
theorem ticks_later {d : Drum} {m : List Mark} {a t u : Int} (h : (withR d m a t).2 = 0) (hu : (withR d m a u).2 = 0) (hle : t ≤ u) : aheadP (withR d m a t).1 (withR d m a u).1 := by
  have h1 := with_iff.1 h; have h2 := with_val h; have h4 := with_val hu
  have l1 := (wi_lo h1.1.1.dr (by omega) h2.1).2.2
  have l2 := (wi_lo h1.1.1.dr (by omega) h4.1).2.2
  rw [h2.2, h4.2]
  exact ⟨by omega, fun i hi => wi_later h1.1.1.dr (by omega) h2.1 h4.1 hle (by omega)⟩
theorem ticks_wr {d : Drum} {m : List Mark} {a t : Int} (h : (withR d m a t).2 = 0) (hu : (withR d m a (wr (t + 1))).2 = 0) : aheadP (withR d m a t).1 (withR d m a (wr (t + 1))).1 := by
  have h1 := with_iff.1 h
  exact ticks_later h hu (by rw [wr_in (by omega) (by omega)]; omega)

/-! ### stops -/
theorem win_ok {d : Drum} {m : List Mark} {s : Stop} (h : Ok d m) (hw : drumP (winD d s)) : Ok (winD d s) m := ⟨hw, h.n, h.ma⟩
theorem stop_keep {d : Drum} {m : List Mark} {s : Stop} (h : (winR d s).2 = 0) (h0 : s.Ticks.Lo = 0) (l : List Int) (hk : keepE d m l = 0) : keepE (winR d s).1 m l = 0 := by
  have hz := winR_zero h; have h1 := keepE_zero hk
  unfold spOk at hz
  rw [hz.2.2.1]
  have h2 := keepP_rd.1 h1.2
  exact keepE_ok (win_ok h1.1 hz.2.1) (keepP_rd.2 ⟨h2.1, win_rd h0 (by omega) h2.2⟩)
theorem win_okD {d : Drum} {m : List Mark} {s : Stop} (hd : drumP d) (hw : drumP (winD d s)) (h0 : s.Ticks.Lo = 0) (h1 : 0 ≤ s.Ticks.Hi) (ho : okD d m) : okD (winD d s) m := by
  obtain ⟨x, hx⟩ := (ok_ex hd).1 ho
  exact (ok_ex hw).2 ⟨x, win_rd h0 h1 hx⟩
theorem bet_iff0 {d : Drum} {m : List Mark} {a b : Int} : (betR d m a b).2 = 0 ↔ Ok d m ∧ ((0 ≤ a ∧ a ≤ (d.Rates.length : Int)) ∧ 0 ≤ b ∧ b ≤ (d.Rates.length : Int)) ∧ okD d m := by
  rw [← arg_two, ← open_iff]
  by_cases h : openE d m [a, b] [] = 0
  · rw [betR_ok h]; exact ⟨fun _ => h, fun _ => rfl⟩
  · rw [betR_bad h]
theorem bet_val {d : Drum} {m : List Mark} {a b : Int} (h : (betR d m a b).2 = 0) : (betR d m a b).1 = ⟨- mosD d m b.toNat a.toNat, mosD d m a.toNat b.toNat⟩ := by
  have h1 := bet_iff0.1 h
  rw [betR_ok (open_iff.2 ⟨h1.1, arg_two.2 h1.2.1, h1.2.2⟩), betS_val]
theorem stop_bet {d : Drum} {m : List Mark} {s : Stop} (h : (winR d s).2 = 0) (h0 : s.Ticks.Lo = 0) {a b : Int} (hb : (betR d m a b).2 = 0) : (betR (winR d s).1 m a b).2 = 0 ∧ (betR (winR d s).1 m a b).1.Lo ≤ (betR d m a b).1.Lo ∧ (betR d m a b).1.Hi ≤ (betR (winR d s).1 m a b).1.Hi := by
  have hz := winR_zero h; have h1 := bet_iff0.1 hb
  unfold spOk at hz
  rw [hz.2.2.1]
  have h2 : (betR (winD d s) m a b).2 = 0 := bet_iff0.2 ⟨win_ok h1.1 hz.2.1, h1.2.1, win_okD h1.1.dr hz.2.1 h0 (by omega) h1.2.2⟩
  rw [bet_val hb, bet_val h2]
  have m1 := mosD_more (e := winD d s) (p := m) h1.1.dr h1.2.2 rfl (fun x hx => win_rd h0 (by omega) hx) (a := a.toNat) (b := b.toNat) (by omega) (by omega)
  have m2 := mosD_more (e := winD d s) (p := m) h1.1.dr h1.2.2 rfl (fun x hx => win_rd h0 (by omega) hx) (a := b.toNat) (b := a.toNat) (by omega) (by omega)
  exact ⟨h2, by (try dsimp only); omega, by (try dsimp only); omega⟩
theorem at_iff {d : Drum} {m : List Mark} {t : Int} : (atR d m t).2 = 0 ↔ Ok d m ∧ (0 ≤ t ∧ t ≤ 400) ∧ okD d m := by
  rw [← arg_tick (d := d), ← open_iff]
  by_cases h : openE d m [] [t] = 0
  · rw [atR_ok h]; exact ⟨fun _ => h, fun _ => rfl⟩
  · rw [atR_bad h]
theorem at_val {d : Drum} {m : List Mark} {t : Int} (h : (atR d m t).2 = 0) : (atR d m t).1 = ⟨pasS (hisL (setD d m)) t, pasS (losL (setD d m)) t⟩ := by
  have h1 := at_iff.1 h
  rw [atR_ok (open_iff.2 ⟨h1.1, arg_tick.2 h1.2.1, h1.2.2⟩)]; rfl
theorem stop_at {d : Drum} {m : List Mark} {s : Stop} (h : (winR d s).2 = 0) (h0 : s.Ticks.Lo = 0) {t : Int} (hb : (atR d m t).2 = 0) : (atR (winR d s).1 m t).2 = 0 ∧ (atR (winR d s).1 m t).1.Lo ≤ (atR d m t).1.Lo ∧ (atR d m t).1.Hi ≤ (atR (winR d s).1 m t).1.Hi := by
  have hz := winR_zero h; have h1 := at_iff.1 hb
  unfold spOk at hz
  rw [hz.2.2.1]
  have ho := win_okD h1.1.dr hz.2.1 h0 (by omega) h1.2.2
  have h2 : (atR (winD d s) m t).2 = 0 := at_iff.2 ⟨win_ok h1.1 hz.2.1, h1.2.1, ho⟩
  rw [at_val hb, at_val h2]
  have hn : (winD d s).Rates.length = d.Rates.length := rfl
  refine ⟨h2, ?_, ?_⟩
  · (try dsimp only)
    refine pas_mono (by rw [hisL_len, hisL_len, setD_len, setD_len, hn]) (his_up h1.1.dr h1.2.2) (his_up hz.2.1 ho) (fun i hi => ?_)
    rw [hisL_len, setD_len] at hi
    rw [hi_at (by first | omega | (rw [hn]; omega)), hi_at (by first | omega | (rw [hn]; omega))]
    exact ((win_rd h0 (by omega) (hi_rd (gap_ok h1.1.dr) h1.2.2)).st (i := i) (by rw [hn]; omega)).2
  · (try dsimp only)
    refine pas_mono (by rw [losL_len, losL_len, setD_len, setD_len, hn]) (los_up hz.2.1 ho) (los_up h1.1.dr h1.2.2) (fun i hi => ?_)
    rw [losL_len, setD_len, hn] at hi
    rw [lo_at (by first | omega | (rw [hn]; omega)), lo_at (by first | omega | (rw [hn]; omega))]
    exact ((win_rd h0 (by omega) (lo_rd (gap_ok h1.1.dr) h1.2.2)).st (i := i) (by rw [hn]; omega)).1

/-! ### two marks at a time -/
def agrP (d : Drum) (a b : Mark) : Prop := (agrR d a b).2 = 0 ∧ (agrR d a b).1 = true
instance (d : Drum) (a b : Mark) : Decidable (agrP d a b) := by unfold agrP; exact inferInstance
def nonP (d : Drum) : Prop := (feasR d []).2 = 0 ∧ (feasR d []).1 = true
instance (d : Drum) : Decidable (nonP d) := by unfold nonP; exact inferInstance
def twoP (x : Clk) : Prop := nonP x.D ∧ ∀ i, i < x.M.length → ∀ k, k < i + 1 → agrP x.D (gt x.M i) (gt x.M k)
instance (x : Clk) : Decidable (twoP x) := by unfold twoP; exact inferInstance
theorem agr_iff {d : Drum} {m : List Mark} (h : Ok d m) {i k : Nat} (hi : i < m.length) (hk : k < m.length) : agrP d (gt m i) (gt m k) ↔ okD d [gt m i, gt m k] := by
  unfold agrP agrR
  rw [feas_iff]
  exact ⟨fun h1 => h1.2, fun h1 => ⟨okm2 h hi hk, h1⟩⟩
theorem non_iff {d : Drum} {m : List Mark} (h : Ok d m) : nonP d ↔ okD d [] := by
  unfold nonP; rw [feas_iff]
  exact ⟨fun h1 => h1.2, fun h1 => ⟨okm0 h, h1⟩⟩
theorem two_iff {x : Clk} (h : Ok x.D x.M) : twoP x ↔ okD x.D x.M := by
  constructor
  · intro h2
    have h0 := (non_iff h).1 h2.1
    have hall : ∀ i k, i < x.M.length → k ≤ i → okD x.D [gt x.M i, gt x.M k] := fun i k hi hk => (agr_iff h hi (by omega)).1 (h2.2 i hi k (by omega))
    rw [← pair_nil]
    apply List.eq_nil_iff_forall_not_mem.2
    intro p hp
    rcases (mem_pair h0).1 hp with ⟨k, hk, hn, _⟩ | ⟨i, k, hi, hk, ⟨hik, _, _, hn⟩, _⟩
    · exact hn (ok_same.1 (hall k k hk (Nat.le_refl _)))
    · exact hn (ok_swap.1 (hall k i hk (by omega)))
  · intro ho
    refine ⟨(non_iff h).2 (okD_mono (by simp) ho), fun i hi k hk => (agr_iff h hi (by omega)).2 (okD_mono (fun y hy => ?_) ho)⟩
    simp only [List.mem_cons, List.not_mem_nil, or_false] at hy
    rcases hy with rfl | rfl
    · exact gt_mem hi
    · exact gt_mem (by omega)
theorem two_no {d : Drum} {m : List Mark} (h : (feasR d m).2 ≠ 0) : (conR d m).2 = (feasR d m).2 := by
  have hc : chkE d m ≠ 0 := fun hc => h (by rw [feasR_ok hc])
  have hp : (prsR d m).2 = chkE d m := by rw [prsR_bad hc]
  rw [feasR_err hc, conR_bad (by rw [hp]; exact hc), hp]
theorem two_yes {x : Clk} (h : (feasR x.D x.M).2 = 0) : ((feasR x.D x.M).1 = true → (conR x.D x.M).2 = 3 ∧ twoP x) ∧ ((feasR x.D x.M).1 = false → (conR x.D x.M).2 = 0 ∧ (conR x.D x.M).1.length ≤ 2 ∧ ¬ twoP x) := by
  have hc : chkE x.D x.M = 0 := Classical.byContradiction fun hc => by rw [feasR_err hc] at h; exact hc h
  have hok := Ok.of hc
  refine ⟨fun h1 => ?_, fun h1 => ?_⟩
  · have ho := (feas_yes h h1).2
    have hp : (prsR x.D x.M).2 = 3 := by rw [prsR_none hc (by rw [pair_nil.2 ho]; rfl)]
    exact ⟨by rw [conR_bad (by rw [hp]; decide), hp], (two_iff hok).2 ho⟩
  · rw [feasR_ok hc] at h1
    have ho : ¬ okD x.D x.M := of_decide_eq_false h1
    have hne : (pairL x.D x.M).length ≠ 0 := fun hn => ho (pair_nil.1 (List.length_eq_zero_iff.1 hn))
    have hp := prsR_ok hc hne
    rw [conR_ok (by rw [hp]), hp]
    exact ⟨rfl, pair_two (gt_mem (by (try dsimp only); omega)), fun h2 => ho ((two_iff hok).1 h2)⟩
end Go.Proofs.C2
