import Derived.Test.YtmnipmbgdbdjeaaC2LD
/- Clocks: columns, ticks, runs; in plain Lean. -/
namespace Go.Proofs.C2
open Go Go.Kx

/-! ### columns at a tick -/
/-- the marks that say: column k has passed at tick t, and the next one has not -/
def colM (n : Nat) (k t : Int) : List Mark := (if 0 ≤ k then [⟨k, ⟨0, t⟩⟩] else []) ++ (if k < (n : Int) then [⟨k + 1, ⟨t + 1, 400⟩⟩] else [])
theorem colM_ok {d : Drum} {k t : Int} (hk : -1 ≤ k ∧ k ≤ (d.Rates.length : Int)) : colsOk d (colM d.Rates.length k t) := fun x hx => by
  unfold colM at hx
  rcases List.mem_append.1 hx with h | h
  · split at h
    · rw [List.mem_singleton.1 h]; (try dsimp only); omega
    · exact absurd h (List.not_mem_nil)
  · split at h
    · rw [List.mem_singleton.1 h]; (try dsimp only); omega
    · exact absurd h (List.not_mem_nil)
theorem col_rd {d : Drum} {m : List Mark} (h : colsOk d m) {k t : Int} (hk : -1 ≤ k ∧ k ≤ (d.Rates.length : Int)) {x : Nat → Int} :
    RdD d (m ++ colM d.Rates.length k t) x ↔ RdD d m x ∧ (0 ≤ k → x k.toNat ≤ t) ∧ (k < (d.Rates.length : Int) → t + 1 ≤ x (k + 1).toNat) := by
  rw [rd_app h (colM_ok hk)]
  refine and_congr_right fun hr => ?_
  have hb : ∀ i, i ≤ d.Rates.length → 0 ≤ x i ∧ x i ≤ 400 := fun i hi => ((atS_iff m i _).1 (hr.1 i hi)).1
  constructor
  · intro hx
    refine ⟨fun h0 => ?_, fun h1 => ?_⟩
    · exact (hx ⟨k, ⟨0, t⟩⟩ (by unfold colM; rw [if_pos h0]; simp)).2
    · exact (hx ⟨k + 1, ⟨t + 1, 400⟩⟩ (by unfold colM; rw [if_pos h1]; simp)).1
  · intro hx y hy
    unfold colM at hy
    rcases List.mem_append.1 hy with h' | h'
    · split at h'
      · rw [List.mem_singleton.1 h']; (try dsimp only); have := hx.1 (by assumption); have := hb k.toNat (by omega); omega
      · exact absurd h' (List.not_mem_nil)
    · split at h'
      · rw [List.mem_singleton.1 h']; (try dsimp only); have := hx.2 (by assumption); have := hb (k + 1).toNat (by omega); omega
      · exact absurd h' (List.not_mem_nil)
theorem col_iff {d : Drum} (hd : drumP d) {m : List Mark} (h : colsOk d m) (ho : okD d m) {k t : Int} (hk : -1 ≤ k ∧ k ≤ (d.Rates.length : Int)) :
    okD d (m ++ colM d.Rates.length k t) ↔ pasS (hisL (setD d m)) t ≤ k ∧ k ≤ pasS (losL (setD d m)) t := by
  have hlu := los_up hd ho
  have hhu := his_up hd ho
  have hll : (losL (setD d m)).length = d.Rates.length + 1 := by rw [losL_len, setD_len]
  have hhl : (hisL (setD d m)).length = d.Rates.length + 1 := by rw [hisL_len, setD_len]
  have hA : k ≤ pasS (losL (setD d m)) t ↔ (0 ≤ k → (stD d m k.toNat).Lo ≤ t) := by
    rcases Int.lt_or_le k 0 with h0 | h0
    · have := pas_bd (losL (setD d m)) t
      exact ⟨fun _ h1 => by omega, fun _ => by omega⟩
    · have h1 := pas_ge hlu (t := t) (k := k.toNat) (by omega)
      rw [lo_at (by omega), show ((k.toNat : Nat) : Int) = k by omega] at h1
      exact h1.trans ⟨fun h2 _ => h2, fun h2 => h2 h0⟩
  have hB : pasS (hisL (setD d m)) t ≤ k ↔ (k < (d.Rates.length : Int) → t + 1 ≤ (stD d m (k + 1).toNat).Hi) := by
    rcases Int.lt_or_le k (d.Rates.length : Int) with h0 | h0
    · have h1 := pas_ge hhu (t := t) (k := (k + 1).toNat) (by omega)
      rw [hi_at (by omega), show (((k + 1).toNat : Nat) : Int) = k + 1 by omega] at h1
      constructor
      · intro h2 _
        have : ¬ (stD d m (k + 1).toNat).Hi ≤ t := fun h3 => by have := h1.2 h3; omega
        omega
      · intro h2
        have : ¬ k + 1 ≤ pasS (hisL (setD d m)) t := fun h3 => by have h4 := h1.1 h3; have h5 := h2 h0; omega
        omega
    · have := pas_bd (hisL (setD d m)) t
      exact ⟨fun _ h1 => by omega, fun _ => by omega⟩
  rw [hA, hB, ok_ex hd]
  constructor
  · rintro ⟨x, hx⟩
    have h1 := (col_rd h hk).1 hx
    refine ⟨fun h2 => ?_, fun h2 => ?_⟩
    · have h3 := h1.2.2 h2; have h4 := h1.1.st (i := (k + 1).toNat) (by omega); unfold stD; omega
    · have h3 := h1.2.1 h2; have h4 := h1.1.st (i := k.toNat) (by omega); unfold stD; omega
  · rintro ⟨h1, h2⟩
    rcases Int.lt_or_le k (d.Rates.length : Int) with h0 | h0
    · have h3 := h1 h0
      rcases Int.le_total (stD d m (k + 1).toNat).Lo (t + 1) with h4 | h4
      · obtain ⟨x, hx, he⟩ := tick_rd (gap_ok hd) ho (i := (k + 1).toNat) (v := t + 1) ⟨h4, h3⟩
        refine ⟨x, (col_rd h hk).2 ⟨hx, fun h5 => ?_, fun _ => by omega⟩⟩
        have h6 := rd_up hd (m := m) (x := x) hx (i := k.toNat) (by omega)
        rw [show k.toNat + 1 = (k + 1).toNat by omega] at h6; omega
      · exact ⟨_, (col_rd h hk).2 ⟨lo_rd (gap_ok hd) ho, fun h5 => h2 h5, fun _ => h4⟩⟩
    · exact ⟨_, (col_rd h hk).2 ⟨lo_rd (gap_ok hd) ho, fun h5 => h2 h5, fun h5 => by omega⟩⟩

/-! ### ticks of a column -/
theorem wi_lo {d : Drum} {m : List Mark} (hd : drumP d) {k : Nat} (hk : k ≤ d.Rates.length) {t : Int} (ho : okC (wiC d m k t)) : RdD d m (gt (losL (setL (wiC d m k t)))) ∧ gt (losL (setL (wiC d m k t))) k = t ∧ (losL (setL (wiC d m k t))).length = d.Rates.length + 1 := by
  have hn : (wiC d m k t).gaps.length = d.Rates.length := gapL_len d
  have hl : (setL (wiC d m k t)).length = d.Rates.length + 1 := by rw [setL_len, hn]
  have h1 := lo_rd (wi_gap (m := m) hd k t) ho
  have h2 := (wi_rd hk).1 h1
  have he : ∀ i, i ≤ d.Rates.length → gt (losL (setL (wiC d m k t))) i = (st (gt (wiC d m k t).gaps) (gt (wiC d m k t).at_) (wiC d m k t).gaps.length i).Lo := fun i hi => by
    rw [losL_at (by omega), setL_at (by omega)]
  exact ⟨h2.1.congr he, by rw [he k hk]; exact h2.2, by rw [losL_len, hl]⟩
theorem wi_hi {d : Drum} {m : List Mark} (hd : drumP d) {k : Nat} (hk : k ≤ d.Rates.length) {t : Int} (ho : okC (wiC d m k t)) : RdD d m (gt (hisL (setL (wiC d m k t)))) ∧ gt (hisL (setL (wiC d m k t))) k = t ∧ (hisL (setL (wiC d m k t))).length = d.Rates.length + 1 := by
  have hn : (wiC d m k t).gaps.length = d.Rates.length := gapL_len d
  have hl : (setL (wiC d m k t)).length = d.Rates.length + 1 := by rw [setL_len, hn]
  have h1 := hi_rd (wi_gap (m := m) hd k t) ho
  have h2 := (wi_rd hk).1 h1
  have he : ∀ i, i ≤ d.Rates.length → gt (hisL (setL (wiC d m k t))) i = (st (gt (wiC d m k t).gaps) (gt (wiC d m k t).at_) (wiC d m k t).gaps.length i).Hi := fun i hi => by
    rw [hisL_at (by omega), setL_at (by omega)]
  exact ⟨h2.1.congr he, by rw [he k hk]; exact h2.2, by rw [hisL_len, hl]⟩
theorem wi_keep {d : Drum} {m : List Mark} (hd : drumP d) {k : Nat} (hk : k ≤ d.Rates.length) {t : Int} (ho : okC (wiC d m k t)) : keepP d m (losL (setL (wiC d m k t))) ∧ gt (losL (setL (wiC d m k t))) k = t := by
  have h := wi_lo hd hk ho; exact ⟨keepP_rd.2 ⟨h.2.2, h.1⟩, h.2.1⟩
/-- a reading with a tick is nowhere ahead of the earliest one, nor behind the latest one -/
theorem wi_in {d : Drum} {m : List Mark} {k : Nat} (hk : k ≤ d.Rates.length) {t : Int} {x : Nat → Int} (hx : RdD d m x) (he : x k = t) {i : Nat} (hi : i ≤ d.Rates.length) :
    (gt (setL (wiC d m k t)) i).Lo ≤ x i ∧ x i ≤ (gt (setL (wiC d m k t)) i).Hi := by
  have hn : (wiC d m k t).gaps.length = d.Rates.length := gapL_len d
  have h1 := ((wi_rd hk).2 ⟨hx, he⟩).st (i := i) (by omega)
  rw [setL_at (by omega)]; exact h1
theorem wi_later {d : Drum} {m : List Mark} (hd : drumP d) {k : Nat} (hk : k ≤ d.Rates.length) {t u : Int} (ht : okC (wiC d m k t)) (hu : okC (wiC d m k u)) (h : t ≤ u) {i : Nat} (hi : i ≤ d.Rates.length) :
    gt (losL (setL (wiC d m k t))) i ≤ gt (losL (setL (wiC d m k u))) i := by
  have h1 := wi_lo hd hk ht; have h2 := wi_lo hd hk hu
  have h3 := wi_in hk (h1.1.min h2.1) (t := t) (by (try dsimp only); omega) hi
  have hl : (setL (wiC d m k t)).length = d.Rates.length + 1 := by rw [setL_len]; exact congrArg (· + 1) (gapL_len d)
  rw [losL_at (l := setL (wiC d m k t)) (by omega)] at h3 ⊢
  (try dsimp only at h3); omega

/-! ### runs -/
/-- all runs at ticks below n together -/
def runN (d : Drum) (m : List Mark) (c : Nat) : Nat → Span
  | 0 => ⟨401, -1⟩
  | n + 1 => if okC (wiC d m 0 n) then ⟨min (runN d m c n).Lo (gt (setL (wiC d m 0 n)) c).Lo, max (runN d m c n).Hi (gt (setL (wiC d m 0 n)) c).Hi⟩ else runN d m c n
theorem run_in {d : Drum} {m : List Mark} (hd : drumP d) (c : Nat) (hc : c ≤ d.Rates.length) : ∀ n : Nat, (runN d m c n = ⟨401, -1⟩ ∨ ((stD d m c).Lo ≤ (runN d m c n).Lo ∧ (runN d m c n).Hi ≤ (stD d m c).Hi)) ∧
    ∀ x, RdD d m x → x 0 < n → (runN d m c n).Lo ≤ x c ∧ x c ≤ (runN d m c n).Hi
  | 0 => ⟨.inl rfl, fun x hx h => by have := ((atS_iff m 0 _).1 (hx.1 0 (Nat.zero_le _))).1; omega⟩
  | n + 1 => by
    have ih := run_in (m := m) hd c hc n
    have hl : (setL (wiC d m 0 n)).length = d.Rates.length + 1 := by rw [setL_len]; exact congrArg (· + 1) (gapL_len d)
    rw [runN]; split
    · rename_i ho
      have h1 := (wi_lo hd (Nat.zero_le _) ho).1.st hc; have h2 := (wi_hi hd (Nat.zero_le _) ho).1.st hc
      rw [losL_at (by omega)] at h1; rw [hisL_at (by omega)] at h2
      have h5 : (gt (setL (wiC d m 0 n)) c).Lo ≤ (gt (setL (wiC d m 0 n)) c).Hi := by
        have h6 := wi_in (Nat.zero_le _) (wi_lo hd (Nat.zero_le _) ho).1 (wi_lo hd (Nat.zero_le _) ho).2.1 hc
        omega
      refine ⟨.inr ?_, fun x hx hlt => ?_⟩
      · (try dsimp only)
        unfold stD
        have h7 : (stD d m c).Hi ≤ 400 ∧ 0 ≤ (stD d m c).Lo := by
          have h8 := ((atS_iff m c _).1 ((lo_rd (gap_ok hd) (wi_lo hd (Nat.zero_le _) ho).1.ok).1 c hc)).1
          have h9 := ((atS_iff m c _).1 ((hi_rd (gap_ok hd) (wi_lo hd (Nat.zero_le _) ho).1.ok).1 c hc)).1
          unfold stD; exact ⟨h9.2, h8.1⟩
        unfold stD at h7
        rcases ih.1 with h3 | h3
        · rw [h3]; (try dsimp only); omega
        · unfold stD at h3; omega
      · (try dsimp only)
        rcases Int.lt_or_le (x 0) n with h3 | h3
        · have := ih.2 x hx h3; omega
        · have h4 := wi_in (Nat.zero_le _) hx (t := (n : Int)) (by omega) hc; omega
    · rename_i ho
      refine ⟨ih.1, fun x hx hlt => ?_⟩
      rcases Int.lt_or_le (x 0) n with h3 | h3
      · exact ih.2 x hx h3
      · exact absurd ((wi_rd (Nat.zero_le _)).2 ⟨hx, by omega⟩).ok ho
theorem run_all {d : Drum} {m : List Mark} (h : Ok d m) (ho : okD d m) {c : Nat} (hc : c ≤ d.Rates.length) : runN d m c 401 = stD d m c := by
  have h1 := run_in (m := m) h.dr c hc 401
  have h2 := h1.2 _ (lo_rd (gap_ok h.dr) ho) (by have := stD_bd h ho (i := 0) (Nat.zero_le _); unfold stD at this; (try dsimp only); omega)
  have h3 := h1.2 _ (hi_rd (gap_ok h.dr) ho) (by have := stD_bd h ho (i := 0) (Nat.zero_le _); unfold stD at this; (try dsimp only); omega)
  have h4 := stD_bd h ho hc
  unfold stD at h4
  (try dsimp only at h2 h3)
  rcases h1.1 with h5 | h5
  · rw [h5] at h2; (try dsimp only at h2); omega
  · unfold stD at h5 ⊢; exact span_eq (by omega) (by omega)
end Go.Proofs.C2
