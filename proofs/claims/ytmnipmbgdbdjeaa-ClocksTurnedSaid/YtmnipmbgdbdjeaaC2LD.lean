import Derived.Test.YtmnipmbgdbdjeaaC2LC
/- Clocks: backwards, further stops, rates; in plain Lean. -/
namespace Go.Proofs.C2
open Go Go.Kx

/-! ### backwards -/
def turnD (d : Drum) : Drum := ⟨(List.range d.Rates.length).map (fun i => gt d.Rates (d.Rates.length - 1 - i)), (List.range d.Stops.length).map (fun i => ⟨(d.Rates.length : Int) - 1 - (gt d.Stops i).Column, (gt d.Stops i).Ticks⟩)⟩
def turnM (d : Drum) (m : List Mark) : List Mark := (List.range m.length).map fun i => ⟨(d.Rates.length : Int) - (gt m i).Column, ⟨400 - (gt m i).Ticks.Hi, 400 - (gt m i).Ticks.Lo⟩⟩
def backL (l : List Int) : List Int := (List.range l.length).map fun i => 400 - gt l (l.length - 1 - i)
theorem turn_n (d : Drum) : (turnD d).Rates.length = d.Rates.length := map_len _ _
theorem turn_s (d : Drum) : (turnD d).Stops.length = d.Stops.length := map_len _ _
theorem turn_m (d : Drum) (m : List Mark) : (turnM d m).length = m.length := map_len _ _
theorem turn_rate {d : Drum} {i : Nat} (h : i < d.Rates.length) : gt (turnD d).Rates i = gt d.Rates (d.Rates.length - 1 - i) := gt_map h
theorem turn_stop {d : Drum} {i : Nat} (h : i < d.Stops.length) : gt (turnD d).Stops i = ⟨(d.Rates.length : Int) - 1 - (gt d.Stops i).Column, (gt d.Stops i).Ticks⟩ := gt_map h
theorem turn_mark {d : Drum} {m : List Mark} {i : Nat} (h : i < m.length) : gt (turnM d m) i = ⟨(d.Rates.length : Int) - (gt m i).Column, ⟨400 - (gt m i).Ticks.Hi, 400 - (gt m i).Ticks.Lo⟩⟩ := gt_map h
theorem turn_drum {d : Drum} (h : drumP d) : drumP (turnD d) := by
  refine ⟨by rw [turn_n, turn_s]; exact h.1, fun i hi => ?_, fun i hi => ?_⟩
  · rw [turn_n] at hi
    have := rate_ok h (i := d.Rates.length - 1 - i) (by omega)
    unfold rateB; rw [turn_rate hi]; exact fun hn => hn this
  · rw [turn_s] at hi
    have := stop_ok h hi
    unfold stopB; rw [turn_stop hi, turn_n]; (try dsimp only)
    intro hn; exact hn ⟨by omega, this.2⟩
theorem turn_ok {d : Drum} {m : List Mark} (h : Ok d m) : Ok (turnD d) (turnM d m) := by
  refine ⟨turn_drum h.dr, by rw [turn_m]; exact h.n, fun i hi => ?_⟩
  rw [turn_m] at hi
  have := h.col hi
  unfold markB; rw [turn_mark hi, turn_n]; unfold spOk at this ⊢; (try dsimp only); omega
theorem turn_gap {d : Drum} {i : Nat} (h : i < d.Rates.length) : gapS (turnD d) i = gapS d (d.Rates.length - 1 - i) := by
  have key : ∀ k, k ≤ d.Stops.length → gapN (turnD d) i k = gapN d (d.Rates.length - 1 - i) k := by
    intro k
    induction k with
    | zero => intro _; rw [gapN, gapN, turn_rate h]
    | succ k ih =>
      intro hk
      rw [gapN, gapN, ih (by omega), turn_stop (by omega)]
      (try dsimp only)
      by_cases hc : (gt d.Stops k).Column = ((d.Rates.length - 1 - i : Nat) : Int)
      · rw [if_pos (by omega), if_pos hc]
      · rw [if_neg (by omega), if_neg hc]
  unfold gapS; rw [turn_s]; exact key _ (Nat.le_refl _)
theorem turn_at {d : Drum} {m : List Mark} {i : Nat} (h : i ≤ d.Rates.length) : atS (turnM d m) i = ⟨400 - (atS m (d.Rates.length - i)).Hi, 400 - (atS m (d.Rates.length - i)).Lo⟩ := by
  have key : ∀ k, k ≤ m.length → atN (turnM d m) k i = ⟨400 - (atN m k (d.Rates.length - i)).Hi, 400 - (atN m k (d.Rates.length - i)).Lo⟩ := by
    intro k
    induction k with
    | zero => intro _; rfl
    | succ k ih =>
      intro hk
      rw [atN, atN, ih (by omega), turn_mark (by omega)]
      (try dsimp only)
      by_cases hc : (gt m k).Column = ((d.Rates.length - i : Nat) : Int)
      · rw [if_pos (by omega), if_pos hc]
        refine span_eq ?_ ?_
        · simp only [meet_lo, meet_hi]; omega
        · simp only [meet_lo, meet_hi]; omega
      · rw [if_neg (by omega), if_neg hc]
  unfold atS; rw [turn_m]; exact key _ (Nat.le_refl _)
theorem turn_rd {d : Drum} {m : List Mark} {x y : Nat → Int} (he : ∀ i, i ≤ d.Rates.length → y i = 400 - x (d.Rates.length - i)) (h : RdD d m x) : RdD (turnD d) (turnM d m) y := by
  refine ⟨fun i hi => ?_, fun i hi => ?_⟩
  · rw [turn_n] at hi
    have h1 := h.1 (d.Rates.length - i) (by omega)
    rw [turn_at hi, he i hi]; (try dsimp only); omega
  · rw [turn_n] at hi
    have h1 := h.2 (d.Rates.length - 1 - i) (by omega)
    rw [turn_gap hi, he i (by omega), he (i + 1) (by omega)]
    rw [show d.Rates.length - 1 - i + 1 = d.Rates.length - i by omega] at h1
    rw [show d.Rates.length - (i + 1) = d.Rates.length - 1 - i by omega]; omega
theorem turn_rd2 {d : Drum} {m : List Mark} {x y : Nat → Int} (he : ∀ i, i ≤ d.Rates.length → y i = 400 - x (d.Rates.length - i)) (h : RdD (turnD d) (turnM d m) y) : RdD d m x := by
  refine ⟨fun i hi => ?_, fun i hi => ?_⟩
  · have h1 := h.1 (d.Rates.length - i) (by rw [turn_n]; omega)
    rw [turn_at (by omega), he _ (by omega), show d.Rates.length - (d.Rates.length - i) = i by omega] at h1
    (try dsimp only at h1); omega
  · have h1 := h.2 (d.Rates.length - 1 - i) (by rw [turn_n]; omega)
    rw [turn_gap (by omega), he _ (by omega), he _ (by omega), show d.Rates.length - 1 - (d.Rates.length - 1 - i) = i by omega] at h1
    rw [show d.Rates.length - (d.Rates.length - 1 - i + 1) = i by omega, show d.Rates.length - (d.Rates.length - 1 - i) = i + 1 by omega] at h1
    omega
theorem turn_okD {d : Drum} (hd : drumP d) {m : List Mark} : okD (turnD d) (turnM d m) ↔ okD d m := by
  rw [ok_ex hd, ok_ex (turn_drum hd)]
  constructor
  · rintro ⟨y, hy⟩; exact ⟨fun i => 400 - y (d.Rates.length - i), turn_rd2 (y := y) (fun i hi => by (try dsimp only); rw [show d.Rates.length - (d.Rates.length - i) = i by omega]; omega) hy⟩
  · rintro ⟨x, hx⟩; exact ⟨fun i => 400 - x (d.Rates.length - i), turn_rd (x := x) (fun i _ => rfl) hx⟩
theorem turn_lo {d : Drum} (hd : drumP d) {m : List Mark} (ho : okD d m) {i : Nat} (hi : i ≤ d.Rates.length) : (stD (turnD d) (turnM d m) i).Lo = 400 - (stD d m (d.Rates.length - i)).Hi := by
  have ho2 := (turn_okD hd).2 ho
  have h1 := (turn_rd (y := fun i => 400 - (stD d m (d.Rates.length - i)).Hi) (fun i _ => rfl) (hi_rd (gap_ok hd) ho)).st (i := i) (by rw [turn_n]; exact hi)
  have h2 := (turn_rd2 (x := fun i => 400 - (stD (turnD d) (turnM d m) (d.Rates.length - i)).Lo) (y := fun i => (stD (turnD d) (turnM d m) i).Lo) (fun i hi => by (try dsimp only); rw [show d.Rates.length - (d.Rates.length - i) = i by omega]; omega) (lo_rd (gap_ok (turn_drum hd)) ho2)).st (i := d.Rates.length - i) (by omega)
  (try dsimp only at h1 h2)
  rw [show d.Rates.length - (d.Rates.length - i) = i by omega] at h2
  unfold stD at h1 h2 ⊢
  omega
theorem backL_len (l : List Int) : (backL l).length = l.length := map_len _ _
theorem backL_at {l : List Int} {i : Nat} (h : i < l.length) : gt (backL l) i = 400 - gt l (l.length - 1 - i) := gt_map h
theorem turn_keep {d : Drum} {m : List Mark} {l : List Int} : keepP (turnD d) (turnM d m) (backL l) ↔ keepP d m l := by
  rw [keepP_rd, keepP_rd, backL_len, turn_n]
  refine and_congr_right fun hl => ?_
  have he : ∀ i, i ≤ d.Rates.length → gt (backL l) i = 400 - gt l (d.Rates.length - i) := fun i hi => by rw [backL_at (by omega), hl]; rfl
  exact ⟨turn_rd2 he, turn_rd he⟩
theorem turn_lat {d : Drum} (hd : drumP d) {m : List Mark} (ho : okD d m) : hisL (setD d m) = backL (losL (setD (turnD d) (turnM d m))) := by
  have e1 : (losL (setD (turnD d) (turnM d m))).length = d.Rates.length + 1 := by rw [losL_len, setD_len, turn_n]
  refine ext_gt (by rw [hisL_len, setD_len, backL_len, e1]) fun i hi => ?_
  rw [hisL_len, setD_len] at hi
  rw [backL_at (by omega), e1, hi_at (by omega), lo_at (by rw [turn_n]; omega), turn_lo hd ho (by omega)]
  rw [show d.Rates.length - (d.Rates.length + 1 - 1 - i) = i by omega]; omega

/-! ### a further stop -/
theorem win_gapN {d : Drum} {s : Stop} {c : Nat} : ∀ k, k ≤ d.Stops.length → gapN (winD d s) c k = gapN d c k
  | 0, _ => rfl
  | k + 1, h => by
    have e : gt (winD d s).Stops k = gt d.Stops k := gt_app_l _ _ (by omega)
    rw [gapN, gapN, win_gapN k (by omega), e]
theorem win_gap {d : Drum} {s : Stop} (h0 : s.Ticks.Lo = 0) (h1 : 0 ≤ s.Ticks.Hi) (c : Nat) : (gapS (winD d s) c).Lo = (gapS d c).Lo ∧ (gapS d c).Hi ≤ (gapS (winD d s) c).Hi := by
  have hl : (winD d s).Stops.length = d.Stops.length + 1 := by simp [winD]
  have e : gt (winD d s).Stops d.Stops.length = s := by have := gt_app_r d.Stops [s] 0; rw [gt_zero] at this; exact this
  have : gapS (winD d s) c = if s.Column = (c : Int) then ⟨(gapS d c).Lo + s.Ticks.Lo, (gapS d c).Hi + s.Ticks.Hi⟩ else gapS d c := by
    unfold gapS; rw [hl, gapN, e, win_gapN _ (Nat.le_refl _)]
  rw [this]; split
  · (try dsimp only); omega
  · omega
theorem win_rd {d : Drum} {s : Stop} (h0 : s.Ticks.Lo = 0) (h1 : 0 ≤ s.Ticks.Hi) {m : List Mark} {x : Nat → Int} (h : RdD d m x) : RdD (winD d s) m x :=
  ⟨h.1, fun i hi => by have h2 := h.2 i hi; have h3 := win_gap (d := d) (s := s) h0 h1 i; omega⟩
theorem winR_zero {d : Drum} {s : Stop} (h : (winR d s).2 = 0) : drumP d ∧ drumP (winD d s) ∧ (winR d s).1 = winD d s ∧ d.Stops.length < 16 ∧ spOk s.Ticks 0 400 := by
  unfold winR at h ⊢
  split at h
  · rename_i h1; exact absurd h h1
  · rename_i h1
    split at h
    · cases h
    · rename_i h2
      split at h
      · cases h
      · rename_i h3
        have hw := drumP_of (d := winD d s) (by omega)
        have hl : (winD d s).Stops.length = d.Stops.length + 1 := by simp [winD]
        have e : gt (winD d s).Stops d.Stops.length = s := by have := gt_app_r d.Stops [s] 0; rw [gt_zero] at this; exact this
        have hs := (stop_ok hw (i := d.Stops.length) (by omega)).2
        rw [e] at hs
        exact ⟨drumP_of (by omega), hw, by rw [if_neg h1, if_neg h2, if_neg h3], by omega, hs⟩

/-! ### rates -/
theorem low_mul {a d : Int} (hd : 0 < d) : 0 < (Int.gcd a d : Int) ∧ (lowR a d).Num * (Int.gcd a d : Int) = a ∧ (lowR a d).Den * (Int.gcd a d : Int) = d ∧ 0 < (lowR a d).Den := by
  have hg : 0 < (Int.gcd a d : Int) := by
    have : Int.gcd a d ≠ 0 := fun h => by rw [Int.gcd_eq_zero_iff] at h; omega
    omega
  have h1 : (lowR a d).Num * (Int.gcd a d : Int) = a := Int.tdiv_mul_cancel (Int.gcd_dvd_left ..)
  have h2 : (lowR a d).Den * (Int.gcd a d : Int) = d := Int.tdiv_mul_cancel (Int.gcd_dvd_right ..)
  refine ⟨hg, h1, h2, ?_⟩
  apply Classical.byContradiction
  intro hn
  have : (lowR a d).Den * (Int.gcd a d : Int) ≤ 0 * (Int.gcd a d : Int) := Int.mul_le_mul_of_nonneg_right (by omega) (by omega)
  omega
theorem low_bd {a d M : Int} (hd : 0 < d) (hdM : d ≤ M) (ha : -M ≤ a ∧ a ≤ M) : (0 < (lowR a d).Den ∧ (lowR a d).Den ≤ M) ∧ (-M ≤ (lowR a d).Num ∧ (lowR a d).Num ≤ M) := by
  have h := low_mul (a := a) hd
  have h1 : -M ≤ d ∧ d ≤ M := by omega
  exact ⟨⟨h.2.2.2, (tdiv_bd h1).2⟩, tdiv_bd ha⟩
theorem low_cross {a d : Int} (hd : 0 < d) : (lowR a d).Num * d = a * (lowR a d).Den := by
  obtain ⟨hg, h1, h2, h3⟩ := low_mul (a := a) hd
  generalize (Int.gcd a d : Int) = g at *
  generalize (lowR a d).Num = p at *
  generalize (lowR a d).Den = q at *
  rw [← h1, ← h2, Int.mul_assoc, Int.mul_comm g]
theorem lowR_ge {a d k : Int} (hd : 0 < d) (h : k * d ≤ a) : k * (lowR a d).Den ≤ (lowR a d).Num := by
  obtain ⟨hg, h1, h2, h3⟩ := low_mul (a := a) hd
  generalize (Int.gcd a d : Int) = g at *
  generalize (lowR a d).Num = p at *
  generalize (lowR a d).Den = q at *
  subst h1 h2
  rw [← Int.mul_assoc] at h
  exact Int.le_of_mul_le_mul_right h hg
theorem lowR_le {a d k : Int} (hd : 0 < d) (h : a ≤ k * d) : (lowR a d).Num ≤ k * (lowR a d).Den := by
  obtain ⟨hg, h1, h2, h3⟩ := low_mul (a := a) hd
  generalize (Int.gcd a d : Int) = g at *
  generalize (lowR a d).Num = p at *
  generalize (lowR a d).Den = q at *
  subst h1 h2
  rw [← Int.mul_assoc] at h
  exact Int.le_of_mul_le_mul_right h hg
/-- the sums, the least and the greatest of the gaps from a column on -/
def sgN (d : Drum) (a : Nat) : Nat → Span
  | 0 => ⟨0, 0⟩
  | n + 1 => ⟨(sgN d a n).Lo + (gapS d (a + n)).Lo, (sgN d a n).Hi + (gapS d (a + n)).Hi⟩
def lgN (d : Drum) (a : Nat) : Nat → Int
  | 0 => 1099511627776
  | n + 1 => min (lgN d a n) (gapS d (a + n)).Lo
def mgN (d : Drum) (a : Nat) : Nat → Int
  | 0 => 0
  | n + 1 => max (mgN d a n) (gapS d (a + n)).Hi
theorem sg_bd {d : Drum} (h : drumP d) (a : Nat) : ∀ n : Nat, a + n ≤ d.Rates.length → (0 ≤ (sgN d a n).Lo ∧ (sgN d a n).Lo ≤ (sgN d a n).Hi) ∧ (sgN d a n).Hi ≤ 6440 * n
  | 0, _ => by simp [sgN]
  | n + 1, hn => by have h1 := sg_bd h a n (by omega); have h2 := gapS_bd h (c := a + n) (by omega); simp only [sgN]; omega
theorem lg_bd {d : Drum} (h : drumP d) (a : Nat) : ∀ n : Nat, a + n ≤ d.Rates.length → 0 ≤ lgN d a n ∧ lgN d a n ≤ 1099511627776 ∧ (0 < n → lgN d a n ≤ 6440)
  | 0, _ => by simp [lgN]
  | n + 1, hn => by have h1 := lg_bd h a n (by omega); have h2 := gapS_bd h (c := a + n) (by omega); rw [lgN]; omega
theorem mg_bd {d : Drum} (h : drumP d) (a : Nat) : ∀ n : Nat, a + n ≤ d.Rates.length → 0 ≤ mgN d a n ∧ mgN d a n ≤ 6440
  | 0, _ => by simp [mgN]
  | n + 1, hn => by have h1 := mg_bd h a n (by omega); have h2 := gapS_bd h (c := a + n) (by omega); rw [mgN]; omega
theorem sg_rd {d : Drum} {m : List Mark} {x : Nat → Int} (hx : RdD d m x) (a : Nat) : ∀ n : Nat, a + n ≤ d.Rates.length → (sgN d a n).Lo ≤ x (a + n) - x a ∧ x (a + n) - x a ≤ (sgN d a n).Hi
  | 0, _ => by simp [sgN]
  | n + 1, h => by have h1 := sg_rd hx a n (by omega); have h2 := hx.2 (a + n) (by omega); simp only [sgN, ← Nat.add_assoc]; omega
theorem lg_sum (d : Drum) (a : Nat) : ∀ n : Nat, 0 < n → lgN d a n * n ≤ (sgN d a n).Lo
  | 0, h => by omega
  | n + 1, _ => by
    rcases Nat.eq_zero_or_pos n with h0 | h0
    · subst h0; simp only [lgN, sgN, Nat.add_zero]; omega
    · have h1 := lg_sum d a n h0
      have h2 : lgN d a (n + 1) ≤ lgN d a n := by rw [lgN]; omega
      have h3 : lgN d a (n + 1) ≤ (gapS d (a + n)).Lo := by rw [lgN]; omega
      have h4 : lgN d a (n + 1) * n ≤ lgN d a n * n := Int.mul_le_mul_of_nonneg_right h2 (by omega)
      rw [Int.natCast_add, Int.mul_add]; simp only [sgN]; omega
theorem mg_sum (d : Drum) (a : Nat) : ∀ n : Nat, (sgN d a n).Hi ≤ mgN d a n * n
  | 0 => by simp [sgN]
  | n + 1 => by
    have h1 := mg_sum d a n
    have h2 : mgN d a n ≤ mgN d a (n + 1) := by rw [mgN]; omega
    have h3 : (gapS d (a + n)).Hi ≤ mgN d a (n + 1) := by rw [mgN]; omega
    have h4 : mgN d a n * n ≤ mgN d a (n + 1) * n := Int.mul_le_mul_of_nonneg_right h2 (by omega)
    rw [Int.natCast_add, Int.mul_add]; simp only [sgN]; omega
theorem bet_sum {d : Drum} (hd : drumP d) {m : List Mark} (ho : okD d m) {a n : Nat} (h : a + n ≤ d.Rates.length) : (sgN d a n).Lo ≤ (betS (setC d m) a (a + n)).Lo ∧ (betS (setC d m) a (a + n)).Hi ≤ (sgN d a n).Hi := by
  rw [betS_val]; (try dsimp only)
  obtain ⟨x, hx, h1⟩ := mosD_rd hd ho (a := a) (b := a + n) (by omega) h
  obtain ⟨y, hy, h2⟩ := mosD_rd hd ho (a := a + n) (b := a) h (by omega)
  have h3 := sg_rd hx a n h; have h4 := sg_rd hy a n h
  omega
end Go.Proofs.C2
