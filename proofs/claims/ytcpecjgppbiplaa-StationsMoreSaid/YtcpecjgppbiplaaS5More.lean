/- Stations: more wind, wider heights, fewer stations; in plain Lean. -/
import Derived.Test.YtcpecjgppbiplaaS5Mix2
namespace Go.Proofs.S5
open Go Go.Kx

theorem boundS_more {w more : Wind} {a b : Station} (hf : w.Fixed ≤ more.Fixed) (he : w.Each ≤ more.Each) : boundS w a b ≤ boundS more a b := by
  unfold boundS
  split
  · exact Int.le_refl _
  · have hd : 0 ≤ distS a b := by unfold distS; omega
    have h1 : w.Each * distS a b ≤ more.Each * distS a b := Int.mul_le_mul_of_nonneg_right he hd
    have h2 : w.Each * distS a b / 100 ≤ more.Each * distS a b / 100 := by omega
    omega
theorem more_wind {w more : Wind} {l : List Station} {week : Int} {levels : List Int} (h : (keepsR w l week levels).1 = true) (h2 : (keepsR more l week levels).2 = 0) (hf : w.Fixed ≤ more.Fixed) (he : w.Each ≤ more.Each) : (keepsR more l week levels).1 = true := by
  have h1 := keepsR_true h
  have hz := levelsE_zero h1.1
  have h2' : levelsE more l week levels = 0 := h2
  have hz2 := levelsE_zero h2'
  obtain ⟨s, fs⟩ := (fits_iff hz.1).1 h1.2
  refine (keeps_iff h2').2 ((fits_iff hz2.1).2 ⟨s, fs.lo, fs.hi, fun i k hi hk => diff_tight hz2.1 (fun i k hi hk => ?_) hi hk⟩)
  have t1 := fs.df i k hi hk
  have t2 := tight_le hz.1 hi hk
  have t3 := boundS_more (a := gt l i) (b := gt l k) hf he
  rw [boundM_eq hi hk] at t2
  rw [boundM_eq hi hk]; omega
/-! ### without one -/
theorem badAt_of {l : List Station} {i : Nat} (h1 : placedOk (gt l i)) (h2 : 0 < i → (gt l (i - 1)).ID < (gt l i).ID) (h3 : highOk (gt l i).Heights) : badAt l i = 0 := by
  unfold badAt
  rw [if_neg, if_neg]
  · exact fun hn => hn h3
  · rintro (h | h)
    · exact h h1
    · have := h2 h.1; omega
def outL {α : Type} (l : List α) (a : Nat) : List α := l.take a ++ l.drop (a + 1)
def skip (a i : Nat) : Nat := if i < a then i else i + 1
theorem outL_len {α : Type} (l : List α) {a : Nat} (h : a < l.length) : (outL l a).length = l.length - 1 := by
  unfold outL; rw [List.length_append, List.length_take, List.length_drop]; omega
theorem outL_at {α : Type} [Inhabited α] {l : List α} {a i : Nat} (ha : a < l.length) (_hi : i < l.length - 1) : gt (outL l a) i = gt l (skip a i) := by
  unfold outL skip gt
  simp only [List.getD_eq_getElem?_getD]
  split
  · rename_i h; rw [List.getElem?_append_left (by rw [List.length_take]; omega), List.getElem?_take_of_lt h]
  · rename_i h
    rw [List.getElem?_append_right (by rw [List.length_take]; omega), List.getElem?_drop, List.length_take, show a + 1 + (i - min a l.length) = i + 1 by omega]
theorem skip_lt {a i n : Nat} (hi : i < n - 1) : skip a i < n := by unfold skip; split <;> omega
theorem ids_up {l : List Station} (h : (checkS l).1 = 0) {i j : Nat} (hij : i < j) (hj : j < l.length) : (gt l i).ID < (gt l j).ID := by
  have hc := checkS_zero h
  obtain ⟨t, rfl⟩ : ∃ t, j = i + t + 1 := ⟨j - i - 1, by omega⟩
  clear hij
  induction t with
  | zero => have := (badAt_zero (hc.2 (i + 1) hj)).2.1 (by omega); simpa using this
  | succ t ih =>
    have h1 := ih (by omega)
    have h2 := (badAt_zero (hc.2 (i + (t + 1) + 1) hj)).2.1 (by omega)
    rw [show i + (t + 1) + 1 - 1 = i + t + 1 by omega] at h2
    omega
theorem out_keeps {w : Wind} {l : List Station} {week : Int} {levels : List Int} (h : (keepsR w l week levels).1 = true) {a : Nat} (ha : a < l.length) : keepsR w (outL l a) week (outL levels a) = (true, 0) := by
  have h1 := keepsR_true h
  have hz := levelsE_zero h1.1
  have hwz := windedE_zero hz.1
  have hc := checkS_zero hwz.1
  have hll := outL_len l ha
  have hlv := outL_len levels (a := a) (by omega)
  have hw2 : windedE w (outL l a) = 0 := by
    refine winded_of ?_ hwz.2
    rw [checkS_ok (by omega)]
    intro j hj
    have hs := skip_lt (a := a) (i := j) (n := l.length) (by omega)
    have hb := badAt_zero (hc.2 _ hs)
    have e := outL_at ha (i := j) (by omega)
    refine badAt_of (by rw [e]; exact hb.1) (fun h0 => ?_) (by rw [e]; exact hb.2.2)
    rw [e, outL_at ha (i := j - 1) (by omega)]
    exact ids_up hwz.1 (by unfold skip; split <;> split <;> omega) hs
  have hz2 : levelsE w (outL l a) week (outL levels a) = 0 := levelsE_ok hw2 hz.2.1 (by omega) (fun i hi => by
    have := hz.2.2.2 _ (skip_lt (a := a) (i := i) (n := l.length) (by omega))
    unfold lvOk at this ⊢
    rw [outL_at (by omega) (by omega)]; exact this)
  obtain ⟨s, fs⟩ := (fits_iff hz.1).1 h1.2
  refine keepsR_of hz2 ((fits_iff hw2).2 ⟨fun i => s (skip a i), fun i hi => ?_, fun i hi => ?_, fun i k hi hk => diff_tight hw2 (s := fun i => s (skip a i)) (fun i k hi hk => ?_) hi hk⟩)
  · have hs := skip_lt (a := a) (i := i) (n := l.length) (by omega)
    have := fs.lo _ hs
    rw [loS_eq hi, outL_at ha (by omega), outL_at (by omega) (by omega)]; rw [loS_eq hs] at this; exact this
  · have hs := skip_lt (a := a) (i := i) (n := l.length) (by omega)
    have := fs.hi _ hs
    rw [hiS_eq hi, outL_at ha (by omega), outL_at (by omega) (by omega)]; rw [hiS_eq hs] at this; exact this
  · have h3 := skip_lt (a := a) (i := i) (n := l.length) (by omega)
    have h4 := skip_lt (a := a) (i := k) (n := l.length) (by omega)
    have t1 := fs.df _ _ h3 h4
    have t2 := tight_le hz.1 h3 h4
    rw [boundM_eq h3 h4] at t2
    rw [boundM_eq hi hk, outL_at ha (by omega), outL_at ha (by omega)]; (try dsimp only); omega
/-! ### a wider height -/
def wideL (l : List Station) (a : Nat) (m : Span) : List Station := l.set a ⟨(gt l a).ID, (gt l a).X, (gt l a).Y, [⟨0, m⟩]⟩
theorem wideL_len (l : List Station) (a : Nat) (m : Span) : (wideL l a m).length = l.length := by simp [wideL]
theorem wideL_at {l : List Station} {a i : Nat} {m : Span} (ha : a < l.length) : gt (wideL l a m) i = if a = i then ⟨(gt l a).ID, (gt l a).X, (gt l a).Y, [⟨0, m⟩]⟩ else gt l i := gt_set ha
theorem wide_bound (w : Wind) {l : List Station} {a : Nat} (m : Span) (ha : a < l.length) (i k : Nat) : boundM w (wideL l a m) i k = boundM w l i k := by
  have key : ∀ j, (gt (wideL l a m) j).ID = (gt l j).ID ∧ (gt (wideL l a m) j).X = (gt l j).X ∧ (gt (wideL l a m) j).Y = (gt l j).Y := fun j => by
    rw [wideL_at ha]; split
    · rename_i h; subst h; exact ⟨rfl, rfl, rfl⟩
    · exact ⟨rfl, rfl, rfl⟩
  unfold boundM boundS distS dist2
  rw [wideL_len, (key i).1, (key k).1, (key i).2.1, (key k).2.1, (key i).2.2, (key k).2.2]
theorem wide_height {l : List Station} {a : Nat} {m : Span} {week : Int} (ha : a < l.length) (hw : 0 ≤ week) : heightS (gt (wideL l a m) a) week = m := by
  rw [wideL_at ha, if_pos rfl]
  show heightN _ week 1 = m
  unfold heightN
  split
  · rfl
  · rfl
theorem wide_keeps {w : Wind} {l : List Station} {week : Int} {levels : List Int} (h : (keepsR w l week levels).1 = true) {a : Nat} (ha : a < l.length) {m : Span} (hlo : m.Lo ≤ (heightS (gt l a) week).Lo) (hhi : (heightS (gt l a) week).Hi ≤ m.Hi) (h2 : (keepsR w (wideL l a m) week levels).2 = 0) : (keepsR w (wideL l a m) week levels).1 = true := by
  have h1 := keepsR_true h
  have hz := levelsE_zero h1.1
  have h2' : levelsE w (wideL l a m) week levels = 0 := h2
  have hz2 := levelsE_zero h2'
  have hlen := wideL_len l a m
  obtain ⟨s, fs⟩ := (fits_iff hz.1).1 h1.2
  have ht : ∀ i k, tightM w (wideL l a m) i k = tightM w l i k := fun i k => by
    unfold tightM
    rw [hlen, show boundM w (wideL l a m) = boundM w l from funext fun i => funext fun k => wide_bound w m ha i k]
  refine (keeps_iff h2').2 ((fits_iff hz2.1).2 ⟨s, fun i hi => ?_, fun i hi => ?_, fun i k hi hk => by rw [ht]; exact fs.df i k (by omega) (by omega)⟩)
  · have hl := fs.lo i (by omega)
    have hv := hz.2.2.2 i (by omega)
    unfold lvOk at hv
    rw [loS_eq (by omega)] at hl
    rw [loS_eq hi]
    by_cases hc : a = i
    · subst hc
      rw [wide_height ha hz.2.1.1]
      have := seaS_high (l := gt levels a) hv.1 hlo
      omega
    · rw [wideL_at ha, if_neg hc]; exact hl
  · have hl := fs.hi i (by omega)
    have hv := hz.2.2.2 i (by omega)
    unfold lvOk at hv
    rw [hiS_eq (by omega)] at hl
    rw [hiS_eq hi]
    by_cases hc : a = i
    · subst hc
      rw [wide_height ha hz.2.1.1]
      have := seaS_high (l := gt levels a) hv.1 hhi
      omega
    · rw [wideL_at ha, if_neg hc]; exact hl
theorem more_height {w : Wind} {l : List Station} {week : Int} {levels : List Int} (h : (keepsR w l week levels).1 = true) {a : Nat} (ha : a < l.length) : heightR (gt l a) week = (heightS (gt l a) week, 0) := by
  have h1 := keepsR_true h
  have hz := levelsE_zero h1.1
  unfold heightR
  rw [if_neg (by simp [one_ok hz.1 ha]), if_pos hz.2.1]
end Go.Proofs.S5
