/- Century: known exactly, in plain Lean. -/
import Derived.Test.YtednficclnjmjaaC8LNar
namespace Go.Proofs.C8
open Go Go.Kx

section
variable {s : Ser} {x : Rl}
theorem told_v {i : Nat} (hi : i < s.Values.length) : gt (toldS s x).Values i = ⟨(gt s.Values i).Time, ⟨gt x.Levels i, gt x.Levels i⟩⟩ := gt_map hi
theorem told_x {i : Nat} (hi : i < s.Shifts.length) : gt (toldS s x).Shifts i = ⟨(gt s.Shifts i).Time, ⟨gt x.Shifts i, gt x.Shifts i⟩⟩ := gt_map hi
variable (h : Ok s) (ha : agreeP s x.Levels x.Shifts)
include h ha
theorem told_nar : Nar (toldS s x) s := by
  have nv : (toldS s x).Values.length = s.Values.length := map_len _ _
  have nx : (toldS s x).Shifts.length = s.Shifts.length := map_len _ _
  refine ⟨h, ⟨by rw [nv]; exact h.nV, by rw [nx]; exact h.nX, fun i hi => ?_, fun i hi => ?_⟩, nv, nx, fun i hi => ?_, fun i hi => ?_⟩
  · rw [nv] at hi
    have h1 := h.v i hi
    have h2 := ha.2.1 i hi
    unfold badV at h1 ⊢
    rw [told_v hi]
    rcases Nat.eq_zero_or_pos i with h0 | h0
    · dsimp only; omega
    · rw [told_v (i := i - 1) (by omega)]; dsimp only; omega
  · rw [nx] at hi
    have h1 := h.x i hi
    have h2 := ha.2.2 i hi
    unfold badX at h1 ⊢
    rw [told_x hi]
    rcases Nat.eq_zero_or_pos i with h0 | h0
    · dsimp only; omega
    · rw [told_x (i := i - 1) (by omega)]; dsimp only; omega
  · rw [told_v hi]; have := ha.2.1 i hi; dsimp only; omega
  · rw [told_x hi]; have := ha.2.2 i hi; dsimp only; omega
omit ha in
theorem told_off (t : Int) : ∀ n : Nat, n ≤ s.Shifts.length → btLo (toldS s x).Shifts (-1) t n = offN s.Shifts x.Shifts t n ∧ btHi (toldS s x).Shifts (-1) t n = offN s.Shifts x.Shifts t n := fun n hn => by
  unfold btLo btHi offN
  constructor <;> exact sumN_congr fun k hk => by
    rw [told_x (i := k) (by omega)]
    have := (h.xt (i := k) (by omega)).1
    dsimp only
    (repeat' split) <;> omega
omit h ha in
theorem told_bt (a b : Int) (hab : a ≤ b) : (bt (toldS s x).Shifts a b).Lo = offN s.Shifts x.Shifts b s.Shifts.length - offN s.Shifts x.Shifts a s.Shifts.length ∧ (bt (toldS s x).Shifts a b).Hi = (bt (toldS s x).Shifts a b).Lo := by
  have nx : (toldS s x).Shifts.length = s.Shifts.length := map_len _ _
  unfold bt btLo btHi offN
  dsimp only
  rw [nx, ← sumN_sub]
  constructor
  · exact sumN_congr fun k hk => by
      rw [told_x hk]
      dsimp only
      (repeat' split) <;> omega
  · exact sumN_congr fun k hk => by rw [told_x hk]
omit ha in
theorem told_evS {i : Nat} (hi : i < s.Values.length) : evS (toldS s x) i = ⟨evenAt s x.Levels x.Shifts i, evenAt s x.Levels x.Shifts i⟩ := by
  have nx : (toldS s x).Shifts.length = s.Shifts.length := map_len _ _
  have ho := told_off (x := x) h (gt s.Values i).Time _ (Nat.le_refl _)
  unfold evS evenAt
  rw [told_v hi, nx, ho.1, ho.2]
theorem told_bd (f : List Int) : bd (toldS s x) f = ⟨sumN (fun i => gt f i * evenAt s x.Levels x.Shifts i) s.Values.length, sumN (fun i => gt f i * evenAt s x.Levels x.Shifts i) s.Values.length⟩ := by
  have hN := told_nar h ha
  have key : ∀ b, totS (toldS s x) f (sumXL (toldS s x) f) b = sumN (fun i => gt f i * evenAt s x.Levels x.Shifts i) s.Values.length := fun b => by
    have := lin_eq (toldS s x) f (endV (toldS s x) f b) (endX (toldS s x) (sumXL (toldS s x) f) b)
    unfold totS
    rw [← this, hN.nv]
    refine sumN_congr fun i hi => ?_
    rw [nar_even hN _ _ hi]
    congr 1
    unfold evenAt offN
    rw [endV, hN.nv, gt_map hi, told_v hi]
    have : ∀ f b, endS ⟨gt x.Levels i, gt x.Levels i⟩ f b = gt x.Levels i := fun f b => by unfold endS; split <;> rfl
    rw [this]
    congr 1
    exact sumN_congr fun k hk => by
      rw [endX, hN.nx, gt_map hk, told_x hk]
      have : ∀ f b, endS ⟨gt x.Shifts k, gt x.Shifts k⟩ f b = gt x.Shifts k := fun f b => by unfold endS; split <;> rfl
      rw [this]
  show (⟨totS _ _ _ _, totS _ _ _ _⟩ : Span) = _
  rw [key, key]
theorem told_evs : evsL (toldS s x) = (List.range s.Values.length).map fun i => ⟨evenAt s x.Levels x.Shifts i, evenAt s x.Levels x.Shifts i⟩ := by
  have hN := told_nar h ha
  unfold evsL
  rw [hN.nv]
  exact List.map_congr_left fun i hi => told_evS h (List.mem_range.1 hi)
theorem told_mean {a : Span} (h0 : (mbR (toldS s x) a).2.2 = 0) : (mbR (toldS s x) a).1 = (mbR (toldS s x) a).2.1 ∧ LBd (meanR s (evenL s x.Levels x.Shifts) a).1 ∧ LBd (mbR (toldS s x) a).1 ∧ ¬ lessP (meanR s (evenL s x.Levels x.Shifts) a).1 (mbR (toldS s x) a).1 ∧ ¬ lessP (mbR (toldS s x) a).1 (meanR s (evenL s x.Levels x.Shifts) a).1 ∧ 0 < wtC s a ∧ spOk a 0 10000 := by
  have hN := told_nar h ha
  obtain ⟨_, hsp, hw, he⟩ := mbR_zero h0
  rw [nar_wtC hN] at hw
  have hl := wtC_le s a
  have hn := h.nV
  have hb := told_bd h ha (wtL s a 1)
  rw [wt_sum, Int.one_mul] at hb
  have hbb := bd_bd hN.ot (wt_fac (s := toldS s x) (x := a) (c := 1) (by omega))
  rw [nar_wtL hN, hb] at hbb
  rw [he, nar_wtC hN, nar_wtL hN, hb, mean_val]
  have hl2 := less_low (m := ⟨sumN (fun i => if inT a (gt s.Values i).Time then evenAt s x.Levels x.Shifts i else 0) s.Values.length, (wtC s a : Int)⟩) (a := sumN (fun i => if inT a (gt s.Values i).Time then evenAt s x.Levels x.Shifts i else 0) s.Values.length) (d := (wtC s a : Int)) (by omega) rfl
  have hm := mean_small h ha hw
  rw [mean_val] at hm
  refine ⟨rfl, hm, low_bd (by omega) (by omega) hbb.1, ?_, ?_, hw, hsp⟩
  · rw [hl2.1]; dsimp only; omega
  · rw [hl2.2]; dsimp only; omega
theorem told_ext {a : Span} : ∀ n : Nat, n ≤ s.Values.length → ((extN (toldS s x) a n).2.2 = decide (0 < wtN s a n)) ∧ ((extN (toldS s x) a n).2.2 = true → (extN (toldS s x) a n).1 = ⟨(mnE s (evenL s x.Levels x.Shifts) a n).Lo, (mnE s (evenL s x.Levels x.Shifts) a n).Lo⟩ ∧ (extN (toldS s x) a n).2.1 = ⟨(mnE s (evenL s x.Levels x.Shifts) a n).Hi, (mnE s (evenL s x.Levels x.Shifts) a n).Hi⟩) ∧
    ((extN (toldS s x) a n).2.2 = false → mnE s (evenL s x.Levels x.Shifts) a n = ⟨1099511627776, -1099511627776⟩)
  | 0, _ => ⟨rfl, fun hh => (by cases hh), fun _ => rfl⟩
  | n + 1, hn => by
    obtain ⟨h1, h2, h3⟩ := told_ext (a := a) n (by omega)
    have hv := told_v (s := s) (x := x) (i := n) (by omega)
    have hb := evenL_bd h ha n (by rw [evenL_len]; omega)
    rw [evenL_at (by omega)] at hb
    by_cases hin : inT a (gt s.Values n).Time
    · have hin' : inT a (gt (toldS s x).Values n).Time := by rw [hv]; exact hin
      have he : mnE s (evenL s x.Levels x.Shifts) a (n + 1) = ⟨min (mnE s (evenL s x.Levels x.Shifts) a n).Lo (evenAt s x.Levels x.Shifts n), max (mnE s (evenL s x.Levels x.Shifts) a n).Hi (evenAt s x.Levels x.Shifts n)⟩ := by rw [mnE, if_pos hin, evenL_at (by omega)]
      have hw : wtN s a (n + 1) = wtN s a n + 1 := wtN_yes hin
      rw [he, hw]
      cases hf : (extN (toldS s x) a n).2.2 with
      | true =>
        rw [ext_more hin' hf, told_evS h (by omega)]
        obtain ⟨h4, h5⟩ := h2 hf
        rw [h4, h5]
        exact ⟨by simp, fun _ => ⟨rfl, rfl⟩, fun hh => (by cases hh)⟩
      | false =>
        rw [ext_one hin' hf, told_evS h (by omega), h3 hf]
        refine ⟨by simp, fun _ => ?_, fun hh => (by cases hh)⟩
        dsimp only
        simp only [Span.mk.injEq]; omega
    · have hin' : ¬ inT a (gt (toldS s x).Values n).Time := by rw [hv]; exact hin
      have e1 : extN (toldS s x) a (n + 1) = extN (toldS s x) a n := by rw [extN, if_neg hin']
      have e2 : mnE s (evenL s x.Levels x.Shifts) a (n + 1) = mnE s (evenL s x.Levels x.Shifts) a n := by rw [mnE, if_neg hin]
      rw [e1, e2, wtN_no hin]; exact ⟨h1, h2, h3⟩
theorem told_extR {a : Span} (hw : 0 < wtC s a) (hsp : spOk a 0 10000) : (extR (toldS s x) a).2.2 = 0 ∧ (extR (toldS s x) a).1 = ⟨(meanR s (evenL s x.Levels x.Shifts) a).2.1.Lo, (meanR s (evenL s x.Levels x.Shifts) a).2.1.Lo⟩ ∧ (extR (toldS s x) a).2.1 = ⟨(meanR s (evenL s x.Levels x.Shifts) a).2.1.Hi, (meanR s (evenL s x.Levels x.Shifts) a).2.1.Hi⟩ := by
  have hN := told_nar h ha
  obtain ⟨h1, h2, _⟩ := told_ext h ha (a := a) _ (Nat.le_refl _)
  have hf : (extN (toldS s x) a s.Values.length).2.2 = true := by rw [h1]; exact decide_eq_true hw
  have hm : meanR s (evenL s x.Levels x.Shifts) a = (⟨mnN s (evenL s x.Levels x.Shifts) a s.Values.length, mnD s a s.Values.length⟩, mnE s (evenL s x.Levels x.Shifts) a s.Values.length, decide (0 < mnD s a s.Values.length)) := by
    unfold meanR; rw [mnC_len (evenL_len _ _ _)]
  rw [extR_ok1 hN.ot, if_neg (fun hn => hn hsp), hN.nv, if_pos hf, hm]
  exact ⟨rfl, (h2 hf).1, (h2 hf).2⟩
/-! ### parts -/
omit ha in
theorem told_last {most : Int} {a b : Nat} (hb : b < s.Values.length) : ∀ i : Nat, a + i ≤ b → lastAt (winOf (toldS s x) a b) most i = ⟨offN s.Shifts x.Shifts (gt s.Values (a + i)).Time s.Shifts.length + max (mxL (evenL s x.Levels x.Shifts) a i) (gt (evenL s x.Levels x.Shifts) (a + i)) - most,
    offN s.Shifts x.Shifts (gt s.Values (a + i)).Time s.Shifts.length + min (miL (evenL s x.Levels x.Shifts) a i) (gt (evenL s x.Levels x.Shifts) (a + i))⟩
  | 0, hi => by
    simp only [lastAt, mxL, miL, Nat.add_zero]
    rw [win_at _ (by omega), Nat.add_zero, told_v (by omega), evenL_at (by omega)]
    unfold evenAt
    simp only [Span.mk.injEq]; omega
  | i + 1, hi => by
    have h1 := told_last (most := most) (a := a) hb i (by omega)
    have ht := h.vs (i := a + (i + 1)) (by omega) (by omega)
    rw [show a + (i + 1) - 1 = a + i by omega] at ht
    have hbt := told_bt (s := s) (x := x) (gt s.Values (a + i)).Time (gt s.Values (a + (i + 1))).Time (by omega)
    simp only [lastAt]
    rw [h1, win_at _ (by omega), win_xt _ (by omega), told_v (i := a + (i + 1)) (by omega), told_v (i := a + i) (by omega), show a + i + 1 = a + (i + 1) by omega, told_v (i := a + (i + 1)) (by omega)]
    simp only [mxL, miL]
    rw [hbt.2, hbt.1]
    have e : gt (evenL s x.Levels x.Shifts) (a + (i + 1)) = gt x.Levels (a + (i + 1)) - offN s.Shifts x.Shifts (gt s.Values (a + (i + 1))).Time s.Shifts.length := by rw [evenL_at (by omega)]; rfl
    simp only [Span.mk.injEq]
    omega
theorem told_nxt {most : Int} (hm : 0 ≤ most) {a : Nat} (hal : a < s.Values.length) : nxt (toldS s x) most a = ptE (evenL s x.Levels x.Shifts) most a := by
  have hN := told_nar h ha
  have h1 := nxt_good (s := toldS s x) (most := most) (a := a) (by rw [hN.nv]; exact hal)
  rw [hN.nv] at h1
  have hll := evenL_len s x.Levels x.Shifts
  have mono : ∀ (j k : Nat), j ≤ k → a + k < s.Values.length → (mxL (evenL s x.Levels x.Shifts) a j ≤ mxL (evenL s x.Levels x.Shifts) a k ∧ miL (evenL s x.Levels x.Shifts) a k ≤ miL (evenL s x.Levels x.Shifts) a j) := by
    intro j k hjk hk
    induction k with
    | zero => obtain rfl : j = 0 := by omega
              omega
    | succ k ih =>
      rcases Nat.lt_or_ge j (k + 1) with h2 | h2
      · have := ih (by omega) (by omega); simp only [mxL, miL]; omega
      · obtain rfl : j = k + 1 := by omega
        omega
  have step : ∀ j k : Nat, j < k → a + k < s.Values.length → (gt (evenL s x.Levels x.Shifts) (a + j) ≤ mxL (evenL s x.Levels x.Shifts) a k ∧ miL (evenL s x.Levels x.Shifts) a k ≤ gt (evenL s x.Levels x.Shifts) (a + j)) := fun j k hjk hk => by
    have := mono (j + 1) k hjk hk
    simp only [mxL, miL] at this
    omega
  have good : ∀ j, 0 < j → a + j < s.Values.length → (goodW (toldS s x) most a (a + j) ↔ ∀ i, i < j + 1 → ¬ ptP (evenL s x.Levels x.Shifts) most a i) := fun j hj0 hj => by
    unfold goodW
    rw [last_true, win_len, show a + j + 1 - a = j + 1 by omega]
    constructor
    · intro hg i hi
      have h2 := hg i hi
      unfold lastBad at h2
      rw [told_last h hj i (by omega)] at h2
      unfold ptP
      dsimp only at h2
      rcases Nat.eq_zero_or_pos i with h0 | h0
      · subst h0; simp only [mxL, miL, Nat.add_zero]; omega
      · omega
    · intro hg i hi
      have h2 := hg i hi
      unfold lastBad
      rw [told_last h hj i (by omega)]
      unfold ptP at h2
      dsimp only
      omega
  refine (ptE_yes (by omega) (by rw [hll]; omega) (fun j hj => ?_) ?_).symm
  · rcases Nat.eq_zero_or_pos j with h0 | h0
    · subst h0; exact ptP_zero hm
    · exact (good j h0 (by omega)).1 (h1.2.1 (a + j) (by omega) hj) j (by omega)
  · rcases Nat.lt_or_ge (nxt (toldS s x) most a) s.Values.length with h2 | h2
    · right
      have h3 := h1.2.2 h2
      obtain ⟨j, hj⟩ : ∃ j, nxt (toldS s x) most a = a + j := ⟨nxt (toldS s x) most a - a, by omega⟩
      rw [hj] at h1 h2 h3 ⊢
      rw [Nat.add_sub_cancel_left]
      apply Classical.byContradiction
      intro hn
      refine h3 ((good j (by omega) h2).2 fun i hi => ?_)
      rcases Nat.lt_succ_iff_lt_or_eq.1 hi with h4 | h4
      · rcases Nat.eq_zero_or_pos i with h0 | h0
        · subst h0; exact ptP_zero hm
        · exact (good i h0 (by omega)).1 (h1.2.1 (a + i) (by omega) (by omega)) i (by omega)
      · subst h4; exact hn
    · left; rw [hll]; omega
theorem told_parts {most : Int} (hm : 0 ≤ most) : ∀ (f a : Nat), a < s.Values.length → s.Values.length - a ≤ f → ((stpF (toldS s x) most f a).length : Int) + 1 = ptF (evenL s x.Levels x.Shifts) most (s.Values.length - a) a
  | 0, a, h1, h2 => by omega
  | f + 1, a, h1, h2 => by
    have hN := told_nar h ha
    have hll := evenL_len s x.Levels x.Shifts
    have hp := ptF_step (l := evenL s x.Levels x.Shifts) (most := most) (a := a) hm (by rw [hll]; exact h1)
    rw [hll] at hp
    have hg := ptE_gt (l := evenL s x.Levels x.Shifts) (most := most) (a := a) hm (by rw [hll]; exact h1)
    rw [hp]
    simp only [stpF]
    rw [told_nxt h ha hm h1, hN.nv]
    by_cases hn : ptE (evenL s x.Levels x.Shifts) most a < s.Values.length
    · rw [if_pos hn]
      have := told_parts hm f _ hn (by omega)
      simp only [List.length_cons]
      omega
    · rw [if_neg hn, show s.Values.length - ptE (evenL s x.Levels x.Shifts) most a = 0 by omega]
      simp [ptF]
theorem told_stp {most : Int} (h0 : (stpR (toldS s x) most).2 = 0) : (0 ≤ most ∧ most ≤ 24000) ∧ ((stpR (toldS s x) most).1.length : Int) + min 1 (s.Values.length : Int) = ptN (evenL s x.Levels x.Shifts) most := by
  have hN := told_nar h ha
  by_cases hm : 0 ≤ most ∧ most ≤ 24000
  · refine ⟨hm, ?_⟩
    rw [stpR_ok hN.ot.e hm rfl]
    show ((stpL (toldS s x) most).length : Int) + _ = _
    unfold stpL ptN
    rw [hN.nv, evenL_len]
    rcases Nat.eq_zero_or_pos s.Values.length with hz | hz
    · rw [hz]; simp [stpF, ptF]; omega
    · have := told_parts h ha hm.1 s.Values.length 0 hz (by omega)
      rw [Nat.sub_zero] at this
      omega
  · rw [stpR_arg hN.ot.e hm] at h0; cases h0
/-! ### slopes -/
theorem told_slope (h0 : (slopeR (toldS s x)).2.2 = 0) : 2 ≤ s.Values.length ∧ (slopeR (toldS s x)).1 = exactR s (evenL s x.Levels x.Shifts) ∧ (slopeR (toldS s x)).2.1 = exactR s (evenL s x.Levels x.Shifts) ∧ (0 < (trendR (toldS s x)).1 ↔ 0 < (exactR s (evenL s x.Levels x.Shifts)).Num) ∧ ((trendR (toldS s x)).1 < 0 ↔ (exactR s (evenL s x.Levels x.Shifts)).Num < 0) := by
  have hN := told_nar h ha
  obtain ⟨h2, he⟩ := slopeR_zero h0
  have e2 : twoVE (toldS s x) = twoVE s := by unfold twoVE; rw [hN.ot.e, hN.os.e, hN.nv]
  have hk := twoVE_zero (s := s) (by rw [← e2]; exact h2)
  have et : ∀ n, n ≤ s.Values.length → timN (toldS s x) n = timN s n := fun n hn => sumN_congr fun i hi => (hN.v i (by omega)).1
  have eq : ∀ n, n ≤ s.Values.length → sqN (toldS s x) n = sqN s n := fun n hn => sumN_congr fun i hi => by rw [(hN.v i (by omega)).1]
  have em : momL (toldS s x) = momL s := by
    unfold momL
    rw [hN.nv, et _ (Nat.le_refl _)]
    exact List.map_congr_left fun i hi => by rw [(hN.v i (List.mem_range.1 hi)).1]
  have ed : momD (toldS s x) = momD s := by unfold momD; rw [hN.nv, et _ (Nat.le_refl _), eq _ (Nat.le_refl _)]
  have hb := told_bd h ha (momL s)
  rw [← exS_even] at hb
  have hsg := low_sign (p := exS s (evenL s x.Levels x.Shifts)) (momD_pos h hk.2)
  have ht : (trendR (toldS s x)).1 = sureS ⟨exS s (evenL s x.Levels x.Shifts), exS s (evenL s x.Levels x.Shifts)⟩ := by
    rw [trendR_ok h2, slpS_ok h2]
    show sureS (bd (toldS s x) (momL (toldS s x))) = _
    rw [em, hb]
  rw [he, em, ed, hb, ht]
  refine ⟨hk.2, rfl, rfl, ?_, ?_⟩
  · unfold exactR
    rw [← hsg.1]
    unfold sureS
    dsimp only
    constructor
    · intro hh; split at hh; assumption; split at hh <;> omega
    · intro hh; rw [if_pos hh]; omega
  · unfold exactR
    rw [← hsg.2]
    unfold sureS
    dsimp only
    constructor
    · intro hh; split at hh; omega; split at hh; assumption; omega
    · intro hh; rw [if_neg (by omega), if_pos hh]; omega
end
theorem told_yes {s : Ser} {x : Rl} (h : (!(toldR s x).2) = false) : (Ok s ∧ agreeP s x.Levels x.Shifts) ∧ toldR s x = (toldS s x, true) := by
  by_cases hk : keepsE s x.Levels x.Shifts ≠ 0
  · rw [toldR, if_pos hk] at h; cases h
  · exact ⟨keepsE_zero (by omega), by rw [toldR, if_neg hk]⟩
end Go.Proofs.C8
