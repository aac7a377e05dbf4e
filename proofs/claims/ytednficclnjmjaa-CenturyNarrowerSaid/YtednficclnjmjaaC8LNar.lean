/- Century: narrower is narrower, in plain Lean. -/
import Derived.Test.YtednficclnjmjaaC8LReal
import Derived.Test.YtednficclnjmjaaC8LFall
import Derived.Test.YtednficclnjmjaaC8Know
import Derived.Test.YtednficclnjmjaaC8LAdj
namespace Go.Proofs.C8
open Go Go.Kx

/-- a series of which more is known -/
structure Nar (t s : Ser) : Prop where
  os : Ok s
  ot : Ok t
  nv : t.Values.length = s.Values.length
  nx : t.Shifts.length = s.Shifts.length
  v : ∀ i, i < s.Values.length → (gt t.Values i).Time = (gt s.Values i).Time ∧ (gt s.Values i).Levels.Lo ≤ (gt t.Values i).Levels.Lo ∧ (gt t.Values i).Levels.Hi ≤ (gt s.Values i).Levels.Hi
  x : ∀ i, i < s.Shifts.length → (gt t.Shifts i).Time = (gt s.Shifts i).Time ∧ (gt s.Shifts i).Levels.Lo ≤ (gt t.Shifts i).Levels.Lo ∧ (gt t.Shifts i).Levels.Hi ≤ (gt s.Shifts i).Levels.Hi
theorem cut_in {s : Span} {x : Mor} (h : -24000 ≤ s.Lo ∧ s.Lo ≤ s.Hi ∧ s.Hi ≤ 24000) : s.Lo ≤ (cutW s x).Lo ∧ (cutW s x).Lo ≤ (cutW s x).Hi ∧ (cutW s x).Hi ≤ s.Hi := by
  rw [(cutW_eq s x).1, (cutW_eq s x).2]
  have e1 : wr (s.Hi - s.Lo) = s.Hi - s.Lo := wr_in (by omega) (by omega)
  rw [e1]
  have e2 : max 0 (s.Hi - s.Lo) = s.Hi - s.Lo := by omega
  rw [e2]
  have e3 : wr (s.Lo + min (max x.Lo 0) (s.Hi - s.Lo)) = s.Lo + min (max x.Lo 0) (s.Hi - s.Lo) := wr_in (by omega) (by omega)
  have e4 : wr (s.Hi - s.Lo - min (max x.Lo 0) (s.Hi - s.Lo)) = s.Hi - s.Lo - min (max x.Lo 0) (s.Hi - s.Lo) := wr_in (by omega) (by omega)
  rw [e3, e4, wr_in (by omega) (by omega)]
  omega
theorem known_nar {s : Ser} {x : Mor} (h : Ok s) (hp : knownP s x) : Nar (knownS s x) s := by
  obtain ⟨h0, h1, h2⟩ := hp
  unfold knownS
  cases hs : x.Shift with
  | true =>
    have hi := h1 hs
    rw [if_pos rfl]
    have hc := cut_in (s := (gt s.Shifts x.At.toNat).Levels) (x := x) (by have := h.xl (i := x.At.toNat) (by omega); omega)
    have key : ∀ i, i < s.Shifts.length → (gt (s.Shifts.set x.At.toNat ⟨(gt s.Shifts x.At.toNat).Time, cutW (gt s.Shifts x.At.toNat).Levels x⟩) i).Time = (gt s.Shifts i).Time ∧
        (gt s.Shifts i).Levels.Lo ≤ (gt (s.Shifts.set x.At.toNat ⟨(gt s.Shifts x.At.toNat).Time, cutW (gt s.Shifts x.At.toNat).Levels x⟩) i).Levels.Lo ∧ (gt (s.Shifts.set x.At.toNat ⟨(gt s.Shifts x.At.toNat).Time, cutW (gt s.Shifts x.At.toNat).Levels x⟩) i).Levels.Hi ≤ (gt s.Shifts i).Levels.Hi ∧
        (gt (s.Shifts.set x.At.toNat ⟨(gt s.Shifts x.At.toNat).Time, cutW (gt s.Shifts x.At.toNat).Levels x⟩) i).Levels.Lo ≤ (gt (s.Shifts.set x.At.toNat ⟨(gt s.Shifts x.At.toNat).Time, cutW (gt s.Shifts x.At.toNat).Levels x⟩) i).Levels.Hi := fun i hi2 => by
      rw [gt_set _ _ hi2]
      by_cases he : x.At.toNat = i
      · rw [if_pos he]; subst he; dsimp only; omega
      · rw [if_neg he]; have := h.xl hi2; omega
    refine ⟨h, ⟨h.nV, by show (List.set _ _ _).length ≤ 64; rw [List.length_set]; exact h.nX, h.v, fun i hi2 => ?_⟩, rfl, by show (List.set _ _ _).length = _; rw [List.length_set], fun i _ => by dsimp only; omega, fun i hi2 => by have := key i hi2; dsimp only; omega⟩
    have hi3 : i < s.Shifts.length := by have : i < (List.set s.Shifts _ _).length := hi2; rwa [List.length_set] at this
    have k1 := key i hi3
    have k2 := h.x i hi3
    unfold badX at k2 ⊢
    dsimp only
    rcases Nat.eq_zero_or_pos i with hz | hz
    · omega
    · have k3 := key (i - 1) (by omega)
      omega
  | false =>
    have hi := h2 hs
    rw [if_neg (by simp)]
    have hc := cut_in (s := (gt s.Values x.At.toNat).Levels) (x := x) (by have := h.vl (i := x.At.toNat) (by omega); omega)
    have key : ∀ i, i < s.Values.length → (gt (s.Values.set x.At.toNat ⟨(gt s.Values x.At.toNat).Time, cutW (gt s.Values x.At.toNat).Levels x⟩) i).Time = (gt s.Values i).Time ∧
        (gt s.Values i).Levels.Lo ≤ (gt (s.Values.set x.At.toNat ⟨(gt s.Values x.At.toNat).Time, cutW (gt s.Values x.At.toNat).Levels x⟩) i).Levels.Lo ∧ (gt (s.Values.set x.At.toNat ⟨(gt s.Values x.At.toNat).Time, cutW (gt s.Values x.At.toNat).Levels x⟩) i).Levels.Hi ≤ (gt s.Values i).Levels.Hi ∧
        (gt (s.Values.set x.At.toNat ⟨(gt s.Values x.At.toNat).Time, cutW (gt s.Values x.At.toNat).Levels x⟩) i).Levels.Lo ≤ (gt (s.Values.set x.At.toNat ⟨(gt s.Values x.At.toNat).Time, cutW (gt s.Values x.At.toNat).Levels x⟩) i).Levels.Hi := fun i hi2 => by
      rw [gt_set _ _ hi2]
      by_cases he : x.At.toNat = i
      · rw [if_pos he]; subst he; dsimp only; omega
      · rw [if_neg he]; have := h.vl hi2; omega
    refine ⟨h, ⟨by show (List.set _ _ _).length ≤ 200; rw [List.length_set]; exact h.nV, h.nX, fun i hi2 => ?_, h.x⟩, by show (List.set _ _ _).length = _; rw [List.length_set], rfl, fun i hi2 => by have := key i hi2; dsimp only; omega, fun i _ => by dsimp only; omega⟩
    have hi3 : i < s.Values.length := by have : i < (List.set s.Values _ _).length := hi2; rwa [List.length_set] at this
    have k1 := key i hi3
    have k2 := h.v i hi3
    unfold badV at k2 ⊢
    dsimp only
    rcases Nat.eq_zero_or_pos i with hz | hz
    · omega
    · have k3 := key (i - 1) (by omega)
      omega
theorem mbR_val {s : Ser} (h : Ok s) (x : Span) : mbR s x = if ¬ spOk x 0 10000 then (⟨0, 0⟩, ⟨0, 0⟩, 1) else if wtC s x = 0 then (⟨0, 0⟩, ⟨0, 0⟩, 3) else (lowR (bd s (wtL s x 1)).Lo (wtC s x), lowR (bd s (wtL s x 1)).Hi (wtC s x), 0) := by
  unfold mbR; rw [if_neg (fun hn => hn h.e)]
theorem extR_ok1 {s : Ser} (h : Ok s) (x : Span) : extR s x = if ¬ spOk x 0 10000 then (⟨0, 0⟩, ⟨0, 0⟩, 1) else if (extN s x s.Values.length).2.2 = true then ((extN s x s.Values.length).1, (extN s x s.Values.length).2.1, 0) else (⟨0, 0⟩, ⟨0, 0⟩, 3) := by
  unfold extR; rw [if_neg (fun hn => hn h.e)]
theorem rankR_val {s : Ser} (h : Ok s) (c : Int) : rankR s c = if idxR s c < 0 then (⟨0, 0⟩, 3) else (rankN s (idxR s c).toNat s.Values.length, 0) := by
  unfold rankR; rw [if_neg (fun hn => hn h.e)]
theorem chgR_val {s : Ser} (h : Ok s) (a b : Span) : chgR s a b = if ¬ (spOk a 0 10000 ∧ spOk b 0 10000) then (0, 1) else if wtC s a = 0 ∨ wtC s b = 0 then (0, 3) else (sureS (bd s (chgL s a b)), 0) := by
  unfold chgR; rw [if_neg (fun hn => hn h.e)]
section
variable {t s : Ser}
theorem nar_agree (h : Nar t s) {lv sh : List Int} (ha : agreeP t lv sh) : agreeP s lv sh :=
  ⟨⟨by rw [ha.1.1, h.nv], by rw [ha.1.2, h.nx]⟩, fun i hi => by have := ha.2.1 i (by rw [h.nv]; exact hi); have := h.v i hi; omega, fun i hi => by have := ha.2.2 i (by rw [h.nx]; exact hi); have := h.x i hi; omega⟩
theorem nar_even (h : Nar t s) (lv sh : List Int) {i : Nat} (hi : i < s.Values.length) : evenAt t lv sh i = evenAt s lv sh i := by
  unfold evenAt offN
  rw [h.nx, (h.v i hi).1]
  congr 1
  exact sumN_congr fun k hk => by rw [(h.x k hk).1]
theorem end_agree {s : Ser} (h : Ok s) (f g : List Int) (b : Bool) : agreeP s (endV s f b) (endX s g b) :=
  ⟨⟨map_len _ _, map_len _ _⟩, fun i hi => by rw [endV, gt_map hi]; have := h.vl hi; unfold endS; split <;> omega, fun i hi => by rw [endX, gt_map hi]; have := h.xl hi; unfold endS; split <;> omega⟩
theorem nar_bd (h : Nar t s) (f : List Int) : (bd s f).Lo ≤ (bd t f).Lo ∧ (bd t f).Hi ≤ (bd s f).Hi := by
  have key : ∀ b, totS t f (sumXL t f) b = sumN (fun i => gt f i * evenAt s (endV t f b) (endX t (sumXL t f) b) i) s.Values.length := fun b => by
    have := lin_eq t f (endV t f b) (endX t (sumXL t f) b)
    unfold totS
    rw [← this, h.nv]
    exact sumN_congr fun i hi => by rw [nar_even h _ _ hi]
  have h1 := bd_in (nar_agree h (end_agree h.ot f (sumXL t f) false)) f
  have h2 := bd_in (nar_agree h (end_agree h.ot f (sumXL t f) true)) f
  show (bd s f).Lo ≤ totS t f (sumXL t f) false ∧ totS t f (sumXL t f) true ≤ (bd s f).Hi
  rw [key, key]
  exact ⟨h1.1, h2.2⟩
theorem nar_gap (h : Nar t s) (i k : Nat) : (gap s i k).Lo ≤ (gap t i k).Lo ∧ (gap t i k).Hi ≤ (gap s i k).Hi := by
  unfold gap
  rw [h.nv]
  exact nar_bd h _
theorem nar_wtN (h : Nar t s) (x : Span) : ∀ n : Nat, n ≤ s.Values.length → wtN t x n = wtN s x n
  | 0, _ => rfl
  | n + 1, hn => by simp only [wtN]; rw [nar_wtN h x n (by omega), (h.v n (by omega)).1]
theorem nar_wtC (h : Nar t s) (x : Span) : wtC t x = wtC s x := by unfold wtC; rw [h.nv]; exact nar_wtN h x _ (Nat.le_refl _)
theorem nar_wtL (h : Nar t s) (x : Span) (c : Int) : wtL t x c = wtL s x c := by
  unfold wtL
  rw [h.nv]
  exact List.map_congr_left fun i hi => by rw [(h.v i (List.mem_range.1 hi)).1]
theorem nar_mean (h : Nar t s) (x : Span) : (mbR t x).2.2 = (mbR s x).2.2 ∧ ((mbR s x).2.2 = 0 → (LBd (mbR s x).1 ∧ LBd (mbR s x).2.1 ∧ LBd (mbR t x).1 ∧ LBd (mbR t x).2.1) ∧ ¬ lessP (mbR t x).1 (mbR s x).1 ∧ ¬ lessP (mbR s x).2.1 (mbR t x).2.1) := by
  have he : (mbR t x).2.2 = (mbR s x).2.2 := by
    rw [mbR_val h.ot, mbR_val h.os, nar_wtC h]
    (repeat' split) <;> rfl
  refine ⟨he, fun h0 => ?_⟩
  obtain ⟨_, _, hw, e1⟩ := mbR_zero h0
  obtain ⟨_, _, _, e2⟩ := mbR_zero (he.trans h0)
  have hl := wtC_le s x
  have hn := h.os.nV
  have hb := nar_bd h (wtL s x 1)
  have b1 := bd_bd h.os (wt_fac (s := s) (x := x) (c := 1) (by omega))
  have b2 := bd_bd h.ot (wt_fac (s := t) (x := x) (c := 1) (by omega))
  rw [nar_wtL h] at b2
  rw [e1, e2, nar_wtC h, nar_wtL h]
  refine ⟨⟨low_bd (by omega) (by omega) b1.1, low_bd (by omega) (by omega) b1.2, low_bd (by omega) (by omega) b2.1, low_bd (by omega) (by omega) b2.2⟩, ?_, ?_⟩
  · rw [less_lows (by omega)]; omega
  · rw [less_lows (by omega)]; omega
theorem nar_evS (h : Nar t s) {i : Nat} (hi : i < s.Values.length) : (evS s i).Lo ≤ (evS t i).Lo ∧ (evS t i).Lo ≤ (evS t i).Hi ∧ (evS t i).Hi ≤ (evS s i).Hi := by
  have h1 := even_in h.os (nar_agree h (agree_low h.ot)) hi
  have h2 := even_in h.os (nar_agree h (agree_high h.ot)) hi
  rw [← nar_even h _ _ hi, even_low h.ot (by rw [h.nv]; exact hi)] at h1
  rw [← nar_even h _ _ hi, even_high h.ot (by rw [h.nv]; exact hi)] at h2
  have := evS_bd h.ot (i := i) (by rw [h.nv]; exact hi)
  omega
theorem nar_ext (h : Nar t s) (x : Span) : ∀ n : Nat, n ≤ s.Values.length → (extN t x n).2.2 = (extN s x n).2.2 ∧ ((extN s x n).1.Lo ≤ (extN t x n).1.Lo ∧ (extN t x n).1.Hi ≤ (extN s x n).1.Hi) ∧ ((extN s x n).2.1.Lo ≤ (extN t x n).2.1.Lo ∧ (extN t x n).2.1.Hi ≤ (extN s x n).2.1.Hi)
  | 0, _ => by simp [extN]
  | n + 1, hn => by
    obtain ⟨h1, h2, h3⟩ := nar_ext h x n (by omega)
    have h4 := nar_evS h (i := n) (by omega)
    have ht := (h.v n (by omega)).1
    by_cases hin : inT x (gt s.Values n).Time
    · have hin' : inT x (gt t.Values n).Time := by rw [ht]; exact hin
      cases hf : (extN s x n).2.2 with
      | true =>
        rw [ext_more hin hf, ext_more hin' (by rw [h1]; exact hf)]
        refine ⟨rfl, ?_, ?_⟩ <;> dsimp only <;> omega
      | false =>
        rw [ext_one hin hf, ext_one hin' (by rw [h1]; exact hf)]
        refine ⟨rfl, ?_, ?_⟩ <;> dsimp only <;> omega
    · have hin' : ¬ inT x (gt t.Values n).Time := by rw [ht]; exact hin
      have e1 : extN s x (n + 1) = extN s x n := by rw [extN, if_neg hin]
      have e2 : extN t x (n + 1) = extN t x n := by rw [extN, if_neg hin']
      rw [e1, e2]; exact ⟨h1, h2, h3⟩
theorem nar_extR (h : Nar t s) (x : Span) : (extR t x).2.2 = (extR s x).2.2 ∧ ((extR s x).1.Lo ≤ (extR t x).1.Lo ∧ (extR t x).1.Hi ≤ (extR s x).1.Hi) ∧ ((extR s x).2.1.Lo ≤ (extR t x).2.1.Lo ∧ (extR t x).2.1.Hi ≤ (extR s x).2.1.Hi) := by
  have hx := nar_ext h x _ (Nat.le_refl _)
  rw [extR_ok1 h.ot, extR_ok1 h.os, h.nv, hx.1]
  split
  · simp
  · split
    · exact ⟨rfl, hx.2⟩
    · simp
theorem nar_idx (h : Nar t s) (c : Int) : idxR t c = idxR s c := by
  unfold idxR idxT
  rw [h.nv, first_congr (p := fun i => (gt t.Values i).Time = c) (q := fun i => (gt s.Values i).Time = c) (fun i hi => by rw [(h.v i hi).1])]
theorem nar_rankN (h : Nar t s) (w : Nat) : ∀ n : Nat, (rankN s w n).Lo ≤ (rankN t w n).Lo ∧ (rankN t w n).Hi ≤ (rankN s w n).Hi
  | 0 => by simp [rankN]
  | n + 1 => by
    have h1 := nar_rankN h w n
    have h2 := nar_gap h n w
    simp only [rankN]
    by_cases hn : n = w
    · rw [if_pos hn, if_pos hn]; exact h1
    · rw [if_neg hn, if_neg hn]
      dsimp only
      constructor <;> (repeat' split) <;> omega
theorem nar_rank (h : Nar t s) (c : Int) : (rankR t c).2 = (rankR s c).2 ∧ (rankR s c).1.Lo ≤ (rankR t c).1.Lo ∧ (rankR t c).1.Hi ≤ (rankR s c).1.Hi := by
  rw [rankR_val h.ot, rankR_val h.os, nar_idx h, h.nv]
  split
  · simp
  · exact ⟨rfl, nar_rankN h _ _⟩
theorem sure_nar {b c : Span} (h : b.Lo ≤ c.Lo ∧ c.Hi ≤ b.Hi) (hc : c.Lo ≤ c.Hi) : sureS b ≠ 0 → sureS b = sureS c := by
  unfold sureS
  intro hs
  (repeat' split at hs) <;> (repeat' split) <;> omega
theorem nar_chg (h : Nar t s) (a b : Span) : (chgR t a b).2 = (chgR s a b).2 ∧ ((chgR s a b).1 ≠ 0 → (chgR s a b).1 = (chgR t a b).1) := by
  have e : chgL t a b = chgL s a b := by unfold chgL; rw [nar_wtC h, nar_wtC h, nar_wtL h, nar_wtL h]
  rw [chgR_val h.ot, chgR_val h.os, nar_wtC h, nar_wtC h, e]
  split
  · simp
  · split
    · simp
    · exact ⟨rfl, sure_nar (nar_bd h _) (by rw [← e]; exact bd_order h.ot (chg_fac h.ot a b))⟩
theorem nar_trend (h : Nar t s) : (trendR s).1 ≠ 0 → (trendR s).1 = (trendR t).1 := by
  have e2 : twoVE t = twoVE s := by unfold twoVE; rw [h.ot.e, h.os.e, h.nv]
  have et : timN t s.Values.length = timN s s.Values.length := sumN_congr fun i hi => (h.v i hi).1
  have em : momL t = momL s := by
    unfold momL
    rw [h.nv, et]
    exact List.map_congr_left fun i hi => by rw [(h.v i (List.mem_range.1 hi)).1]
  by_cases hz : twoVE s ≠ 0
  · rw [trendR_err hz]; intro hn; exact absurd rfl hn
  · have hz' : twoVE s = 0 := by omega
    rw [trendR_ok hz', trendR_ok (by rw [e2]; exact hz'), slpS_ok hz', slpS_ok (by rw [e2]; exact hz')]
    show sureS (bd s (momL s)) ≠ 0 → sureS (bd s (momL s)) = sureS (bd t (momL t))
    rw [em]
    exact sure_nar (nar_bd h _) (by rw [← em]; exact bd_order h.ot (momL_fac h.ot))
theorem nar_fall (h : Nar t s) (h0 : (fallR s).2 = 0) : (fallR t).2 = 0 ∧ (fallR s).1.length = 2 := by
  refine ⟨?_, (fall_real h.os h0).1⟩
  rcases fall_cases h.os with ⟨i, k, h1, h2, h3, _⟩ | ⟨_, h4⟩
  · rcases fall_cases h.ot with ⟨_, _, _, _, _, h5⟩ | ⟨h5, _⟩
    · rw [h5]
    · have := h5 i k h1 (by rw [h.nv]; exact h2)
      have := nar_gap h k i
      omega
  · rw [h4] at h0; cases h0
end
theorem known_yes {s : Ser} {x : Mor} (h : (!(knownR s x).2) = false) (ho : Ok s) : Nar (knownR s x).1 s := by
  by_cases hp : knownP s x
  · have e : knownR s x = (knownS s x, true) := by rw [knownR, if_pos hp]
    rw [e]; exact known_nar ho hp
  · rw [knownR, if_neg hp] at h; cases h
/-! ### steps -/
def goodW (s : Ser) (most : Int) (a b : Nat) : Prop := (lastR (winOf s a b) most).2 = true
theorem last_true (w : Win) (most : Int) : (lastR w most).2 = true ↔ ∀ j, j < w.levels.length → ¬ lastBad w most j := by
  rcases first_cases (lastBad w most) w.levels.length with ⟨_, h2⟩ | ⟨h1, h2, h3⟩
  · rw [lastR_ok h2]; exact ⟨fun _ => h2, fun _ => rfl⟩
  · rw [lastR_bad h1 h3 h2]; exact ⟨fun h => (by cases h), fun h => absurd h2 (h _ h1)⟩
theorem win_at (s : Ser) {a b i : Nat} (hi : a + i ≤ b) : gt (winOf s a b).levels i = (gt s.Values (a + i)).Levels := gt_map (by omega)
theorem win_xt (s : Ser) {a b i : Nat} (hi : a + i + 1 ≤ b) : gt (winOf s a b).shifts i = bt s.Shifts (gt s.Values (a + i)).Time (gt s.Values (a + i + 1)).Time := gt_map (by omega)
theorem win_len (s : Ser) (a b : Nat) : (winOf s a b).levels.length = b + 1 - a := map_len _ _
theorem nar_bt {t s : Ser} (h : Nar t s) (a b : Int) : (bt s.Shifts a b).Lo ≤ (bt t.Shifts a b).Lo ∧ (bt t.Shifts a b).Hi ≤ (bt s.Shifts a b).Hi := by
  unfold bt btLo btHi
  dsimp only
  rw [h.nx]
  constructor <;> refine sumN_le fun k hk => ?_ <;> have := h.x k hk <;> rw [this.1] <;> split <;> omega
theorem nar_last {t s : Ser} (h : Nar t s) {most : Int} {a d b : Nat} (hb : b < s.Values.length) : ∀ i : Nat, a + d + i ≤ b →
    (lastAt (winOf s (a + d) b) most i).Lo ≤ (lastAt (winOf t a b) most (d + i)).Lo ∧ (lastAt (winOf t a b) most (d + i)).Hi ≤ (lastAt (winOf s (a + d) b) most i).Hi
  | 0, hi => by
    have hv := h.v (a + d) (by omega)
    have e : ∀ j, j = d → (gt (winOf t a b).levels j).Lo - most ≤ (lastAt (winOf t a b) most j).Lo ∧ (lastAt (winOf t a b) most j).Hi ≤ (gt (winOf t a b).levels j).Hi := fun j _ => by
      cases j with
      | zero => simp only [lastAt]; omega
      | succ j => simp only [lastAt]; omega
    have e1 := e d rfl
    rw [win_at t (by omega)] at e1
    simp only [lastAt]
    rw [win_at s (by omega)]
    simp only [Nat.add_zero]
    omega
  | i + 1, hi => by
    have h1 := nar_last h (most := most) (a := a) (d := d) hb i (by omega)
    have hv := h.v (a + d + (i + 1)) (by omega)
    have hv0 := h.v (a + d + i) (by omega)
    have hx := nar_bt h (gt s.Values (a + d + i)).Time (gt s.Values (a + d + i + 1)).Time
    rw [show d + (i + 1) = d + i + 1 by omega]
    simp only [lastAt]
    rw [win_at s (by omega), win_at t (by omega), win_xt s (by omega), win_xt t (by omega)]
    rw [show a + (d + i + 1) = a + d + (i + 1) by omega, show a + (d + i) = a + d + i by omega, show a + d + (i + 1) = a + d + i + 1 by omega] at *
    rw [hv.1, hv0.1]
    omega
theorem nar_good {t s : Ser} (h : Nar t s) {most : Int} {a a' b : Nat} (ha : a ≤ a') (hab : a' ≤ b) (hb : b < s.Values.length) (hg : goodW t most a b) : goodW s most a' b := by
  obtain ⟨d, rfl⟩ : ∃ d, a' = a + d := ⟨a' - a, by omega⟩
  unfold goodW at hg ⊢
  rw [last_true] at hg ⊢
  intro j hj hbad
  rw [win_len] at hj
  have h1 := nar_last h (most := most) (a := a) (d := d) hb j (by omega)
  have h2 := hg (d + j) (by rw [win_len]; omega)
  unfold lastBad at h2 hbad
  omega
theorem nxt_good {s : Ser} {most : Int} {a : Nat} (ha : a < s.Values.length) : (a < nxt s most a ∧ nxt s most a ≤ s.Values.length) ∧ (∀ b, a < b → b < nxt s most a → goodW s most a b) ∧ (nxt s most a < s.Values.length → ¬ goodW s most a (nxt s most a)) := by
  unfold nxt
  rcases first_cases (nxtP s most a) (s.Values.length - (a + 1)) with ⟨h1, h2⟩ | ⟨h1, h2, h3⟩
  · rw [h1]
    refine ⟨by omega, fun b hb1 hb2 => ?_, fun h => by omega⟩
    have := h2 (b - (a + 1)) (by omega)
    unfold nxtP at this
    rw [show a + 1 + (b - (a + 1)) = b by omega] at this
    unfold goodW
    simpa using this
  · refine ⟨by omega, fun b hb1 hb2 => ?_, fun _ hg => ?_⟩
    · have := h3 (b - (a + 1)) (by omega)
      unfold nxtP at this
      rw [show a + 1 + (b - (a + 1)) = b by omega] at this
      unfold goodW
      simpa using this
    · unfold nxtP at h2
      unfold goodW at hg
      have h2' : (lastR (winOf s a (a + 1 + first (nxtP s most a) (s.Values.length - (a + 1)))) most).2 = false := h2
      exact absurd (hg.symm.trans h2') (by simp)
theorem nar_nxt {t s : Ser} (h : Nar t s) {most : Int} {a b : Nat} (hba : b ≤ a) (ha : a < s.Values.length) : nxt t most b ≤ nxt s most a := by
  have h1 := nxt_good (s := s) (most := most) ha
  have h2 := nxt_good (s := t) (most := most) (a := b) (by rw [h.nv]; omega)
  rw [h.nv] at h2
  apply Classical.byContradiction
  intro hn
  exact h1.2.2 (by omega) (nar_good h hba (by omega) (by omega) (h2.2.1 _ (by omega) (by omega)))
theorem nar_stpF {t s : Ser} (h : Nar t s) {most : Int} : ∀ (f a b : Nat), b ≤ a → a < s.Values.length → (stpF s most f a).length ≤ (stpF t most f b).length
  | 0, _, _, _, _ => Nat.le_refl _
  | f + 1, a, b, hba, ha => by
    have h1 := nar_nxt h (most := most) hba ha
    simp only [stpF]
    by_cases hn : nxt s most a < s.Values.length
    · rw [if_pos hn, if_pos (by rw [h.nv]; omega)]
      simp only [List.length_cons]
      have := nar_stpF h (most := most) f _ _ h1 hn
      omega
    · rw [if_neg hn]; simp
theorem nar_stp {t s : Ser} (h : Nar t s) (most : Int) : (stpR t most).2 = (stpR s most).2 ∧ (stpR s most).1.length ≤ (stpR t most).1.length := by
  have he : stpE t most = stpE s most := by unfold stpE; rw [h.ot.e, h.os.e]
  unfold stpR
  rw [he]
  split
  · simp
  · refine ⟨rfl, ?_⟩
    show (stpL s most).length ≤ (stpL t most).length
    unfold stpL
    rw [h.nv]
    rcases Nat.eq_zero_or_pos s.Values.length with h0 | h0
    · rw [h0]; simp [stpF]
    · exact nar_stpF h _ 0 0 (Nat.le_refl _) h0
end Go.Proofs.C8
