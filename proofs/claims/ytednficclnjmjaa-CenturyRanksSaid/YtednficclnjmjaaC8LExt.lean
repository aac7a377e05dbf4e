/- Century: extremes and ranks, whoever found the levels, in plain Lean. -/
import Derived.Test.YtednficclnjmjaaC8Lin
namespace Go.Proofs.C8
open Go Go.Kx

theorem even_in {s : Ser} (h : Ok s) {lv sh : List Int} (ha : agreeP s lv sh) {i : Nat} (hi : i < s.Values.length) : (evS s i).Lo ≤ evenAt s lv sh i ∧ evenAt s lv sh i ≤ (evS s i).Hi := by
  have h1 := ha.2.1 i hi
  have h2 : btLo s.Shifts (-1) (gt s.Values i).Time s.Shifts.length ≤ offN s.Shifts sh (gt s.Values i).Time s.Shifts.length := sumN_le fun k hk => by
    have := ha.2.2 k hk; have := (h.xt hk).1
    by_cases h3 : (gt s.Shifts k).Time ≤ (gt s.Values i).Time
    · rw [if_pos h3, if_pos ⟨by omega, h3⟩]; omega
    · rw [if_neg h3, if_neg (fun h4 => h3 h4.2)]; omega
  have h3 : offN s.Shifts sh (gt s.Values i).Time s.Shifts.length ≤ btHi s.Shifts (-1) (gt s.Values i).Time s.Shifts.length := sumN_le fun k hk => by
    have := ha.2.2 k hk; have := (h.xt hk).1
    by_cases h3 : (gt s.Shifts k).Time ≤ (gt s.Values i).Time
    · rw [if_pos h3, if_pos ⟨by omega, h3⟩]; omega
    · rw [if_neg h3, if_neg (fun h4 => h3 h4.2)]; omega
  unfold evenAt evS
  dsimp only
  omega
theorem mnC_len {s : Ser} {l : List Int} (h : l.length = s.Values.length) : mnC s l = s.Values.length := by unfold mnC; omega
theorem ext_mean {s : Ser} {x : Span} {l : List Int} (hb : ∀ i, i < s.Values.length → -1000000 ≤ gt l i ∧ gt l i ≤ 1000000) (hl : ∀ i, i < s.Values.length → (evS s i).Lo ≤ gt l i ∧ gt l i ≤ (evS s i).Hi) :
    ∀ n : Nat, n ≤ s.Values.length → ((extN s x n).2.2 = true → 0 < mnD s x n ∧ ((extN s x n).1.Lo ≤ (mnE s l x n).Lo ∧ (mnE s l x n).Lo ≤ (extN s x n).1.Hi) ∧ ((extN s x n).2.1.Lo ≤ (mnE s l x n).Hi ∧ (mnE s l x n).Hi ≤ (extN s x n).2.1.Hi)) ∧
      ((extN s x n).2.2 = false → mnD s x n = 0 ∧ mnE s l x n = ⟨1099511627776, -1099511627776⟩)
  | 0, _ => ⟨fun h => (by cases h), fun _ => ⟨rfl, rfl⟩⟩
  | n + 1, hn => by
    obtain ⟨h1, h2⟩ := ext_mean hb hl n (by omega)
    have h3 := hl n (by omega)
    have h4 := hb n (by omega)
    by_cases hin : inT x (gt s.Values n).Time
    · have hd : mnD s x (n + 1) = mnD s x n + 1 := by rw [mnD, if_pos hin]
      have he : mnE s l x (n + 1) = ⟨min (mnE s l x n).Lo (gt l n), max (mnE s l x n).Hi (gt l n)⟩ := by rw [mnE, if_pos hin]
      rw [hd, he]
      cases hf : (extN s x n).2.2 with
      | true =>
        rw [ext_more hin hf]
        obtain ⟨h5, h6, h7⟩ := h1 hf
        exact ⟨fun _ => by dsimp only; omega, fun h => by cases h⟩
      | false =>
        rw [ext_one hin hf]
        obtain ⟨h5, h6⟩ := h2 hf
        rw [h5, h6]
        exact ⟨fun _ => by dsimp only; omega, fun h => by cases h⟩
    · have hd : mnD s x (n + 1) = mnD s x n := by rw [mnD, if_neg hin]; omega
      have he : mnE s l x (n + 1) = mnE s l x n := by rw [mnE, if_neg hin]
      have hx : extN s x (n + 1) = extN s x n := by rw [extN, if_neg hin]
      rw [hd, he, hx]
      exact ⟨h1, h2⟩
/-- the ends are reached -/
theorem ext_mean_eq {s : Ser} (h : Ok s) {x : Span} {l : List Int} (b : Bool) (hl : ∀ i, i < s.Values.length → gt l i = if b = true then (evS s i).Hi else (evS s i).Lo) :
    ∀ n : Nat, n ≤ s.Values.length → ((extN s x n).2.2 = true → 0 < mnD s x n ∧ (mnE s l x n).Lo = (if b = true then (extN s x n).1.Hi else (extN s x n).1.Lo) ∧ (mnE s l x n).Hi = (if b = true then (extN s x n).2.1.Hi else (extN s x n).2.1.Lo)) ∧
      ((extN s x n).2.2 = false → mnD s x n = 0 ∧ mnE s l x n = ⟨1099511627776, -1099511627776⟩)
  | 0, _ => ⟨fun h => (by cases h), fun _ => ⟨rfl, rfl⟩⟩
  | n + 1, hn => by
    obtain ⟨h1, h2⟩ := ext_mean_eq h b hl n (by omega)
    have h3 := hl n (by omega)
    have h4 := evS_bd h (i := n) (by omega)
    by_cases hin : inT x (gt s.Values n).Time
    · have hd : mnD s x (n + 1) = mnD s x n + 1 := by rw [mnD, if_pos hin]
      have he : mnE s l x (n + 1) = ⟨min (mnE s l x n).Lo (gt l n), max (mnE s l x n).Hi (gt l n)⟩ := by rw [mnE, if_pos hin]
      rw [hd, he]
      cases hf : (extN s x n).2.2 with
      | true =>
        rw [ext_more hin hf]
        obtain ⟨h5, h6, h7⟩ := h1 hf
        refine ⟨fun _ => ⟨by omega, ?_, ?_⟩, fun h => by cases h⟩ <;> (dsimp only; rw [h3]; first | rw [h6] | rw [h7]) <;> cases b <;> simp
      | false =>
        rw [ext_one hin hf]
        obtain ⟨h5, h6⟩ := h2 hf
        rw [h5, h6]
        refine ⟨fun _ => ⟨by omega, ?_, ?_⟩, fun h => by cases h⟩ <;> (dsimp only; rw [h3]) <;> cases b <;> simp <;> omega
    · have hd : mnD s x (n + 1) = mnD s x n := by rw [mnD, if_neg hin]; omega
      have he : mnE s l x (n + 1) = mnE s l x n := by rw [mnE, if_neg hin]
      have hx : extN s x (n + 1) = extN s x n := by rw [extN, if_neg hin]
      rw [hd, he, hx]
      exact ⟨h1, h2⟩
theorem extR_zero {s : Ser} {x : Span} (h : (extR s x).2.2 = 0) : Ok s ∧ spOk x 0 10000 ∧ (extN s x s.Values.length).2.2 = true ∧ extR s x = ((extN s x s.Values.length).1, (extN s x s.Values.length).2.1, 0) := by
  unfold extR at h ⊢
  by_cases h1 : chkE s ≠ 0
  · rw [if_pos h1] at h; exact absurd h h1
  · rw [if_neg h1] at h ⊢
    by_cases h2 : ¬ spOk x 0 10000
    · rw [if_pos h2] at h; cases h
    · rw [if_neg h2] at h ⊢
      cases hf : (extN s x s.Values.length).2.2 with
      | false => rw [hf] at h; simp at h
      | true => exact ⟨Ok.of (by omega), by simpa using h2, rfl, by simp⟩
theorem extR_bad {s : Ser} {x : Span} (h : (extR s x).2.2 ≠ 0) : (extR s x).1 = ⟨0, 0⟩ ∧ (extR s x).2.1 = ⟨0, 0⟩ := by
  unfold extR at h ⊢
  by_cases h1 : chkE s ≠ 0
  · rw [if_pos h1]; exact ⟨rfl, rfl⟩
  · rw [if_neg h1] at h ⊢
    by_cases h2 : ¬ spOk x 0 10000
    · rw [if_pos h2]; exact ⟨rfl, rfl⟩
    · rw [if_neg h2] at h ⊢
      cases hf : (extN s x s.Values.length).2.2 with
      | false => simp
      | true => rw [hf] at h; exact absurd rfl h
theorem ends_low (s : Ser) : (endsR s false).Levels = (lowP s).levels ∧ (endsR s false).Shifts = (lowP s).shifts := by simp [endsR, lowP]
theorem ends_high (s : Ser) : (endsR s true).Levels = (highP s).levels ∧ (endsR s true).Shifts = (highP s).shifts := by simp [endsR, highP]
theorem ends_agree {s : Ser} (h : Ok s) (b : Bool) : agreeP s (endsR s b).Levels (endsR s b).Shifts := by
  cases b with
  | false => rw [(ends_low s).1, (ends_low s).2]; exact agree_low h
  | true => rw [(ends_high s).1, (ends_high s).2]; exact agree_high h
theorem ends_even {s : Ser} (h : Ok s) (b : Bool) {i : Nat} (hi : i < s.Values.length) : gt (evenL s (endsR s b).Levels (endsR s b).Shifts) i = if b = true then (evS s i).Hi else (evS s i).Lo := by
  rw [evenL_at hi]
  cases b with
  | false => rw [(ends_low s).1, (ends_low s).2]; exact even_low h hi
  | true => rw [(ends_high s).1, (ends_high s).2]; exact even_high h hi
theorem ends_mean {s : Ser} (h : Ok s) {x : Span} (hx : (extN s x s.Values.length).2.2 = true) (b : Bool) :
    0 < (meanR s (evenL s (endsR s b).Levels (endsR s b).Shifts) x).1.Den ∧ (meanR s (evenL s (endsR s b).Levels (endsR s b).Shifts) x).2.1.Lo = (if b = true then (extN s x s.Values.length).1.Hi else (extN s x s.Values.length).1.Lo) ∧
      (meanR s (evenL s (endsR s b).Levels (endsR s b).Shifts) x).2.1.Hi = (if b = true then (extN s x s.Values.length).2.1.Hi else (extN s x s.Values.length).2.1.Lo) := by
  unfold meanR
  rw [mnC_len (evenL_len _ _ _)]
  exact (ext_mean_eq h b (fun i hi => ends_even h b hi) _ (Nat.le_refl _)).1 hx
theorem any_mean {s : Ser} (h : Ok s) {x : Span} (hx : (extN s x s.Values.length).2.2 = true) {lv sh : List Int} (ha : agreeP s lv sh) :
    0 < (meanR s (evenL s lv sh) x).1.Den ∧ inT (extN s x s.Values.length).1 (meanR s (evenL s lv sh) x).2.1.Lo ∧ inT (extN s x s.Values.length).2.1 (meanR s (evenL s lv sh) x).2.1.Hi := by
  unfold meanR
  rw [mnC_len (evenL_len _ _ _)]
  have := (ext_mean (x := x) (l := evenL s lv sh) (fun i hi => evenL_bd h ha i (by rw [evenL_len]; exact hi)) (fun i hi => by rw [evenL_at hi]; exact even_in h ha hi) _ (Nat.le_refl _)).1 hx
  unfold inT
  exact this

/-! ### ranks -/
theorem rank_in {s : Ser} {lv sh : List Int} (ha : agreeP s lv sh) {w : Nat} (hw : w < s.Values.length) : ∀ n : Nat, n ≤ s.Values.length → (rankN s w n).Lo ≤ lowerN (evenL s lv sh) w n ∧ lowerN (evenL s lv sh) w n ≤ (rankN s w n).Hi
  | 0, _ => by simp [rankN, lowerN]
  | n + 1, hn => by
    have h1 := rank_in ha hw n (by omega)
    simp only [lowerN, rankN]
    rw [evenL_at (by omega), evenL_at hw]
    by_cases hnw : n = w
    · subst hnw; rw [if_pos rfl, if_neg (by omega)]; omega
    · rw [if_neg hnw]
      have h2 := gap_in ha (i := n) (k := w) (by omega) hw
      dsimp only
      (repeat' split) <;> omega
theorem best_agree {s : Ser} (h : Ok s) (w : Int) (b : Bool) : agreeP s (bestR s w b).Levels (bestR s w b).Shifts :=
  ⟨⟨map_len _ _, map_len _ _⟩, fun i hi => by unfold bestR; dsimp only; rw [gt_map hi]; have := h.vl hi; split <;> omega, fun i hi => by unfold bestR; dsimp only; rw [gt_map hi]; have := h.xl hi; split <;> omega⟩
theorem best_gap {s : Ser} {w k : Nat} (hw : w < s.Values.length) (hk : k < s.Values.length) (hkw : k ≠ w) (b : Bool) :
    evenAt s (bestR s w b).Levels (bestR s w b).Shifts k - evenAt s (bestR s w b).Levels (bestR s w b).Shifts w = if b = true then (gap s k w).Lo else (gap s k w).Hi := by
  have hc : ¬ ((k : Int) = (w : Int)) := by omega
  have := gap_at (s := s) (lv := (bestR s w b).Levels) (sh := (bestR s w b).Shifts) hk hw hkw (!b) (by
    unfold bestR; dsimp only; rw [gt_map hk, decide_eq_false hc]; cases b <;> simp) (by
    unfold bestR; dsimp only; rw [gt_map hw, decide_eq_true rfl]; cases b <;> simp) (fun j hj h1 h2 => by
    unfold bestR; dsimp only; rw [gt_map hj]; cases b <;> simp [h2]) (fun j hj h1 h2 => by
    unfold bestR; dsimp only; rw [gt_map hj]; cases b <;> simp [h2])
  rw [this]
  cases b <;> simp
theorem best_rank {s : Ser} {w : Nat} (hw : w < s.Values.length) (b : Bool) : ∀ n : Nat, n ≤ s.Values.length → lowerN (evenL s (bestR s w b).Levels (bestR s w b).Shifts) w n = if b = true then (rankN s w n).Hi else (rankN s w n).Lo
  | 0, _ => by cases b <;> simp [rankN, lowerN]
  | n + 1, hn => by
    have h1 := best_rank hw b n (by omega)
    simp only [lowerN, rankN]
    rw [evenL_at (by omega), evenL_at hw, h1]
    by_cases hnw : n = w
    · subst hnw; cases b <;> simp
    · rw [if_neg hnw]
      have h2 := best_gap hw (k := n) (by omega) hnw b
      cases b with
      | true => simp only [if_true] at h2 ⊢; (repeat' split) <;> omega
      | false => simp only [Bool.false_eq_true, if_false] at h2 ⊢; (repeat' split) <;> omega
theorem rankR_ok {s : Ser} (h : Ok s) {w : Nat} (hw : w < s.Values.length) : rankR s (gt s.Values w).Time = (rankN s w s.Values.length, 0) := by
  have h1 := idx_uniq h hw rfl
  rw [rankR, if_neg (fun hn => hn h.e), h1, if_neg (by omega)]
  simp
theorem ends_mean2 {s : Ser} {x : Span} (hx : Ok s ∧ spOk x 0 10000 ∧ (extN s x s.Values.length).2.2 = true ∧ extR s x = ((extN s x s.Values.length).1, (extN s x s.Values.length).2.1, 0)) (b : Bool) :
    0 < (meanR s (evenL s (endsR s b).Levels (endsR s b).Shifts) x).1.Den ∧ (b = false → (meanR s (evenL s (endsR s b).Levels (endsR s b).Shifts) x).2.1.Lo = (extR s x).1.Lo ∧ (meanR s (evenL s (endsR s b).Levels (endsR s b).Shifts) x).2.1.Hi = (extR s x).2.1.Lo) ∧
      (b = true → (meanR s (evenL s (endsR s b).Levels (endsR s b).Shifts) x).2.1.Lo = (extR s x).1.Hi ∧ (meanR s (evenL s (endsR s b).Levels (endsR s b).Shifts) x).2.1.Hi = (extR s x).2.1.Hi) := by
  have h := ends_mean hx.1 hx.2.2.1 b
  rw [hx.2.2.2]
  refine ⟨h.1, fun hb => ?_, fun hb => ?_⟩
  · subst hb; exact ⟨by simpa using h.2.1, by simpa using h.2.2⟩
  · subst hb; exact ⟨by simpa using h.2.1, by simpa using h.2.2⟩
theorem any_mean2 {s : Ser} {x : Span} (hx : Ok s ∧ spOk x 0 10000 ∧ (extN s x s.Values.length).2.2 = true ∧ extR s x = ((extN s x s.Values.length).1, (extN s x s.Values.length).2.1, 0)) {lv sh : List Int} (ha : agreeP s lv sh) :
    0 < (meanR s (evenL s lv sh) x).1.Den ∧ inT (extR s x).1 (meanR s (evenL s lv sh) x).2.1.Lo ∧ inT (extR s x).2.1 (meanR s (evenL s lv sh) x).2.1.Hi := by
  rw [hx.2.2.2]
  exact any_mean hx.1 hx.2.2.1 ha
theorem rank_in2 {s : Ser} {lv sh : List Int} (ha : agreeP s lv sh) {w : Nat} (hw : w < s.Values.length) : inT (rankN s w s.Values.length) (lowerN (evenL s lv sh) w (evenL s lv sh).length) := by
  rw [evenL_len]
  exact rank_in ha hw _ (Nat.le_refl _)
theorem best_rank2 {s : Ser} {c : Int} (h0 : 0 ≤ c) (hc : c < s.Values.length) (b : Bool) :
    (b = false → lowerN (evenL s (bestR s c b).Levels (bestR s c b).Shifts) c.toNat (evenL s (bestR s c b).Levels (bestR s c b).Shifts).length = (rankN s c.toNat s.Values.length).Lo) ∧
    (b = true → lowerN (evenL s (bestR s c b).Levels (bestR s c b).Shifts) c.toNat (evenL s (bestR s c b).Levels (bestR s c b).Shifts).length = (rankN s c.toNat s.Values.length).Hi) := by
  have h := best_rank (s := s) (w := c.toNat) (by omega) b _ (Nat.le_refl _)
  rw [show ((c.toNat : Nat) : Int) = c by omega] at h
  rw [evenL_len, h]
  exact ⟨fun hb => by rw [hb]; simp, fun hb => by rw [hb]; simp⟩
end Go.Proofs.C8
