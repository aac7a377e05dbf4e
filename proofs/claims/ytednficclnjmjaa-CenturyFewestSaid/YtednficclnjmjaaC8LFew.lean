import Derived.Test.YtednficclnjmjaaC8Cut
import Derived.Test.YtednficclnjmjaaC8LExact
/- Century: the fewest steps, in plain Lean. -/
namespace Go.Proofs.C8
open Go Go.Kx

theorem even_parts {s : Ser} {x : Rl} {most : Int} (h0 : (stpR s most).2 = 0) (he : (evenR s x.Levels x.Shifts).2 = 0) :
    ((stpR s most).1.length : Int) + min 1 ((evenR s x.Levels x.Shifts).1.length : Int) ≤ ptN (evenR s x.Levels x.Shifts).1 most := by
  obtain ⟨h1, h2, h3⟩ := evenR_ok he
  have hN := told_nar h1 h2
  have h4 := nar_stp hN most
  have h5 := told_stp h1 h2 (most := most) (by rw [h4.1]; exact h0)
  rw [h3]
  dsimp only
  rw [evenL_len]
  omega
theorem stpR_zero {s : Ser} {most : Int} (h : (stpR s most).2 = 0) : Ok s ∧ (0 ≤ most ∧ most ≤ 24000) ∧ (stpR s most).1 = stpL s most := by
  unfold stpR at h ⊢
  split at h
  · rename_i h1; exact absurd h h1
  · rename_i h1
    rw [if_neg h1]
    unfold stpE at h1
    split at h1
    · rename_i h2; exact absurd h2 h1
    · rename_i h2
      split at h1
      · exact absurd (by decide) h1
      · rename_i h3
        exact ⟨Ok.of (Decidable.of_not_not h2), Decidable.of_not_not h3, rfl⟩
/-! ### with a greater number there are no more -/
theorem last_most (w : Win) {m m' : Int} (hm : m ≤ m') : ∀ i : Nat, (lastAt w m' i).Lo ≤ (lastAt w m i).Lo ∧ (lastAt w m i).Hi = (lastAt w m' i).Hi
  | 0 => ⟨by show (gt w.levels 0).Lo - m' ≤ (gt w.levels 0).Lo - m; omega, rfl⟩
  | i + 1 => by
    have h := last_most w hm i
    refine ⟨?_, ?_⟩
    · show max ((gt w.levels (i + 1)).Lo - m') ((lastAt w m' i).Lo + (gt w.shifts i).Lo) ≤ max ((gt w.levels (i + 1)).Lo - m) ((lastAt w m i).Lo + (gt w.shifts i).Lo)
      omega
    · show min (gt w.levels (i + 1)).Hi ((lastAt w m i).Hi + (gt w.shifts i).Hi) = min (gt w.levels (i + 1)).Hi ((lastAt w m' i).Hi + (gt w.shifts i).Hi)
      rw [h.2]
theorem good_most {s : Ser} {m m' : Int} (hm : m ≤ m') {a b : Nat} (h : goodW s m a b) : goodW s m' a b := by
  unfold goodW at h ⊢
  rw [last_true] at h ⊢
  intro j hj hb
  have h1 := last_most (winOf s a b) hm j
  have h2 := h j hj
  unfold lastBad at h2 hb
  omega
theorem nar_self {s : Ser} (h : Ok s) : Nar s s := ⟨h, h, rfl, rfl, fun _ _ => ⟨rfl, Int.le_refl _, Int.le_refl _⟩, fun _ _ => ⟨rfl, Int.le_refl _, Int.le_refl _⟩⟩
theorem most_nxt {s : Ser} (h : Ok s) {m m' : Int} (hm : m ≤ m') {a b : Nat} (hba : b ≤ a) (ha : a < s.Values.length) : nxt s m b ≤ nxt s m' a := by
  have h1 := nxt_good (s := s) (most := m') ha
  have h2 := nxt_good (s := s) (most := m) (a := b) (by omega)
  apply Classical.byContradiction
  intro hn
  exact h1.2.2 (by omega) (good_most hm (nar_good (nar_self h) hba (by omega) (by omega) (h2.2.1 _ (by omega) (by omega))))
theorem most_stpF {s : Ser} (h : Ok s) {m m' : Int} (hm : m ≤ m') : ∀ (f a b : Nat), b ≤ a → a < s.Values.length → (stpF s m' f a).length ≤ (stpF s m f b).length
  | 0, _, _, _, _ => Nat.le_refl _
  | f + 1, a, b, hba, ha => by
    have h1 := most_nxt h hm hba ha
    simp only [stpF]
    by_cases hn : nxt s m' a < s.Values.length
    · rw [if_pos hn, if_pos (by omega)]
      simp only [List.length_cons]
      have := most_stpF h hm f _ _ h1 hn
      omega
    · rw [if_neg hn]; simp
theorem more_stp {s : Ser} {most : Int} (h0 : (stpR s most).2 = 0) (h1 : (stpR s (most + 1)).2 = 0) : (stpR s (most + 1)).1.length ≤ (stpR s most).1.length := by
  obtain ⟨a1, _, a3⟩ := stpR_zero h0
  obtain ⟨_, _, b3⟩ := stpR_zero h1
  rw [a3, b3]
  unfold stpL
  by_cases hz : s.Values.length = 0
  · rw [hz]; simp [stpF]
  · exact most_stpF a1 (by omega) _ 0 0 (Nat.le_refl _) (by omega)
/-! ### the parts that are told -/
theorem stp_zero {t : Ser} (h : Ok t) {most : Int} (hm : 0 ≤ most ∧ most ≤ 24000) (hg : ∀ q, 0 < q → q < t.Values.length → goodW t most 0 q) : stpR t most = ([], 0) := by
  refine stpR_ok h.e hm ?_
  unfold stpL
  by_cases hz : t.Values.length = 0
  · rw [hz]; rfl
  · obtain ⟨n, hn⟩ : ∃ n, t.Values.length = n + 1 := ⟨t.Values.length - 1, by omega⟩
    have h1 := nxt_good (s := t) (most := most) (a := 0) (by omega)
    rw [hn, stpF, if_neg (fun hlt => h1.2.2 hlt (hg _ h1.1.1 hlt))]
theorem stp_one0 {t : Ser} (h : Ok t) {most : Int} (hm : 0 ≤ most ∧ most ≤ 24000) {n : Nat} (hn : t.Values.length = n + 2) (hg : ∀ q, 0 < q → q < n + 1 → goodW t most 0 q) (hb : ¬ goodW t most 0 (n + 1)) : (stpR t most).2 = 0 ∧ (stpR t most).1.length = 1 := by
  have h1 := nxt_good (s := t) (most := most) (a := 0) (by omega)
  have e1 : nxt t most 0 = n + 1 := by
    rcases Nat.lt_or_ge (nxt t most 0) (n + 1) with h2 | h2
    · exact absurd (hg _ h1.1.1 h2) (h1.2.2 (by omega))
    · rcases Nat.lt_or_ge (n + 1) (nxt t most 0) with h3 | h3
      · exact absurd (h1.2.1 (n + 1) (by omega) h3) hb
      · omega
  have h2 := nxt_good (s := t) (most := most) (a := n + 1) (by omega)
  have e : stpR t most = ([(gt t.Values (n + 1)).Time], 0) := by
    refine stpR_ok h.e hm ?_
    unfold stpL
    rw [hn, stpF, e1, if_pos (by omega), stpF, if_neg (by omega)]
  rw [e]
  exact ⟨rfl, rfl⟩
/-- how far the parts have been gone through: i steps, from value a on -/
structure FewI (s : Ser) (most : Int) (i a : Nat) (fr : Int) : Prop where
  le : i ≤ (stpR s most).1.length
  an : a < s.Values.length ∨ (a = 0 ∧ s.Values.length = 0)
  dr : (stpR s most).1.drop i = stpF s most (s.Values.length - a) a
  fr : (a = 0 ∧ fr = -1) ∨ (0 < a ∧ fr = (gt s.Values a).Time - 1)
theorem few_start {s : Ser} {most : Int} (h0 : (stpR s most).2 = 0) : FewI s most 0 0 (-1) := by
  obtain ⟨_, _, a3⟩ := stpR_zero h0
  exact ⟨Nat.zero_le _, by omega, by rw [a3]; rfl, .inl ⟨rfl, rfl⟩⟩
theorem few_part {s : Ser} (h : Ok s) {most : Int} {i a : Nat} {fr : Int} (hI : FewI s most i a fr) {b : Nat} {hi : Int} (hab : a ≤ b) (hbn : b ≤ s.Values.length) (h1 : ∀ q, q < b → q < s.Values.length → (gt s.Values q).Time ≤ hi) (h2 : ∀ q, b ≤ q → q < s.Values.length → hi < (gt s.Values q).Time) : Part s ⟨fr + 1, hi⟩ a b := by
  refine ⟨h, hab, hbn, fun q hq => ?_⟩
  have hv := h.vt hq
  unfold inT
  dsimp only
  have hlo : fr + 1 ≤ (gt s.Values q).Time ↔ a ≤ q := by
    rcases hI.fr with ⟨e1, e2⟩ | ⟨e1, e2⟩
    · constructor
      · intro _; omega
      · intro _; omega
    · rw [e2]
      constructor
      · intro hle
        apply Classical.byContradiction
        intro hn
        have := h.mono (i := q) (k := a) (by have := hI.an; omega) (by omega)
        omega
      · intro hle
        rcases Nat.lt_or_eq_of_le hle with h3 | h3
        · have := h.mono hq h3; omega
        · subst h3; omega
  rw [hlo]
  constructor
  · rintro ⟨h3, h4⟩
    refine ⟨h3, ?_⟩
    apply Classical.byContradiction
    intro hn
    have := h2 q (by omega) hq
    omega
  · rintro ⟨h3, h4⟩
    exact ⟨h3, h1 q h4 hq⟩
theorem fr_bd {s : Ser} (h : Ok s) {most : Int} {i a : Nat} {fr : Int} (hI : FewI s most i a fr) : -1 ≤ fr ∧ fr ≤ 9999 := by
  rcases hI.fr with ⟨_, e2⟩ | ⟨e1, e2⟩
  · omega
  · have hv := h.vt (i := a) (by have := hI.an; omega); omega
theorem few_more {s : Ser} {most : Int} (h0 : (stpR s most).2 = 0) {i a : Nat} {fr : Int} (hI : FewI s most i a fr) (hi : i < (stpR s most).1.length) :
    ∃ b, FewI s most (i + 1) b (gt (stpR s most).1 i - 1) ∧ (0 ≤ gt (stpR s most).1 i ∧ gt (stpR s most).1 i ≤ 10000) ∧
      ((cutR s ⟨fr + 1, gt (stpR s most).1 i - 1⟩).2 = 0 ∧ (stpR (cutR s ⟨fr + 1, gt (stpR s most).1 i - 1⟩).1 most).2 = 0 ∧ (stpR (cutR s ⟨fr + 1, gt (stpR s most).1 i - 1⟩).1 most).1.length = 0 ∧ 0 < (cutR s ⟨fr + 1, gt (stpR s most).1 i - 1⟩).1.Values.length) ∧
      ((cutR s ⟨fr + 1, gt (stpR s most).1 i⟩).2 = 0 ∧ (stpR (cutR s ⟨fr + 1, gt (stpR s most).1 i⟩).1 most).2 = 0 ∧ (stpR (cutR s ⟨fr + 1, gt (stpR s most).1 i⟩).1 most).1.length = 1) := by
  obtain ⟨hok, hm, h3⟩ := stpR_zero h0
  have hfb := fr_bd hok hI
  have ha : a < s.Values.length := by
    rcases hI.an with h4 | ⟨h4, h5⟩
    · exact h4
    · have h6 : (stpR s most).1.drop i = [] := by rw [hI.dr, h5, h4]; rfl
      have := List.drop_eq_nil_iff.1 h6; omega
  have hg := nxt_good (s := s) (most := most) ha
  have hb : nxt s most a < s.Values.length := by
    apply Classical.byContradiction
    intro hn
    have h6 : (stpR s most).1.drop i = [] := by rw [hI.dr, stp_end ha hn]
    have := List.drop_eq_nil_iff.1 h6; omega
  have hd := hI.dr
  rw [stp_more ha hb] at hd
  obtain ⟨b, hbe⟩ : ∃ b, b = nxt s most a := ⟨_, rfl⟩
  rw [← hbe] at hb hd hg
  have hgt : gt (stpR s most).1 i = (gt s.Values b).Time := by
    have : gt ((stpR s most).1.drop i) 0 = (gt s.Values b).Time := by rw [hd]; rfl
    rw [gt_drop] at this; exact this
  have hvb := hok.vt hb
  rw [hgt]
  refine ⟨b, ⟨by omega, .inl hb, ?_, .inr ⟨by omega, rfl⟩⟩, by omega, ?_, ?_⟩
  · rw [← List.drop_drop, hd]; rfl
  · have hP : Part s ⟨fr + 1, (gt s.Values b).Time - 1⟩ a b := few_part hok hI (by omega) (by omega) (fun q hq hqn => by have := hok.mono (i := q) (k := b) hb hq; omega) (fun q hq hqn => by
      rcases Nat.lt_or_eq_of_le hq with h4 | h4
      · have := hok.mono (i := b) (k := q) hqn h4; omega
      · subst h4; omega)
    have hva := hok.mono (i := a) (k := b) hb (by omega)
    have hva0 := hok.vt ha
    have hsp : spOk ⟨fr + 1, (gt s.Values b).Time - 1⟩ 0 10000 := by
      unfold spOk; dsimp only
      have := hI.fr
      rcases this with ⟨_, e2⟩ | ⟨_, e2⟩ <;> omega
    rw [hP.cut hsp]
    have hz := stp_zero (cut_okS hok ⟨fr + 1, (gt s.Values b).Time - 1⟩) hm (fun q hq0 hq => by
      rw [hP.len] at hq
      rw [hP.good (by omega) hq]
      exact hg.2.1 (a + q) (by omega) (by omega))
    dsimp only
    rw [hz]
    refine ⟨rfl, rfl, rfl, ?_⟩
    rw [hP.len]; omega
  · have hP : Part s ⟨fr + 1, (gt s.Values b).Time⟩ a (b + 1) := few_part hok hI (by omega) (by omega) (fun q hq hqn => by
      rcases Nat.lt_or_ge q b with h4 | h4
      · have := hok.mono (i := q) (k := b) hb h4; omega
      · rw [show q = b by omega]; omega) (fun q hq hqn => hok.mono (i := b) (k := q) hqn (by omega))
    have hva := hok.mono (i := a) (k := b) hb (by omega)
    have hva0 := hok.vt ha
    have hsp : spOk ⟨fr + 1, (gt s.Values b).Time⟩ 0 10000 := by
      unfold spOk; dsimp only
      have := hI.fr
      rcases this with ⟨_, e2⟩ | ⟨_, e2⟩ <;> omega
    rw [hP.cut hsp]
    dsimp only
    refine ⟨rfl, stp_one0 (n := b - a - 1) (cut_okS hok _) hm (by rw [hP.len]; omega) (fun q hq0 hq => ?_) ?_⟩
    · rw [hP.good (by omega) (by omega)]
      exact hg.2.1 (a + q) (by omega) (by omega)
    · rw [hP.good (by omega) (by omega), show a + (b - a - 1 + 1) = b by omega]
      exact hg.2.2 hb
theorem few_last {s : Ser} {most : Int} (h0 : (stpR s most).2 = 0) {i a : Nat} {fr : Int} (hI : FewI s most i a fr) (hi : ¬ i < (stpR s most).1.length) :
    (cutR s ⟨fr + 1, 10000⟩).2 = 0 ∧ (stpR (cutR s ⟨fr + 1, 10000⟩).1 most).2 = 0 ∧ (stpR (cutR s ⟨fr + 1, 10000⟩).1 most).1.length = 0 ∧ ((cutR s ⟨fr + 1, 10000⟩).1.Values.length = 0 → s.Values.length = 0) := by
  obtain ⟨hok, hm, h3⟩ := stpR_zero h0
  have hfb := fr_bd hok hI
  have hP : Part s ⟨fr + 1, 10000⟩ a s.Values.length := few_part hok hI (by have := hI.an; omega) (Nat.le_refl _) (fun q _ hqn => (hok.vt hqn).2) (fun q hq hqn => by omega)
  have hsp : spOk ⟨fr + 1, 10000⟩ 0 10000 := by unfold spOk; dsimp only; omega
  rw [hP.cut hsp]
  have hz := stp_zero (cut_okS hok ⟨fr + 1, 10000⟩) hm (fun q hq0 hq => by
    rw [hP.len] at hq
    rw [hP.good (by omega) hq]
    have ha : a < s.Values.length := by omega
    have hg := nxt_good (s := s) (most := most) ha
    have hn : ¬ nxt s most a < s.Values.length := fun hlt => by
      have h6 : (stpR s most).1.drop i = [] := List.drop_eq_nil_iff.2 (by omega)
      rw [hI.dr, stp_more ha hlt] at h6
      exact absurd h6 (by simp)
    exact hg.2.1 (a + q) (by omega) (by omega))
  dsimp only
  rw [hz]
  refine ⟨rfl, rfl, rfl, ?_⟩
  rw [hP.len]
  have := hI.an
  omega
theorem stpF_len (s : Ser) (most : Int) : ∀ f a : Nat, (stpF s most f a).length ≤ f
  | 0, _ => Nat.le_refl _
  | f + 1, a => by
    have := stpF_len s most f (nxt s most a)
    rw [stpF]
    split
    · simp; omega
    · simp
theorem stpR_none {s : Ser} {most : Int} (h : (stpR s most).2 ≠ 0) : (stpR s most).1 = [] := by
  unfold stpR at h ⊢
  split at h
  · rename_i h1; rw [if_pos h1]
  · exact absurd rfl h
end Go.Proofs.C8
