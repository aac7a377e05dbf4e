/- Century: breaks are real, in plain Lean. -/
import Derived.Test.YtednficclnjmjaaC8Lin
namespace Go.Proofs.C8
open Go Go.Kx

theorem gt_app_l {α : Type} [Inhabited α] (A C : List α) {i : Nat} (h : i < A.length) : gt (A ++ C) i = gt A i := by
  simp only [gt, List.getD]; rw [List.getElem?_append_left h]
theorem gt_app_r {α : Type} [Inhabited α] (A C : List α) (i : Nat) : gt (A ++ C) (A.length + i) = gt C i := by
  simp only [gt, List.getD]; rw [List.getElem?_append_right (by omega), Nat.add_sub_cancel_left]
theorem comN_up (s t : Ser) : ∀ (n : Nat) {i j : Nat}, i < j → j < (comN s t n).length → (gt (comN s t n) i).a < (gt (comN s t n) j).a
  | 0, i, j, _, h => by simp [comN] at h
  | n + 1, i, j, hij, h => by
    by_cases hc : 0 ≤ idxR t (gt s.Values n).Time
    · have he : comN s t (n + 1) = comN s t n ++ [⟨(n : Int), idxR t (gt s.Values n).Time⟩] := by rw [comN, if_pos hc]
      rw [he] at h ⊢
      rw [gt_snoc _ _ h, gt_snoc _ _ (by omega)]
      have hl : (comN s t n ++ [(⟨(n : Int), idxR t (gt s.Values n).Time⟩ : A2)]).length = (comN s t n).length + 1 := by simp
      rw [if_pos (show i < (comN s t n).length by omega)]
      by_cases hj : j < (comN s t n).length
      · rw [if_pos hj]; exact comN_up s t n hij hj
      · rw [if_neg hj]
        obtain ⟨i', k', h1, _, h3, _⟩ := comN_at s t n i (by omega)
        show (gt (comN s t n) i).a < (n : Int)
        omega
    · have he : comN s t (n + 1) = comN s t n := by rw [comN, if_neg hc]
      rw [he] at h ⊢
      exact comN_up s t n hij h
theorem difT_up {s t : Ser} (hs : Ok s) {i j : Nat} (hij : i < j) (hj : j < (comL s t).length) : difT s t i < difT s t j := by
  have h1 := comN_up s t s.Values.length hij hj
  have h2 := com_bd (s := s) (t := t) (n := i) (by omega)
  have h3 := com_bd (s := s) (t := t) (n := j) hj
  have h1' : (gt (comL s t) i).a < (gt (comL s t) j).a := h1
  exact hs.mono (by omega) (by omega)
/-- the breaks behind the first ones are times of later numbers -/
theorem brkN_pre (s t : Ser) (least : Int) : ∀ (d i : Nat), ∃ R : List Int, brkN s t least (i + d) = brkN s t least i ++ R ∧ ∀ q, q < R.length → ∃ j, i ≤ j ∧ j < i + d ∧ 0 < j ∧ brkP s t least j ∧ gt R q = difT s t j
  | 0, i => ⟨[], by simp, fun q hq => by simp at hq⟩
  | d + 1, i => by
    obtain ⟨R, h1, h2⟩ := brkN_pre s t least d i
    by_cases hp : 0 < i + d ∧ brkP s t least (i + d)
    · refine ⟨R ++ [difT s t (i + d)], ?_, fun q hq => ?_⟩
      · rw [← Nat.add_assoc, brkN, if_pos hp, h1, List.append_assoc]; rfl
      · rw [gt_snoc _ _ hq]
        split
        · rename_i h3
          obtain ⟨j, h4, h5, h6⟩ := h2 q h3
          exact ⟨j, h4, by omega, h6⟩
        · exact ⟨i + d, by omega, by omega, hp.1, hp.2, rfl⟩
    · refine ⟨R, by rw [← Nat.add_assoc, brkN, if_neg hp, h1], fun q hq => ?_⟩
      obtain ⟨j, h4, h5, h6⟩ := h2 q hq
      exact ⟨j, h4, by omega, h6⟩
theorem brkN_le (s t : Ser) (least : Int) {i n : Nat} (h : i ≤ n) : (brkN s t least i).length ≤ (brkN s t least n).length := by
  obtain ⟨R, h1, _⟩ := brkN_pre s t least (n - i) i
  rw [show i + (n - i) = n by omega] at h1
  rw [h1, List.length_append]; omega
theorem brk_hit {s t : Ser} {least : Int} {i n : Nat} (hi : 0 < i) (hin : i < n) (hp : brkP s t least i) : (brkN s t least i).length < (brkN s t least n).length ∧ gt (brkN s t least n) (brkN s t least i).length = difT s t i ∧ (brkN s t least (i + 1)).length = (brkN s t least i).length + 1 := by
  obtain ⟨R, h1, _⟩ := brkN_pre s t least (n - (i + 1)) (i + 1)
  rw [show i + 1 + (n - (i + 1)) = n by omega] at h1
  have h2 : brkN s t least (i + 1) = brkN s t least i ++ [difT s t i] := by rw [brkN, if_pos ⟨hi, hp⟩]; rfl
  have hl : (brkN s t least (i + 1)).length = (brkN s t least i).length + 1 := by rw [h2]; simp
  refine ⟨by have := brkN_le s t least (i := i + 1) (n := n) hin; omega, ?_, hl⟩
  rw [h1, gt_app_l _ _ (by omega), h2]
  simp [gt]
theorem brk_miss {s t : Ser} (hs : Ok s) {least : Int} {i : Nat} (hin : i < (comL s t).length) (hp : ¬ (0 < i ∧ brkP s t least i)) :
    ((brkN s t least i).length < (brkN s t least (comL s t).length).length → gt (brkN s t least (comL s t).length) (brkN s t least i).length ≠ difT s t i) ∧ (brkN s t least (i + 1)).length = (brkN s t least i).length := by
  have h2 : brkN s t least (i + 1) = brkN s t least i := by rw [brkN, if_neg hp]
  refine ⟨fun hl => ?_, by rw [h2]⟩
  obtain ⟨R, h1, h3⟩ := brkN_pre s t least ((comL s t).length - (i + 1)) (i + 1)
  rw [show i + 1 + ((comL s t).length - (i + 1)) = (comL s t).length by omega, h2] at h1
  rw [h1] at hl ⊢
  rw [List.length_append] at hl
  obtain ⟨j, h4, h5, _, _, h6⟩ := h3 0 (by omega)
  have := gt_app_r (brkN s t least i) R 0
  rw [Nat.add_zero] at this
  rw [this, h6]
  have := difT_up (t := t) hs (i := i) (j := j) (by omega) (by omega)
  omega
/-- at a break the difference has changed -/
theorem brk_real {s t : Ser} {lv sh lv' sh' : List Int} (ha : agreeP s lv sh) (hb : agreeP t lv' sh') {least : Int} {i : Nat} (hi : 0 < i) (hin : i < (comL s t).length) (hp : brkP s t least i) :
    least ≤ gt (dfL (evenL s lv sh) (evenL t lv' sh') (comL s t)) i - gt (dfL (evenL s lv sh) (evenL t lv' sh') (comL s t)) (i - 1) ∨
    gt (dfL (evenL s lv sh) (evenL t lv' sh') (comL s t)) i - gt (dfL (evenL s lv sh) (evenL t lv' sh') (comL s t)) (i - 1) ≤ - least := by
  have c1 := com_bd (s := s) (t := t) hin
  have c2 := com_bd (s := s) (t := t) (n := i - 1) (by omega)
  rw [df_at _ _ hin, df_at _ _ (by omega), evenL_at (by omega), evenL_at (by omega), evenL_at (by omega), evenL_at (by omega)]
  have g1 := gap_in ha (i := (gt (comL s t) i).a.toNat) (k := (gt (comL s t) (i - 1)).a.toNat) (by omega) (by omega)
  have g2 := gap_in hb (i := (gt (comL s t) i).b.toNat) (k := (gt (comL s t) (i - 1)).b.toNat) (by omega) (by omega)
  unfold brkP at hp
  omega
theorem brkR_ok {s t : Ser} {least : Int} (h : (brkR s t least).2 = 0) : (Ok s ∧ Ok t) ∧ (1 ≤ least ∧ least ≤ 24000) ∧ brkR s t least = (brkN s t least (comL s t).length, 0) := by
  unfold brkR at h ⊢
  by_cases h1 : twoE s t ≠ 0
  · rw [if_pos h1] at h; exact absurd h h1
  · rw [if_neg h1] at h ⊢
    by_cases h2 : ¬ (1 ≤ least ∧ least ≤ 24000)
    · rw [if_pos h2] at h; cases h
    · rw [if_neg h2]
      have hz := twoE_zero (s := s) (t := t) (by omega)
      exact ⟨⟨Ok.of hz.1, Ok.of hz.2⟩, by omega, rfl⟩
theorem df_bd {s t : Ser} (hs : Ok s) {lv sh lv' sh' : List Int} (ha : agreeP s lv sh) (ht : Ok t) (hb : agreeP t lv' sh') {i : Nat} (h : i < (comL s t).length) :
    -2000000 ≤ gt (dfL (evenL s lv sh) (evenL t lv' sh') (comL s t)) i ∧ gt (dfL (evenL s lv sh) (evenL t lv' sh') (comL s t)) i ≤ 2000000 := by
  have c1 := com_bd (s := s) (t := t) h
  rw [df_at _ _ h]
  have h1 := evenL_bd hs ha (gt (comL s t) i).a.toNat (by rw [evenL_len]; omega)
  have h2 := evenL_bd ht hb (gt (comL s t) i).b.toNat (by rw [evenL_len]; omega)
  omega
theorem brk_is {s t : Ser} (hs : Ok s) {least : Int} {i a : Nat} (hat : a = (brkN s t least i).length) (hi : i < (comL s t).length) (h1 : a < (brkN s t least (comL s t).length).length)
    (he : gt (brkN s t least (comL s t).length) a = gt (tmL s (comL s t)) i) : brkP s t least i := by
  apply Classical.byContradiction
  intro hn
  have hm := (brk_miss hs hi (fun h => hn h.2)).1 (by rw [← hat]; exact h1)
  rw [← hat, he, tm_at _ hi] at hm
  exact hm rfl
theorem brk_step_yes {s t : Ser} (hs : Ok s) {least : Int} {i a : Nat} (hat : a = (brkN s t least i).length) (h0 : 0 < i) (hi : i < (comL s t).length) (h1 : a < (brkN s t least (comL s t).length).length)
    (he : gt (brkN s t least (comL s t).length) a = gt (tmL s (comL s t)) i) : (brkN s t least (i + 1)).length = a + 1 := by
  rw [hat]; exact (brk_hit h0 hi (brk_is hs hat hi h1 he)).2.2
theorem brk_step_no {s t : Ser} {least : Int} {i n a : Nat} (h0 : 0 < i) (hi : i < n) (hat : a = (brkN s t least i).length) (hnn : n = (comL s t).length) (hn : ¬ (a < (brkN s t least n).length ∧ gt (brkN s t least n) a = gt (tmL s (comL s t)) i)) :
    (brkN s t least (i + 1)).length = a := by
  by_cases hp : brkP s t least i
  · have hh := brk_hit (n := n) h0 hi hp
    rw [← hat] at hh
    exact absurd ⟨hh.1, by rw [hh.2.1, tm_at _ (by omega)]; rfl⟩ hn
  · rw [brkN, if_neg (fun h => hp h.2), hat]
theorem brk_fin {s t : Ser} {least : Int} {i : Nat} (hi : 1 ≤ i ∧ (i ≤ (comL s t).length ∨ i = 1)) (h : ¬ (i : Int) < ((comL s t).length : Int)) : (brkN s t least i).length = (brkN s t least (comL s t).length).length := by
  by_cases h2 : i = (comL s t).length
  · rw [h2]
  · rw [show i = 1 by omega, show (comL s t).length = 0 by omega]; simp [brkN]
end Go.Proofs.C8
