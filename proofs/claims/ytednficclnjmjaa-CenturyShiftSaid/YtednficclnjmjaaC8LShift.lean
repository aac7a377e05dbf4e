/- Century: how great a shift was, in plain Lean. -/
import Derived.Test.YtednficclnjmjaaC8LAdj
namespace Go.Proofs.C8
open Go Go.Kx

theorem adj_none0 {s t : Ser} {time most : Int} (h : (adjR s t time most).2 ≠ 0) : (adjR s t time most).1 = ⟨0, 0⟩ := by
  by_cases h1 : twoE s t ≠ 0
  · rw [adj_err h1]
  · by_cases h2 : ¬ ((0 ≤ time ∧ time ≤ 10000) ∧ (0 ≤ most ∧ most ≤ 24000))
    · rw [adj_arg (by omega) h2]
    · have hz := twoE_zero (s := s) (t := t) (by omega)
      rw [adj_val (Ok.of hz.1) (Ok.of hz.2) (by omega)] at h ⊢
      split
      · rfl
      · rename_i h3
        rw [if_neg h3] at h
        split
        · rfl
        · rename_i h4; rw [if_neg h4] at h; exact absurd rfl h
theorem adj_bd (s t : Ser) (time most : Int) : (-2000000000 ≤ (adjR s t time most).1.Lo ∧ (adjR s t time most).1.Lo ≤ 2000000000) ∧ (-2000000000 ≤ (adjR s t time most).1.Hi ∧ (adjR s t time most).1.Hi ≤ 2000000000) := by
  by_cases h : (adjR s t time most).2 = 0
  · obtain ⟨⟨hs, ht⟩, hr, hf, _, _, hv⟩ := adj_zero h
    have hl := dif_len s t time
    have hw := dif_w hs ht
    have hwl := difW_len s t
    have h1 := lastR_bd (part_w hw (a := 0) (b := difF s t time) (by omega) (by omega)) (most := most) hr.2
    have h2 := lastR_bd (turn_w (part_w hw (a := difF s t time) (b := (comL s t).length) (by omega) (by omega))) (most := most) hr.2
    have h3 := hw.xb (difF s t time - 1) (by omega)
    rw [difW_xt (by omega)] at h3
    rw [hv]
    unfold adjA adjB
    dsimp only
    omega
  · rw [adj_none0 h]; dsimp only; omega
theorem adj_rng {s t : Ser} (hs : Ok s) (ht : Ok t) {time most : Int} (h : (adjR s t time most).2 = 0 ∨ (adjR s t time most).2 = 3) : (0 ≤ time ∧ time ≤ 10000) ∧ (0 ≤ most ∧ most ≤ 24000) := by
  have hz : twoE s t = 0 := by unfold twoE; rw [if_neg (fun hn => hn hs.e), ht.e]
  apply Classical.byContradiction
  intro hn
  rw [adj_arg hz hn] at h
  dsimp only at h
  omega
/-- the least and the greatest difference ahead of a time (b = true), or from it on -/
def shE (T D : List Int) (time : Int) (b : Bool) : Nat → Span
  | 0 => ⟨1099511627776, -1099511627776⟩
  | i + 1 => if decide (gt T i < time) = b then ⟨min (shE T D time b i).Lo (gt D i), max (shE T D time b i).Hi (gt D i)⟩ else shE T D time b i
theorem shE_yes {T D : List Int} {time : Int} {b : Bool} {i : Nat} (h : decide (gt T i < time) = b) : shE T D time b (i + 1) = ⟨min (shE T D time b i).Lo (gt D i), max (shE T D time b i).Hi (gt D i)⟩ := by rw [shE, if_pos h]
theorem shE_no {T D : List Int} {time : Int} {b : Bool} {i : Nat} (h : ¬ decide (gt T i < time) = b) : shE T D time b (i + 1) = shE T D time b i := by rw [shE, if_neg h]
theorem shE_spec {T D : List Int} {time : Int} {b : Bool} {N : Nat} (hD : ∀ i, i < N → -2000000 ≤ gt D i ∧ gt D i ≤ 2000000) : ∀ n : Nat, n ≤ N →
    (∀ j, j < n → decide (gt T j < time) = b → (shE T D time b n).Lo ≤ gt D j ∧ gt D j ≤ (shE T D time b n).Hi) ∧
    (((shE T D time b n).Lo = 1099511627776 ∧ (shE T D time b n).Hi = -1099511627776 ∧ ∀ j, j < n → ¬ decide (gt T j < time) = b) ∨
     ((-2000000 ≤ (shE T D time b n).Lo ∧ (shE T D time b n).Lo ≤ (shE T D time b n).Hi ∧ (shE T D time b n).Hi ≤ 2000000) ∧ ∃ j, j < n ∧ decide (gt T j < time) = b))
  | 0, _ => ⟨fun j hj => absurd hj (Nat.not_lt_zero _), .inl ⟨rfl, rfl, fun j hj => absurd hj (Nat.not_lt_zero _)⟩⟩
  | n + 1, hn => by
    obtain ⟨h1, h2⟩ := shE_spec (T := T) (time := time) (b := b) hD n (by omega)
    have hd := hD n (by omega)
    by_cases hb : decide (gt T n < time) = b
    · rw [shE_yes hb]
      dsimp only
      refine ⟨fun j hj hjb => ?_, .inr ⟨?_, n, by omega, hb⟩⟩
      · rcases Nat.lt_succ_iff_lt_or_eq.1 hj with h3 | h3
        · have := h1 j h3 hjb; omega
        · subst h3; omega
      · rcases h2 with ⟨h3, h4, _⟩ | ⟨h3, _⟩ <;> omega
    · rw [shE_no hb]
      refine ⟨fun j hj hjb => ?_, ?_⟩
      · rcases Nat.lt_succ_iff_lt_or_eq.1 hj with h3 | h3
        · exact h1 j h3 hjb
        · subst h3; exact absurd hjb hb
      · rcases h2 with ⟨h3, h4, h5⟩ | ⟨h3, j, h4, h5⟩
        · exact .inl ⟨h3, h4, fun j hj => by
            rcases Nat.lt_succ_iff_lt_or_eq.1 hj with h6 | h6
            · exact h5 j h6
            · subst h6; exact hb⟩
        · exact .inr ⟨h3, j, by omega, h5⟩
theorem shE_bd {T D : List Int} {time : Int} {b : Bool} {n : Nat} (hD : ∀ i, i < n → -2000000 ≤ gt D i ∧ gt D i ≤ 2000000) : (-1099511627776 ≤ (shE T D time b n).Lo ∧ (shE T D time b n).Lo ≤ 1099511627776) ∧ (-1099511627776 ≤ (shE T D time b n).Hi ∧ (shE T D time b n).Hi ≤ 1099511627776) := by
  have := (shE_spec (T := T) (time := time) (b := b) hD n (Nat.le_refl _)).2
  rcases this with ⟨h1, h2, _⟩ | ⟨h1, _⟩ <;> omega
/-- ahead of a time: the first ones -/
theorem ahead_iff {s t : Ser} (hs : Ok s) {time : Int} {j : Nat} (hj : j < (comL s t).length) : difT s t j < time ↔ j < difF s t time := by
  unfold difF
  rcases first_cases (fun n => time ≤ difT s t n) (comL s t).length with ⟨h1, h2⟩ | ⟨h1, h2, h3⟩
  · rw [h1]; have := h2 j hj; constructor <;> omega
  · constructor
    · intro h
      apply Classical.byContradiction
      intro hn
      rcases Nat.eq_or_lt_of_le (Nat.not_lt.1 hn) with h4 | h4
      · rw [h4] at h2; omega
      · have := difT_up (t := t) hs h4 hj; omega
    · intro h; have := h3 j h; omega
section
variable {s t : Ser} {time most : Int} {lv sh lv' sh' : List Int} (hs : Ok s) (ht : Ok t) (hr : (0 ≤ time ∧ time ≤ 10000) ∧ (0 ≤ most ∧ most ≤ 24000)) (ha : agreeP s lv sh) (hb : agreeP t lv' sh')
include hs ht hr ha hb
theorem sh_none (h : (shE (tmL s (comL s t)) (dfL (evenL s lv sh) (evenL t lv' sh') (comL s t)) time true (comL s t).length).Hi < (shE (tmL s (comL s t)) (dfL (evenL s lv sh) (evenL t lv' sh') (comL s t)) time true (comL s t).length).Lo ∨
    (shE (tmL s (comL s t)) (dfL (evenL s lv sh) (evenL t lv' sh') (comL s t)) time false (comL s t).length).Hi < (shE (tmL s (comL s t)) (dfL (evenL s lv sh) (evenL t lv' sh') (comL s t)) time false (comL s t).length).Lo) : (adjR s t time most).2 = 3 := by
  have hl := dif_len s t time
  have hD : ∀ i, i < (comL s t).length → _ := fun i hi => df_bd hs ha ht hb (i := i) hi
  have h0 : difF s t time = 0 ∨ difF s t time = (comL s t).length := by
    rcases h with h | h
    · left
      rcases (shE_spec (T := tmL s (comL s t)) (time := time) (b := true) hD _ (Nat.le_refl _)).2 with ⟨_, _, h3⟩ | ⟨h3, _⟩
      · apply Classical.byContradiction
        intro hn
        have := h3 0 (by omega)
        rw [tm_at _ (by omega)] at this
        exact this (decide_eq_true ((ahead_iff hs (by omega)).2 (by omega)))
      · omega
    · right
      rcases (shE_spec (T := tmL s (comL s t)) (time := time) (b := false) hD _ (Nat.le_refl _)).2 with ⟨_, _, h3⟩ | ⟨h3, _⟩
      · apply Classical.byContradiction
        intro hn
        have := h3 (difF s t time) (by omega)
        rw [tm_at _ (by omega)] at this
        exact this (decide_eq_false (fun hlt => by have := (ahead_iff (t := t) hs (j := difF s t time) (by omega)).1 hlt; omega))
      · omega
  rw [adj_val hs ht hr, if_pos h0]
theorem sh_has (h1 : (shE (tmL s (comL s t)) (dfL (evenL s lv sh) (evenL t lv' sh') (comL s t)) time true (comL s t).length).Lo ≤ (shE (tmL s (comL s t)) (dfL (evenL s lv sh) (evenL t lv' sh') (comL s t)) time true (comL s t).length).Hi)
    (h2 : (shE (tmL s (comL s t)) (dfL (evenL s lv sh) (evenL t lv' sh') (comL s t)) time false (comL s t).length).Lo ≤ (shE (tmL s (comL s t)) (dfL (evenL s lv sh) (evenL t lv' sh') (comL s t)) time false (comL s t).length).Hi)
    (h3 : (shE (tmL s (comL s t)) (dfL (evenL s lv sh) (evenL t lv' sh') (comL s t)) time true (comL s t).length).Hi - (shE (tmL s (comL s t)) (dfL (evenL s lv sh) (evenL t lv' sh') (comL s t)) time true (comL s t).length).Lo ≤ most)
    (h4 : (shE (tmL s (comL s t)) (dfL (evenL s lv sh) (evenL t lv' sh') (comL s t)) time false (comL s t).length).Hi - (shE (tmL s (comL s t)) (dfL (evenL s lv sh) (evenL t lv' sh') (comL s t)) time false (comL s t).length).Lo ≤ most) :
    (adjR s t time most).2 = 0 ∧ (adjR s t time most).1.Lo ≤ (shE (tmL s (comL s t)) (dfL (evenL s lv sh) (evenL t lv' sh') (comL s t)) time false (comL s t).length).Hi - (shE (tmL s (comL s t)) (dfL (evenL s lv sh) (evenL t lv' sh') (comL s t)) time true (comL s t).length).Lo - most ∧
    (shE (tmL s (comL s t)) (dfL (evenL s lv sh) (evenL t lv' sh') (comL s t)) time false (comL s t).length).Lo - (shE (tmL s (comL s t)) (dfL (evenL s lv sh) (evenL t lv' sh') (comL s t)) time true (comL s t).length).Hi + most ≤ (adjR s t time most).1.Hi := by
  have hl := dif_len s t time
  have hD : ∀ i, i < (comL s t).length → _ := fun i hi => df_bd hs ha ht hb (i := i) hi
  have hA := shE_spec (T := tmL s (comL s t)) (time := time) (b := true) hD _ (Nat.le_refl _)
  have hB := shE_spec (T := tmL s (comL s t)) (time := time) (b := false) hD _ (Nat.le_refl _)
  generalize shE (tmL s (comL s t)) (dfL (evenL s lv sh) (evenL t lv' sh') (comL s t)) time true (comL s t).length = A at *
  generalize shE (tmL s (comL s t)) (dfL (evenL s lv sh) (evenL t lv' sh') (comL s t)) time false (comL s t).length = C at *
  have hf : ¬ (difF s t time = 0 ∨ difF s t time = (comL s t).length) := by
    rintro (hf | hf)
    · rcases hA.2 with ⟨h5, h6, _⟩ | ⟨_, j, h5, h6⟩
      · omega
      · have := of_decide_eq_true h6
        rw [tm_at _ h5] at this
        have := (ahead_iff hs h5).1 this; omega
    · rcases hB.2 with ⟨h5, h6, _⟩ | ⟨_, j, h5, h6⟩
      · omega
      · have := of_decide_eq_false h6
        rw [tm_at _ h5] at this
        exact this ((ahead_iff hs h5).2 (by omega))
  have inA : ∀ n, n < difF s t time → A.Lo ≤ gt (dfL (evenL s lv sh) (evenL t lv' sh') (comL s t)) n ∧ gt (dfL (evenL s lv sh) (evenL t lv' sh') (comL s t)) n ≤ A.Hi := fun n hn => hA.1 n (by omega) (by
    rw [tm_at _ (by omega)]; exact decide_eq_true ((ahead_iff hs (by omega)).2 hn))
  have inB : ∀ n, difF s t time ≤ n → n < (comL s t).length → C.Lo ≤ gt (dfL (evenL s lv sh) (evenL t lv' sh') (comL s t)) n ∧ gt (dfL (evenL s lv sh) (evenL t lv' sh') (comL s t)) n ≤ C.Hi := fun n hn hn2 => hB.1 n hn2 (by
    rw [tm_at _ hn2]; exact decide_eq_false (fun hlt => by have := (ahead_iff hs hn2).1 hlt; omega))
  have r1 := adj_has hs ht hr ha hb hf (c := A.Lo) (c' := C.Hi - most) (fun n hn => by have := inA n hn; omega) (fun n hn hn2 => by have := inB n hn hn2; omega)
  have r2 := adj_has hs ht hr ha hb hf (c := A.Hi - most) (c' := C.Lo) (fun n hn => by have := inA n hn; omega) (fun n hn hn2 => by have := inB n hn hn2; omega)
  exact ⟨r1.1, by omega, by omega⟩
end
end Go.Proofs.C8
