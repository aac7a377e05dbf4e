/- Century: adjustments: either way round, upside down, and whoever found them; in plain Lean. -/
import Derived.Test.YtednficclnjmjaaC8LWin
namespace Go.Proofs.C8
open Go Go.Kx

theorem first_congr {p q : Nat → Prop} [DecidablePred p] [DecidablePred q] {n : Nat} (h : ∀ i, i < n → (p i ↔ q i)) : first p n = first q n := by
  rcases first_cases q n with ⟨h1, h2⟩ | ⟨h1, h2, h3⟩
  · rw [h1]; exact first_no fun j hj hp => h2 j hj ((h j hj).1 hp)
  · exact first_eq h1 (fun j hj hp => h3 j hj ((h j (by omega)).1 hp)) ((h _ h1).2 h2)

section
variable {s t : Ser} {time : Int}
theorem difW_len (s t : Ser) : (difW s t).levels.length = (comL s t).length ∧ (difW s t).shifts.length = (comL s t).length - 1 := ⟨map_len _ _, map_len _ _⟩
theorem difW_at {i : Nat} (h : i < (comL s t).length) : gt (difW s t).levels i = difV s t i := gt_map h
theorem difW_xt {i : Nat} (h : i + 1 < (comL s t).length) : gt (difW s t).shifts i = difX s t i := gt_map (by omega)
/-- the window ahead of a time -/
theorem winA (s t : Ser) (time : Int) : (winPart (difW s t) 0 (difF s t time)).levels.length = difF s t time ∧ (∀ i, i < difF s t time → gt (winPart (difW s t) 0 (difF s t time)).levels i = difV s t i) ∧ (∀ i, i + 1 < difF s t time → gt (winPart (difW s t) 0 (difF s t time)).shifts i = difX s t i) := by
  have hl := difW_len s t
  have hf := dif_len s t time
  refine ⟨by simp [winPart]; omega, fun i hi => ?_, fun i hi => ?_⟩
  · show gt (((difW s t).levels.drop 0).take (difF s t time - 0)) i = _
    rw [gt_drop_take _ (by omega), Nat.zero_add, difW_at (by omega)]
  · show gt (((difW s t).shifts.drop 0).take (max 0 (difF s t time - 1) - 0)) i = _
    rw [gt_drop_take _ (by omega), Nat.zero_add, difW_xt (by omega)]
/-- the window from a time on, backwards -/
theorem winB (s t : Ser) (time : Int) : (winTurn (winPart (difW s t) (difF s t time) (comL s t).length)).levels.length = (comL s t).length - difF s t time ∧
    (∀ i, i < (comL s t).length - difF s t time → gt (winTurn (winPart (difW s t) (difF s t time) (comL s t).length)).levels i = difV s t ((comL s t).length - 1 - i)) ∧
    (∀ i, i + 1 < (comL s t).length - difF s t time → gt (winTurn (winPart (difW s t) (difF s t time) (comL s t).length)).shifts i = mirS 0 (difX s t ((comL s t).length - 2 - i))) := by
  have hl := difW_len s t
  have hf := dif_len s t time
  have e1 : (winPart (difW s t) (difF s t time) (comL s t).length).levels.length = (comL s t).length - difF s t time := by simp [winPart]; omega
  refine ⟨by simp [winTurn, e1], fun i hi => ?_, fun i hi => ?_⟩
  · show gt (winPart (difW s t) (difF s t time) (comL s t).length).levels.reverse i = _
    rw [gt_rev _ (by omega), e1]
    show gt (((difW s t).levels.drop (difF s t time)).take ((comL s t).length - difF s t time)) _ = _
    rw [gt_drop_take _ (by omega), difW_at (by omega)]
    congr 1; omega
  · have e2 : (winPart (difW s t) (difF s t time) (comL s t).length).shifts.length = (comL s t).length - 1 - difF s t time := by simp [winPart]; omega
    show gt ((winPart (difW s t) (difF s t time) (comL s t).length).shifts.reverse.map fun x => (⟨-x.Hi, -x.Lo⟩ : Span)) i = _
    rw [gt_mapL _ _ (by rw [List.length_reverse]; omega), gt_rev _ (by omega), e2]
    show _ = (⟨0 - _, 0 - _⟩ : Span)
    rw [show gt (winPart (difW s t) (difF s t time) (comL s t).length).shifts ((comL s t).length - 1 - difF s t time - 1 - i) = difX s t ((comL s t).length - 2 - i) from by
      show gt (((difW s t).shifts.drop (difF s t time)).take (max (difF s t time) ((comL s t).length - 1) - difF s t time)) _ = _
      rw [gt_drop_take _ (by omega), difW_xt (by omega)]
      congr 1; omega]
    simp only [Span.mk.injEq]; omega
end
theorem adj_zero {s t : Ser} {time most : Int} (h : (adjR s t time most).2 = 0) : (Ok s ∧ Ok t) ∧ ((0 ≤ time ∧ time ≤ 10000) ∧ (0 ≤ most ∧ most ≤ 24000)) ∧ ¬ (difF s t time = 0 ∨ difF s t time = (comL s t).length) ∧ (adjA s t time most).2 = true ∧ (adjB s t time most).2 = true ∧
    (adjR s t time most).1 = ⟨(adjB s t time most).1.Lo - (adjA s t time most).1.Hi - (difX s t (difF s t time - 1)).Hi, (adjB s t time most).1.Hi - (adjA s t time most).1.Lo - (difX s t (difF s t time - 1)).Lo⟩ := by
  by_cases h1 : twoE s t ≠ 0
  · rw [adj_err h1] at h; exact absurd h h1
  · by_cases h2 : ¬ ((0 ≤ time ∧ time ≤ 10000) ∧ (0 ≤ most ∧ most ≤ 24000))
    · rw [adj_arg (by omega) h2] at h; cases h
    · by_cases h3 : difF s t time = 0 ∨ difF s t time = (comL s t).length
      · rw [adj_none (by omega) (by omega) h3] at h; cases h
      · by_cases h4 : (adjA s t time most).2 = false ∨ (adjB s t time most).2 = false
        · rw [adj_bad (by omega) (by omega) h3 h4] at h; cases h
        · have hz := twoE_zero (s := s) (t := t) (by omega)
          have h5 : (adjA s t time most).2 = true := by cases hh : (adjA s t time most).2 with | true => rfl | false => exact absurd (.inl hh) h4
          have h6 : (adjB s t time most).2 = true := by cases hh : (adjB s t time most).2 with | true => rfl | false => exact absurd (.inr hh) h4
          have hf := dif_len s t time
          refine ⟨⟨Ok.of hz.1, Ok.of hz.2⟩, by omega, h3, h5, h6, ?_⟩
          rw [adj_ok (by omega) (by omega) h3 h5 h6, difW_xt (by omega)]
/-- what is told of the adjustment, in parts -/
theorem adj_val {s t : Ser} (hs : Ok s) (ht : Ok t) {time most : Int} (hr : (0 ≤ time ∧ time ≤ 10000) ∧ (0 ≤ most ∧ most ≤ 24000)) : adjR s t time most = if difF s t time = 0 ∨ difF s t time = (comL s t).length then (⟨0, 0⟩, 3)
    else if (adjA s t time most).2 = false ∨ (adjB s t time most).2 = false then (⟨0, 0⟩, 3)
    else (⟨(adjB s t time most).1.Lo - (adjA s t time most).1.Hi - (difX s t (difF s t time - 1)).Hi, (adjB s t time most).1.Hi - (adjA s t time most).1.Lo - (difX s t (difF s t time - 1)).Lo⟩, 0) := by
  have hz : twoE s t = 0 := by unfold twoE; rw [if_neg (fun hn => hn hs.e), ht.e]
  have hf := dif_len s t time
  by_cases h3 : difF s t time = 0 ∨ difF s t time = (comL s t).length
  · rw [if_pos h3, adj_none hz hr h3]
  · rw [if_neg h3]
    by_cases h4 : (adjA s t time most).2 = false ∨ (adjB s t time most).2 = false
    · rw [if_pos h4, adj_bad hz hr h3 h4]
    · have h5 : (adjA s t time most).2 = true := by cases hh : (adjA s t time most).2 with | true => rfl | false => exact absurd (.inl hh) h4
      have h6 : (adjB s t time most).2 = true := by cases hh : (adjB s t time most).2 with | true => rfl | false => exact absurd (.inr hh) h4
      rw [if_neg h4, adj_ok hz hr h3 h5 h6, difW_xt (by omega)]
theorem adj_mir {s t s' t' : Ser} (hs : Ok s) (ht : Ok t) (hs' : Ok s') (ht' : Ok t') (hl : (comL s' t').length = (comL s t).length) (hT : ∀ n, n < (comL s t).length → difT s' t' n = difT s t n)
    (hV : ∀ n, n < (comL s t).length → difV s' t' n = mirS 0 (difV s t n)) (hX : ∀ n, n + 1 < (comL s t).length → difX s' t' n = mirS 0 (difX s t n)) (time most : Int) :
    adjR s' t' time most = (mirS 0 (adjR s t time most).1, (adjR s t time most).2) := by
  have hz : twoE s t = 0 := by unfold twoE; rw [if_neg (fun hn => hn hs.e), ht.e]
  have hz' : twoE s' t' = 0 := by unfold twoE; rw [if_neg (fun hn => hn hs'.e), ht'.e]
  by_cases hr : (0 ≤ time ∧ time ≤ 10000) ∧ (0 ≤ most ∧ most ≤ 24000)
  · have hF : difF s' t' time = difF s t time := by unfold difF; rw [hl]; exact first_congr fun i hi => by rw [hT i hi]
    rw [adj_val hs ht hr, adj_val hs' ht' hr, hF, hl]
    have hf := dif_len s t time
    by_cases h3 : difF s t time = 0 ∨ difF s t time = (comL s t).length
    · rw [if_pos h3, if_pos h3]; rfl
    · rw [if_neg h3, if_neg h3]
      have a1 := winA s t time
      have a2 := winA s' t' time
      have b1 := winB s t time
      have b2 := winB s' t' time
      rw [hF] at a2
      rw [hF, hl] at b2
      have ha : adjA s' t' time most = (mirS (0 - most) (adjA s t time most).1, (adjA s t time most).2) := by
        unfold adjA
        rw [hF]
        exact lastR_mir 0 most (by rw [a1.1, a2.1]) (by rw [a1.1]; omega) (fun i hi => by rw [a2.2.1 i (by omega), a1.2.1 i (by omega), hV i (by omega)]) (fun i hi => by rw [a2.2.2 i (by omega), a1.2.2 i (by omega), hX i (by omega)])
      have hb : adjB s' t' time most = (mirS (0 - most) (adjB s t time most).1, (adjB s t time most).2) := by
        unfold adjB
        rw [hF, hl]
        exact lastR_mir 0 most (by rw [b1.1, b2.1]) (by rw [b1.1]; omega) (fun i hi => by rw [b2.2.1 i (by omega), b1.2.1 i (by omega), hV _ (by omega)]) (fun i hi => by rw [b2.2.2 i (by omega), b1.2.2 i (by omega), hX _ (by omega)])
      rw [ha, hb, hX (difF s t time - 1) (by omega)]
      dsimp only
      by_cases h4 : (adjA s t time most).2 = false ∨ (adjB s t time most).2 = false
      · rw [if_pos h4, if_pos h4]; rfl
      · rw [if_neg h4, if_neg h4]
        simp only [mirS, Prod.mk.injEq, Span.mk.injEq, and_true]; constructor <;> omega
  · rw [adj_arg hz hr, adj_arg hz' hr]; rfl
/-! ### whoever has levels and shifts -/
/-- the plain difference and the shifts of a common time -/
def rawD (lv lv' : List Int) (s t : Ser) (n : Nat) : Int := gt lv (gt (comL s t) n).a.toNat - gt lv' (gt (comL s t) n).b.toNat
def offD (sh sh' : List Int) (s t : Ser) (n : Nat) : Int := offN s.Shifts sh (difT s t n) s.Shifts.length - offN t.Shifts sh' (difT s t n) t.Shifts.length
end Go.Proofs.C8
