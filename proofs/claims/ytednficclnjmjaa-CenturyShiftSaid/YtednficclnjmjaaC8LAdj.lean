/- Century: adjustments: either way round, upside down, and whoever found them; in plain Lean. -/
import Derived.Test.YtednficclnjmjaaC8LWin
namespace Go.Proofs.C8
open Go Go.Kx

theorem first_congr {p q : Nat → Prop} [DecidablePred p] [DecidablePred q] {n : Nat} (h : ∀ i, i < n → (p i ↔ q i)) : first p n = first q n := by
  rcases first_cases q n with ⟨h1, h2⟩ | ⟨h1, h2, h3⟩
  · rw [h1]; exact first_no fun j hj hp => h2 j hj ((h j hj).1 hp)
  · exact first_eq h1 (fun j hj hp => h3 j hj ((h j (by omega)).1 hp)) ((h _ h1).2 h2)

section
variable {s t : Ser} {time : Int}
theorem difW_len (s t : Ser) : (difW s t).levels.length = (comL s t).length ∧ (difW s t).shifts.length = (comL s t).length - 1 := ⟨map_len _ _, map_len _ _⟩
theorem difW_at {i : Nat} (h : i < (comL s t).length) : gt (difW s t).levels i = difV s t i := gt_map h
theorem difW_xt {i : Nat} (h : i + 1 < (comL s t).length) : gt (difW s t).shifts i = difX s t i := gt_map (by omega)
/-- the window ahead of a time -/
theorem winA (s t : Ser) (time : Int) : (winPart (difW s t) 0 (difF s t time)).levels.length = difF s t time ∧ (∀ i, i < difF s t time → gt (winPart (difW s t) 0 (difF s t time)).levels i = difV s t i) ∧ (∀ i, i + 1 < difF s t time → gt (winPart (difW s t) 0 (difF s t time)).shifts i = difX s t i) := by
  have hl := difW_len s t
  have hf := dif_len s t time
  refine ⟨by simp [winPart]; omega, fun i hi => ?_, fun i hi => ?_⟩
  · show gt (((difW s t).levels.drop 0).take (difF s t time - 0)) i = _
    rw [gt_drop_take _ (by omega), Nat.zero_add, difW_at (by omega)]
  · show gt (((difW s t).shifts.drop 0).take (max 0 (difF s t time - 1) - 0)) i = _
    rw [gt_drop_take _ (by omega), Nat.zero_add, difW_xt (by omega)]
/-- the window from a time on, backwards -/
theorem winB (s t : Ser) (time : Int) : (winTurn (winPart (difW s t) (difF s t time) (comL s t).length)).levels.length = (comL s t).length - difF s t time ∧
    (∀ i, i < (comL s t).length - difF s t time → gt (winTurn (winPart (difW s t) (difF s t time) (comL s t).length)).levels i = difV s t ((comL s t).length - 1 - i)) ∧
    (∀ i, i + 1 < (comL s t).length - difF s t time → gt (winTurn (winPart (difW s t) (difF s t time) (comL s t).length)).shifts i = mirS 0 (difX s t ((comL s t).length - 2 - i))) := by
  have hl := difW_len s t
  have hf := dif_len s t time
  have e1 : (winPart (difW s t) (difF s t time) (comL s t).length).levels.length = (comL s t).length - difF s t time := by simp [winPart]; omega
  refine ⟨by simp [winTurn, e1], fun i hi => ?_, fun i hi => ?_⟩
  · show gt (winPart (difW s t) (difF s t time) (comL s t).length).levels.reverse i = _
    rw [gt_rev _ (by omega), e1]
    show gt (((difW s t).levels.drop (difF s t time)).take ((comL s t).length - difF s t time)) _ = _
    rw [gt_drop_take _ (by omega), difW_at (by omega)]
    congr 1; omega
  · have e2 : (winPart (difW s t) (difF s t time) (comL s t).length).shifts.length = (comL s t).length - 1 - difF s t time := by simp [winPart]; omega
    show gt ((winPart (difW s t) (difF s t time) (comL s t).length).shifts.reverse.map fun x => (⟨-x.Hi, -x.Lo⟩ : Span)) i = _
    rw [gt_mapL _ _ (by rw [List.length_reverse]; omega), gt_rev _ (by omega), e2]
    show _ = (⟨0 - _, 0 - _⟩ : Span)
    rw [show gt (winPart (difW s t) (difF s t time) (comL s t).length).shifts ((comL s t).length - 1 - difF s t time - 1 - i) = difX s t ((comL s t).length - 2 - i) from by
      show gt (((difW s t).shifts.drop (difF s t time)).take (max (difF s t time) ((comL s t).length - 1) - difF s t time)) _ = _
      rw [gt_drop_take _ (by omega), difW_xt (by omega)]
      congr 1; omega]
    simp only [Span.mk.injEq]; omega
end
theorem adj_zero {s t : Ser} {time most : Int} (h : (adjR s t time most).2 = 0) : (Ok s ∧ Ok t) ∧ ((0 ≤ time ∧ time ≤ 10000) ∧ (0 ≤ most ∧ most ≤ 24000)) ∧ ¬ (difF s t time = 0 ∨ difF s t time = (comL s t).length) ∧ (adjA s t time most).2 = true ∧ (adjB s t time most).2 = true ∧
    (adjR s t time most).1 = ⟨(adjB s t time most).1.Lo - (adjA s t time most).1.Hi - (difX s t (difF s t time - 1)).Hi, (adjB s t time most).1.Hi - (adjA s t time most).1.Lo - (difX s t (difF s t time - 1)).Lo⟩ := by
  by_cases h1 : twoE s t ≠ 0
  · rw [adj_err h1] at h; exact absurd h h1
  · by_cases h2 : ¬ ((0 ≤ time ∧ time ≤ 10000) ∧ (0 ≤ most ∧ most ≤ 24000))
    · rw [adj_arg (by omega) h2] at h; cases h
    · by_cases h3 : difF s t time = 0 ∨ difF s t time = (comL s t).length
      · rw [adj_none (by omega) (by omega) h3] at h; cases h
      · by_cases h4 : (adjA s t time most).2 = false ∨ (adjB s t time most).2 = false
        · rw [adj_bad (by omega) (by omega) h3 h4] at h; cases h
        · have hz := twoE_zero (s := s) (t := t) (by omega)
          have h5 : (adjA s t time most).2 = true := by cases hh : (adjA s t time most).2 with | true => rfl | false => exact absurd (.inl hh) h4
          have h6 : (adjB s t time most).2 = true := by cases hh : (adjB s t time most).2 with | true => rfl | false => exact absurd (.inr hh) h4
          have hf := dif_len s t time
          refine ⟨⟨Ok.of hz.1, Ok.of hz.2⟩, by omega, h3, h5, h6, ?_⟩
          rw [adj_ok (by omega) (by omega) h3 h5 h6, difW_xt (by omega)]
/-- what is told of the adjustment, in parts -/
theorem adj_val {s t : Ser} (hs : Ok s) (ht : Ok t) {time most : Int} (hr : (0 ≤ time ∧ time ≤ 10000) ∧ (0 ≤ most ∧ most ≤ 24000)) : adjR s t time most = if difF s t time = 0 ∨ difF s t time = (comL s t).length then (⟨0, 0⟩, 3)
    else if (adjA s t time most).2 = false ∨ (adjB s t time most).2 = false then (⟨0, 0⟩, 3)
    else (⟨(adjB s t time most).1.Lo - (adjA s t time most).1.Hi - (difX s t (difF s t time - 1)).Hi, (adjB s t time most).1.Hi - (adjA s t time most).1.Lo - (difX s t (difF s t time - 1)).Lo⟩, 0) := by
  have hz : twoE s t = 0 := by unfold twoE; rw [if_neg (fun hn => hn hs.e), ht.e]
  have hf := dif_len s t time
  by_cases h3 : difF s t time = 0 ∨ difF s t time = (comL s t).length
  · rw [if_pos h3, adj_none hz hr h3]
  · rw [if_neg h3]
    by_cases h4 : (adjA s t time most).2 = false ∨ (adjB s t time most).2 = false
    · rw [if_pos h4, adj_bad hz hr h3 h4]
    · have h5 : (adjA s t time most).2 = true := by cases hh : (adjA s t time most).2 with | true => rfl | false => exact absurd (.inl hh) h4
      have h6 : (adjB s t time most).2 = true := by cases hh : (adjB s t time most).2 with | true => rfl | false => exact absurd (.inr hh) h4
      rw [if_neg h4, adj_ok hz hr h3 h5 h6, difW_xt (by omega)]
theorem adj_mir {s t s' t' : Ser} (hs : Ok s) (ht : Ok t) (hs' : Ok s') (ht' : Ok t') (hl : (comL s' t').length = (comL s t).length) (hT : ∀ n, n < (comL s t).length → difT s' t' n = difT s t n)
    (hV : ∀ n, n < (comL s t).length → difV s' t' n = mirS 0 (difV s t n)) (hX : ∀ n, n + 1 < (comL s t).length → difX s' t' n = mirS 0 (difX s t n)) (time most : Int) :
    adjR s' t' time most = (mirS 0 (adjR s t time most).1, (adjR s t time most).2) := by
  have hz : twoE s t = 0 := by unfold twoE; rw [if_neg (fun hn => hn hs.e), ht.e]
  have hz' : twoE s' t' = 0 := by unfold twoE; rw [if_neg (fun hn => hn hs'.e), ht'.e]
  by_cases hr : (0 ≤ time ∧ time ≤ 10000) ∧ (0 ≤ most ∧ most ≤ 24000)
  · have hF : difF s' t' time = difF s t time := by unfold difF; rw [hl]; exact first_congr fun i hi => by rw [hT i hi]
    rw [adj_val hs ht hr, adj_val hs' ht' hr, hF, hl]
    have hf := dif_len s t time
    by_cases h3 : difF s t time = 0 ∨ difF s t time = (comL s t).length
    · rw [if_pos h3, if_pos h3]; rfl
    · rw [if_neg h3, if_neg h3]
      have a1 := winA s t time
      have a2 := winA s' t' time
      have b1 := winB s t time
      have b2 := winB s' t' time
      rw [hF] at a2
      rw [hF, hl] at b2
      have ha : adjA s' t' time most = (mirS (0 - most) (adjA s t time most).1, (adjA s t time most).2) := by
        unfold adjA
        rw [hF]
        exact lastR_mir 0 most (by rw [a1.1, a2.1]) (by rw [a1.1]; omega) (fun i hi => by rw [a2.2.1 i (by omega), a1.2.1 i (by omega), hV i (by omega)]) (fun i hi => by rw [a2.2.2 i (by omega), a1.2.2 i (by omega), hX i (by omega)])
      have hb : adjB s' t' time most = (mirS (0 - most) (adjB s t time most).1, (adjB s t time most).2) := by
        unfold adjB
        rw [hF, hl]
        exact lastR_mir 0 most (by rw [b1.1, b2.1]) (by rw [b1.1]; omega) (fun i hi => by rw [b2.2.1 i (by omega), b1.2.1 i (by omega), hV _ (by omega)]) (fun i hi => by rw [b2.2.2 i (by omega), b1.2.2 i (by omega), hX _ (by omega)])
      rw [ha, hb, hX (difF s t time - 1) (by omega)]
      dsimp only
      by_cases h4 : (adjA s t time most).2 = false ∨ (adjB s t time most).2 = false
      · rw [if_pos h4, if_pos h4]; rfl
      · rw [if_neg h4, if_neg h4]
        simp only [mirS, Prod.mk.injEq, Span.mk.injEq, and_true]; constructor <;> omega
  · rw [adj_arg hz hr, adj_arg hz' hr]; rfl
/-- with both series exchanged the ends are the opposite ones -/
theorem adj_swap {s t : Ser} (hs : Ok s) (ht : Ok t) (time most : Int) : adjR t s time most = (mirS 0 (adjR s t time most).1, (adjR s t time most).2) := by
  have hc := com_swap hs ht
  have hT : ∀ n, n < (comL s t).length → difT t s n = difT s t n := fun n hn => by
    have e1 := tm_at t (c := comL t s) (i := n) (by omega)
    have e2 := tm_at s (c := comL s t) (i := n) hn
    rw [tmL_swap hs ht] at e1
    exact e1.symm.trans e2
  refine adj_mir hs ht ht hs hc.1 hT (fun n hn => ?_) (fun n hn => ?_) time most
  · unfold difV mirS
    rw [(hc.2 n hn).1, (hc.2 n hn).2]
    simp only [Span.mk.injEq]; omega
  · unfold difX mirS
    rw [hT n (by omega), hT (n + 1) hn]
    simp only [Span.mk.injEq]; omega
theorem adj_swap2 (s t : Ser) (time most : Int) : ((adjR s t time most).2 = 0 ↔ (adjR t s time most).2 = 0) ∧ ((adjR s t time most).2 = 0 → (adjR s t time most).1.Lo = - (adjR t s time most).1.Hi ∧ (adjR s t time most).1.Hi = - (adjR t s time most).1.Lo) := by
  have key : (adjR s t time most).2 = 0 ∨ (adjR t s time most).2 = 0 → adjR t s time most = (mirS 0 (adjR s t time most).1, (adjR s t time most).2) := fun h => by
    rcases h with h | h
    · have := (adj_zero h).1; exact adj_swap this.1 this.2 _ _
    · have := (adj_zero h).1; exact adj_swap this.2 this.1 _ _
  refine ⟨⟨fun h => by rw [key (.inl h)]; exact h, fun h => by have := key (.inr h); rw [this] at h; exact h⟩, fun h => ?_⟩
  rw [key (.inl h)]
  simp only [mirS]; omega
theorem difV_order {s t : Ser} (hs : Ok s) (ht : Ok t) {n : Nat} (h : n < (comL s t).length) : (difV s t n).Lo ≤ (difV s t n).Hi := by
  have hc := com_bd (s := s) (t := t) h
  have h1 := hs.vl (i := (gt (comL s t) n).a.toNat) (by omega)
  have h2 := ht.vl (i := (gt (comL s t) n).b.toNat) (by omega)
  unfold difV; dsimp only; omega
theorem difX_order {s t : Ser} (hs : Ok s) (ht : Ok t) (n : Nat) : (difX s t n).Lo ≤ (difX s t n).Hi := by
  have h1 := btS_bd hs (difT s t n) (difT s t (n + 1))
  have h2 := btS_bd ht (difT s t n) (difT s t (n + 1))
  unfold difX; dsimp only; omega
theorem adj_order {s t : Ser} {time most : Int} (h : (adjR s t time most).2 = 0) : (adjR s t time most).1.Lo ≤ (adjR s t time most).1.Hi := by
  obtain ⟨⟨hs, ht⟩, hr, hf, ha, hb, hv⟩ := adj_zero h
  have hl := dif_len s t time
  have a1 := winA s t time
  have b1 := winB s t time
  have h1 := lastR_order (w := winPart (difW s t) 0 (difF s t time)) (most := most) (by omega) hr.2.1 (by rw [a1.2.1 0 (by omega)]; exact difV_order hs ht (by omega)) ha
  have h2 := lastR_order (w := winTurn (winPart (difW s t) (difF s t time) (comL s t).length)) (most := most) (by omega) hr.2.1 (by rw [b1.2.1 0 (by omega)]; exact difV_order hs ht (by omega)) hb
  have h3 := difX_order hs ht (difF s t time - 1)
  rw [hv]
  unfold adjA adjB
  dsimp only
  omega

/-! ### whoever has levels and shifts -/
theorem off_bt {s : Ser} {sh : List Int} (hx : ∀ i, i < s.Shifts.length → (gt s.Shifts i).Levels.Lo ≤ gt sh i ∧ gt sh i ≤ (gt s.Shifts i).Levels.Hi) {a b : Int} (hab : a ≤ b) :
    (bt s.Shifts a b).Lo ≤ offN s.Shifts sh b s.Shifts.length - offN s.Shifts sh a s.Shifts.length ∧ offN s.Shifts sh b s.Shifts.length - offN s.Shifts sh a s.Shifts.length ≤ (bt s.Shifts a b).Hi := by
  unfold offN bt btLo btHi
  rw [← sumN_sub]
  constructor <;> refine sumN_le fun k hk => ?_ <;> have := hx k hk <;> (repeat' split) <;> omega
/-- the plain difference and the shifts of a common time -/
def rawD (lv lv' : List Int) (s t : Ser) (n : Nat) : Int := gt lv (gt (comL s t) n).a.toNat - gt lv' (gt (comL s t) n).b.toNat
def offD (sh sh' : List Int) (s t : Ser) (n : Nat) : Int := offN s.Shifts sh (difT s t n) s.Shifts.length - offN t.Shifts sh' (difT s t n) t.Shifts.length
theorem dif_split {s t : Ser} {lv sh lv' sh' : List Int} {n : Nat} (h : n < (comL s t).length) : gt (dfL (evenL s lv sh) (evenL t lv' sh') (comL s t)) n = rawD lv lv' s t n - offD sh sh' s t n := by
  have hc := com_bd (s := s) (t := t) h
  obtain ⟨i, k, h1, h2, h3, h4, h5⟩ := com_at h
  rw [df_at _ _ h, evenL_at (by omega), evenL_at (by omega)]
  unfold rawD offD evenAt difT
  rw [h1, h2]
  simp only [Int.toNat_natCast]
  rw [h5]; omega
theorem raw_in {s t : Ser} {lv sh lv' sh' : List Int} (ha : agreeP s lv sh) (hb : agreeP t lv' sh') {n : Nat} (h : n < (comL s t).length) : (difV s t n).Lo ≤ rawD lv lv' s t n ∧ rawD lv lv' s t n ≤ (difV s t n).Hi := by
  have hc := com_bd (s := s) (t := t) h
  have h1 := ha.2.1 (gt (comL s t) n).a.toNat (by omega)
  have h2 := hb.2.1 (gt (comL s t) n).b.toNat (by omega)
  unfold rawD difV; dsimp only; omega
theorem off_in {s t : Ser} (hs : Ok s) {lv sh lv' sh' : List Int} (ha : agreeP s lv sh) (hb : agreeP t lv' sh') {n : Nat} (h : n + 1 < (comL s t).length) : (difX s t n).Lo ≤ offD sh sh' s t (n + 1) - offD sh sh' s t n ∧ offD sh sh' s t (n + 1) - offD sh sh' s t n ≤ (difX s t n).Hi := by
  have ht := difT_up (t := t) hs (i := n) (j := n + 1) (by omega) h
  have h1 := off_bt ha.2.2 (a := difT s t n) (b := difT s t (n + 1)) (by omega)
  have h2 := off_bt hb.2.2 (a := difT s t n) (b := difT s t (n + 1)) (by omega)
  unfold offD difX; dsimp only; omega
/-- differences that lie within most of c ahead of a time and of c' from it on: the number c' - c is told -/
theorem adj_has {s t : Ser} (hs : Ok s) (ht : Ok t) {time most : Int} (hr : (0 ≤ time ∧ time ≤ 10000) ∧ (0 ≤ most ∧ most ≤ 24000)) {lv sh lv' sh' : List Int} (ha : agreeP s lv sh) (hb : agreeP t lv' sh') (hf : ¬ (difF s t time = 0 ∨ difF s t time = (comL s t).length)) {c c' : Int}
    (h1 : ∀ n, n < difF s t time → c ≤ gt (dfL (evenL s lv sh) (evenL t lv' sh') (comL s t)) n ∧ gt (dfL (evenL s lv sh) (evenL t lv' sh') (comL s t)) n ≤ c + most)
    (h2 : ∀ n, difF s t time ≤ n → n < (comL s t).length → c' ≤ gt (dfL (evenL s lv sh) (evenL t lv' sh') (comL s t)) n ∧ gt (dfL (evenL s lv sh) (evenL t lv' sh') (comL s t)) n ≤ c' + most) :
    (adjR s t time most).2 = 0 ∧ (adjR s t time most).1.Lo ≤ c' - c ∧ c' - c ≤ (adjR s t time most).1.Hi := by
  have hl := dif_len s t time
  have a1 := winA s t time
  have b1 := winB s t time
  have hA := lastR_in (w := winPart (difW s t) 0 (difF s t time)) (most := most) (a := fun i => c + offD sh sh' s t i) (by omega)
    (fun i hi => by
      rw [a1.2.1 i (by omega)]
      have q1 := h1 i (by omega)
      rw [dif_split (by omega)] at q1
      have q2 := raw_in ha hb (n := i) (by omega)
      omega)
    (fun i hi => by
      rw [a1.2.2 i (by omega)]
      have q2 := off_in hs ha hb (n := i) (by omega)
      omega)
  have hB := lastR_in (w := winTurn (winPart (difW s t) (difF s t time) (comL s t).length)) (most := most) (a := fun i => c' + offD sh sh' s t ((comL s t).length - 1 - i)) (by omega)
    (fun i hi => by
      rw [b1.2.1 i (by omega)]
      have q1 := h2 ((comL s t).length - 1 - i) (by omega) (by omega)
      rw [dif_split (by omega)] at q1
      have q2 := raw_in ha hb (n := (comL s t).length - 1 - i) (by omega)
      omega)
    (fun i hi => by
      rw [b1.2.2 i (by omega)]
      have q2 := off_in hs ha hb (n := (comL s t).length - 2 - i) (by omega)
      rw [show (comL s t).length - 2 - i + 1 = (comL s t).length - 1 - i by omega] at q2
      rw [show (comL s t).length - 1 - (i + 1) = (comL s t).length - 2 - i by omega]
      unfold mirS
      dsimp only
      omega)
  rw [a1.1] at hA
  rw [b1.1, show (comL s t).length - 1 - ((comL s t).length - difF s t time - 1) = difF s t time by omega] at hB
  have hJ := off_in hs ha hb (n := difF s t time - 1) (by omega)
  rw [show difF s t time - 1 + 1 = difF s t time by omega] at hJ
  have hA1 : (adjA s t time most).2 = true := hA.1
  have hB1 : (adjB s t time most).2 = true := hB.1
  have hA2 : (adjA s t time most).1 = (lastR (winPart (difW s t) 0 (difF s t time)) most).1 := rfl
  have hB2 : (adjB s t time most).1 = (lastR (winTurn (winPart (difW s t) (difF s t time) (comL s t).length)) most).1 := rfl
  rw [adj_val hs ht hr, if_neg hf, if_neg (by rw [hA1, hB1]; simp), hA2, hB2]
  dsimp only
  exact ⟨rfl, by omega, by omega⟩
end Go.Proofs.C8
