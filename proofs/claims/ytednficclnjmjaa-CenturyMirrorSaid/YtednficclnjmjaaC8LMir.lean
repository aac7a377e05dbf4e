/- Century: levels counted downwards, in plain Lean. -/
import Derived.Test.YtednficclnjmjaaC8LExt
import Derived.Test.YtednficclnjmjaaC8LAdj
namespace Go.Proofs.C8
open Go Go.Kx

section
variable {s : Ser}
theorem turn_nV (s : Ser) : (turnS s).Values.length = s.Values.length := map_len _ _
theorem turn_nX (s : Ser) : (turnS s).Shifts.length = s.Shifts.length := map_len _ _
theorem turn_v {i : Nat} (h : i < s.Values.length) : gt (turnS s).Values i = ⟨(gt s.Values i).Time, mirS 24000 (gt s.Values i).Levels⟩ := by unfold turnS; dsimp only; rw [gt_map h]; rfl
theorem turn_x {i : Nat} (h : i < s.Shifts.length) : gt (turnS s).Shifts i = ⟨(gt s.Shifts i).Time, mirS 0 (gt s.Shifts i).Levels⟩ := by
  unfold turnS; dsimp only; rw [gt_map h]; simp only [mirS, Shf.mk.injEq, Span.mk.injEq, true_and]; omega
theorem turn_ok (h : Ok s) : Ok (turnS s) := by
  refine ⟨by rw [turn_nV]; exact h.nV, by rw [turn_nX]; exact h.nX, fun i hi => ?_, fun i hi => ?_⟩
  · rw [turn_nV] at hi
    have h1 := h.v i hi
    have e0 := turn_v hi
    unfold badV at h1 ⊢
    rw [e0]
    rcases Nat.eq_zero_or_pos i with h0 | h0
    · dsimp only [mirS]; omega
    · rw [turn_v (i := i - 1) (by omega)]; dsimp only [mirS]; omega
  · rw [turn_nX] at hi
    have h1 := h.x i hi
    have e0 := turn_x hi
    unfold badX at h1 ⊢
    rw [e0]
    rcases Nat.eq_zero_or_pos i with h0 | h0
    · dsimp only [mirS]; omega
    · rw [turn_x (i := i - 1) (by omega)]; dsimp only [mirS]; omega
theorem turn_bt (s : Ser) (a b : Int) : bt (turnS s).Shifts a b = mirS 0 (bt s.Shifts a b) := by
  unfold bt btLo btHi mirS
  dsimp only
  rw [turn_nX, show (0 : Int) - sumN (fun k => if a < (gt s.Shifts k).Time ∧ (gt s.Shifts k).Time ≤ b then (gt s.Shifts k).Levels.Hi else 0) s.Shifts.length = - sumN (fun k => if a < (gt s.Shifts k).Time ∧ (gt s.Shifts k).Time ≤ b then (gt s.Shifts k).Levels.Hi else 0) s.Shifts.length by omega,
    show (0 : Int) - sumN (fun k => if a < (gt s.Shifts k).Time ∧ (gt s.Shifts k).Time ≤ b then (gt s.Shifts k).Levels.Lo else 0) s.Shifts.length = - sumN (fun k => if a < (gt s.Shifts k).Time ∧ (gt s.Shifts k).Time ≤ b then (gt s.Shifts k).Levels.Lo else 0) s.Shifts.length by omega, ← sumN_neg, ← sumN_neg]
  congr 1 <;> exact sumN_congr fun k hk => by rw [turn_x hk]; dsimp only [mirS]; split <;> omega
theorem turn_idx (t : Ser) (x : Int) : idxR (turnS t) x = idxR t x := by
  unfold idxR idxT
  rw [turn_nV]
  rw [first_congr (p := fun i => (gt (turnS t).Values i).Time = x) (q := fun i => (gt t.Values i).Time = x) (fun i hi => by rw [turn_v hi])]
theorem turn_comN (s t : Ser) : ∀ k : Nat, k ≤ s.Values.length → comN (turnS s) (turnS t) k = comN s t k
  | 0, _ => rfl
  | k + 1, h => by simp only [comN]; rw [turn_comN s t k (by omega), turn_idx, turn_v (s := s) (by omega)]
theorem turn_com (s t : Ser) : comL (turnS s) (turnS t) = comL s t := by unfold comL; rw [turn_nV]; exact turn_comN s t _ (Nat.le_refl _)
end
theorem turn_adj {s t : Ser} (hs : Ok s) (ht : Ok t) (time most : Int) : adjR (turnS s) (turnS t) time most = (mirS 0 (adjR s t time most).1, (adjR s t time most).2) := by
  have hT : ∀ n, n < (comL s t).length → difT (turnS s) (turnS t) n = difT s t n := fun n hn => by
    have hc := com_bd (s := s) (t := t) hn
    unfold difT; rw [turn_com, turn_v (by omega)]
  refine adj_mir hs ht (turn_ok hs) (turn_ok ht) (by rw [turn_com]) hT (fun n hn => ?_) (fun n hn => ?_) time most
  · have hc := com_bd (s := s) (t := t) hn
    unfold difV mirS
    rw [turn_com, turn_v (by omega), turn_v (by omega)]
    simp only [mirS, Span.mk.injEq]; omega
  · unfold difX
    rw [hT n (by omega), hT (n + 1) hn, turn_bt, turn_bt]
    simp only [mirS, Span.mk.injEq]; omega
/-! ### sums -/
theorem endS_mir (c : Int) (x : Span) (f : Int) (b : Bool) : endS (mirS c x) f b = c - endS x f (!b) := by
  unfold endS mirS
  by_cases h : 0 < f <;> cases b <;> simp [h]
theorem turn_sumX (s : Ser) (f : List Int) {k : Nat} (hk : k < s.Shifts.length) : sumX (turnS s) f k = sumX s f k := by
  unfold sumX
  rw [turn_nV]
  congr 1
  exact sumN_congr fun i hi => by rw [turn_v hi, turn_x hk]
theorem turn_sumXL (s : Ser) (f : List Int) : sumXL (turnS s) f = sumXL s f := by
  unfold sumXL
  rw [turn_nX]
  exact List.map_congr_left fun k hk => turn_sumX s f (List.mem_range.1 hk)
theorem turn_tot (s : Ser) (f : List Int) (b : Bool) : totS (turnS s) f (sumXL (turnS s) f) b = 24000 * sumN (gt f) s.Values.length - totS s f (sumXL s f) (!b) := by
  rw [turn_sumXL]
  unfold totS
  rw [turn_nV, turn_nX]
  have h1 : totN f (endV (turnS s) f b) s.Values.length = 24000 * sumN (gt f) s.Values.length - totN f (endV s f (!b)) s.Values.length := by
    unfold totN
    rw [← sumN_mul, ← sumN_sub]
    exact sumN_congr fun i hi => by
      rw [endV, turn_nV, gt_map hi, endV, gt_map hi, turn_v hi, endS_mir, Int.mul_sub, Int.mul_comm]
  have h2 : totN (sumXL s f) (endX (turnS s) (sumXL s f) b) s.Shifts.length = - totN (sumXL s f) (endX s (sumXL s f) (!b)) s.Shifts.length := by
    unfold totN
    rw [← sumN_neg]
    exact sumN_congr fun i hi => by
      rw [endX, turn_nX, gt_map hi, endX, gt_map hi, turn_x hi, endS_mir, Int.zero_sub, Int.mul_neg]
  rw [h1, h2]; omega
theorem turn_bd {s : Ser} {f : List Int} (h0 : sumN (gt f) s.Values.length = 0) : bd (turnS s) f = mirS 0 (bd s f) := by
  show (⟨totS (turnS s) f (sumXL (turnS s) f) false, totS (turnS s) f (sumXL (turnS s) f) true⟩ : Span) = ⟨0 - totS s f (sumXL s f) true, 0 - totS s f (sumXL s f) false⟩
  rw [turn_tot, turn_tot, h0]
  simp
theorem gap_zero {n i k : Nat} (hi : i < n) (hk : k < n) : sumN (gt (gapL n i k)) n = 0 := by
  have := gap_lin hi hk (fun _ => 1)
  simpa using this
theorem turn_gap {s : Ser} {i k : Nat} (hi : i < s.Values.length) (hk : k < s.Values.length) : gap (turnS s) i k = mirS 0 (gap s i k) := by
  unfold gap
  rw [turn_nV]
  exact turn_bd (gap_zero hi hk)
theorem turn_brk {s t : Ser} (hs : Ok s) (ht : Ok t) (least : Int) : brkR (turnS s) (turnS t) least = brkR s t least := by
  have hz : twoE s t = 0 := by unfold twoE; rw [if_neg (fun hn => hn hs.e), ht.e]
  have hz' : twoE (turnS s) (turnS t) = 0 := by unfold twoE; rw [if_neg (fun hn => hn (turn_ok hs).e), (turn_ok ht).e]
  have key : ∀ n, n ≤ (comL s t).length → brkN (turnS s) (turnS t) least n = brkN s t least n := by
    intro n
    induction n with
    | zero => intro _; rfl
    | succ n ih =>
      intro hn
      have hc := com_bd (s := s) (t := t) (n := n) (by omega)
      have hd := com_bd (s := s) (t := t) (n := n - 1) (by omega)
      have hp : brkP (turnS s) (turnS t) least n ↔ brkP s t least n := by
        unfold brkP
        rw [turn_com, turn_gap (by omega) (by omega), turn_gap (by omega) (by omega)]
        simp only [mirS]; omega
      simp only [brkN]
      rw [ih (by omega), turn_com, turn_v (by omega)]
      by_cases h : 0 < n ∧ brkP s t least n
      · rw [if_pos h, if_pos ⟨h.1, hp.2 h.2⟩]
      · rw [if_neg h, if_neg (fun h2 => h ⟨h2.1, hp.1 h2.2⟩)]
  unfold brkR
  rw [hz, hz', turn_com, key _ (Nat.le_refl _)]
/-! ### slopes -/
theorem mom_zero (s : Ser) : sumN (gt (momL s)) s.Values.length = 0 := by
  rw [sumN_congr (g := fun i => (s.Values.length : Int) * (gt s.Values i).Time - timN s s.Values.length) (fun i hi => by rw [momL, gt_map hi]), sumN_sub, sumN_mul, sumN_const]
  unfold timN; omega
theorem turn_tim (s : Ser) {n : Nat} (hn : n ≤ s.Values.length) : timN (turnS s) n = timN s n := sumN_congr fun i hi => by rw [turn_v (by omega)]
theorem turn_sq (s : Ser) {n : Nat} (hn : n ≤ s.Values.length) : sqN (turnS s) n = sqN s n := sumN_congr fun i hi => by rw [turn_v (by omega)]
theorem turn_momL (s : Ser) : momL (turnS s) = momL s := by
  unfold momL
  rw [turn_nV, turn_tim s (Nat.le_refl _)]
  exact List.map_congr_left fun i hi => by rw [turn_v (List.mem_range.1 hi)]
theorem turn_momD (s : Ser) : momD (turnS s) = momD s := by unfold momD; rw [turn_nV, turn_tim s (Nat.le_refl _), turn_sq s (Nat.le_refl _)]
theorem turn_two {s : Ser} (h : Ok s) : twoVE (turnS s) = twoVE s := by unfold twoVE; rw [(turn_ok h).e, h.e, turn_nV]
theorem lowR_neg (a d : Int) : lowR (0 - a) d = ⟨-(lowR a d).Num, (lowR a d).Den⟩ := by
  unfold lowR
  rw [Int.zero_sub, Int.neg_gcd, Int.neg_tdiv]
theorem turn_slope {s : Ser} (h : Ok s) : slopeR (turnS s) = (⟨-(slopeR s).2.1.Num, (slopeR s).2.1.Den⟩, ⟨-(slopeR s).1.Num, (slopeR s).1.Den⟩, (slopeR s).2.2) := by
  unfold slopeR
  rw [turn_two h]
  by_cases h2 : twoVE s ≠ 0
  · rw [if_pos h2, if_pos h2]; rfl
  · rw [if_neg h2, if_neg h2]
    have e1 : slpS (turnS s) = ⟨turnS s, momL (turnS s), sumXL (turnS s) (momL (turnS s))⟩ := slpS_ok (by rw [turn_two h]; omega)
    have e2 : slpS s = ⟨s, momL s, sumXL s (momL s)⟩ := slpS_ok (by omega)
    have e3 : slpD (turnS s) = slpD s := by unfold slpD; rw [turn_two h, turn_momD]
    have e4 : bdX (slpS (turnS s)) = mirS 0 (bdX (slpS s)) := by
      rw [e1, e2]
      show bd (turnS s) (momL (turnS s)) = mirS 0 (bd s (momL s))
      rw [turn_momL]
      exact turn_bd (mom_zero s)
    rw [e3, e4]
    show (lowR (0 - (bdX (slpS s)).Hi) (slpD s), lowR (0 - (bdX (slpS s)).Lo) (slpD s), (0 : Int)) = _
    rw [lowR_neg, lowR_neg]
theorem slope_bd (s : Ser) : (-4000000000000000000 ≤ (slopeR s).1.Num ∧ (slopeR s).1.Num ≤ 4000000000000000000) ∧ (-4000000000000000000 ≤ (slopeR s).2.1.Num ∧ (slopeR s).2.1.Num ≤ 4000000000000000000) := by
  unfold slopeR
  by_cases h2 : twoVE s ≠ 0
  · rw [if_pos h2]; dsimp only; omega
  · rw [if_neg h2]
    have h := bdX_bd (slpS_w (s := s) (by omega))
    exact ⟨tdiv_bd h.1, tdiv_bd h.2⟩
/-! ### extremes -/
theorem turn_evS {s : Ser} {i : Nat} (hi : i < s.Values.length) : evS (turnS s) i = mirS 24000 (evS s i) := by
  have h1 := turn_bt s (-1) (gt s.Values i).Time
  unfold bt mirS at h1
  simp only [Span.mk.injEq] at h1
  unfold evS
  rw [turn_v hi]
  simp only [mirS, Span.mk.injEq]
  omega
theorem turn_ext {s : Ser} {x : Span} : ∀ n : Nat, n ≤ s.Values.length → (extN (turnS s) x n).2.2 = (extN s x n).2.2 ∧ ((extN s x n).2.2 = true → (extN (turnS s) x n).1 = mirS 24000 (extN s x n).2.1 ∧ (extN (turnS s) x n).2.1 = mirS 24000 (extN s x n).1)
  | 0, _ => ⟨rfl, fun h => by cases h⟩
  | n + 1, hn => by
    obtain ⟨h1, h2⟩ := turn_ext (s := s) (x := x) n (by omega)
    have ht : (gt (turnS s).Values n).Time = (gt s.Values n).Time := by rw [turn_v (by omega)]
    by_cases hin : inT x (gt s.Values n).Time
    · have hin' : inT x (gt (turnS s).Values n).Time := by rw [ht]; exact hin
      cases hf : (extN s x n).2.2 with
      | true =>
        rw [ext_more hin hf, ext_more hin' (by rw [h1]; exact hf), turn_evS (by omega)]
        obtain ⟨h3, h4⟩ := h2 hf
        refine ⟨rfl, fun _ => ?_⟩
        dsimp only
        rw [h3, h4]
        simp only [mirS, Span.mk.injEq]
        omega
      | false =>
        rw [ext_one hin hf, ext_one hin' (by rw [h1]; exact hf), turn_evS (by omega)]
        exact ⟨rfl, fun _ => ⟨rfl, rfl⟩⟩
    · have hin' : ¬ inT x (gt (turnS s).Values n).Time := by rw [ht]; exact hin
      have e1 : extN s x (n + 1) = extN s x n := by rw [extN, if_neg hin]
      have e2 : extN (turnS s) x (n + 1) = extN (turnS s) x n := by rw [extN, if_neg hin']
      rw [e1, e2]
      exact ⟨h1, h2⟩
theorem extR_val {s : Ser} (h : Ok s) (x : Span) : extR s x = if ¬ spOk x 0 10000 then (⟨0, 0⟩, ⟨0, 0⟩, 1) else if (extN s x s.Values.length).2.2 = true then ((extN s x s.Values.length).1, (extN s x s.Values.length).2.1, 0) else (⟨0, 0⟩, ⟨0, 0⟩, 3) := by
  unfold extR
  rw [if_neg (fun hn => hn h.e)]
theorem turn_extR {s : Ser} (h : Ok s) (x : Span) : (extR (turnS s) x).2.2 = (extR s x).2.2 ∧ ((extR s x).2.2 = 0 → (extR (turnS s) x).1 = mirS 24000 (extR s x).2.1 ∧ (extR (turnS s) x).2.1 = mirS 24000 (extR s x).1) := by
  have h1 := turn_ext (s := s) (x := x) _ (Nat.le_refl _)
  rw [extR_val h, extR_val (turn_ok h), turn_nV, h1.1]
  by_cases h2 : ¬ spOk x 0 10000
  · rw [if_pos h2, if_pos h2]; exact ⟨rfl, fun h => by cases h⟩
  · rw [if_neg h2, if_neg h2]
    cases hf : (extN s x s.Values.length).2.2 with
    | true => simp only [if_true]; exact ⟨trivial, fun _ => h1.2 hf⟩
    | false => simp
theorem ext_bd {s : Ser} (h : Ok s) (x : Span) : ∀ n : Nat, n ≤ s.Values.length → (-1000000 ≤ (extN s x n).1.Lo ∧ (extN s x n).1.Lo ≤ 1000000) ∧ (-1000000 ≤ (extN s x n).1.Hi ∧ (extN s x n).1.Hi ≤ 1000000) ∧ (-1000000 ≤ (extN s x n).2.1.Lo ∧ (extN s x n).2.1.Lo ≤ 1000000) ∧ (-1000000 ≤ (extN s x n).2.1.Hi ∧ (extN s x n).2.1.Hi ≤ 1000000)
  | 0, _ => by simp [extN]
  | n + 1, hn => by
    have h1 := ext_bd h x n (by omega)
    have h2 := evS_bd h (i := n) (by omega)
    simp only [extN]
    split
    · split
      · dsimp only; omega
      · dsimp only; omega
    · exact h1
theorem extR_bd (s : Ser) (x : Span) : (-1000000 ≤ (extR s x).1.Lo ∧ (extR s x).1.Lo ≤ 1000000) ∧ (-1000000 ≤ (extR s x).1.Hi ∧ (extR s x).1.Hi ≤ 1000000) ∧ (-1000000 ≤ (extR s x).2.1.Lo ∧ (extR s x).2.1.Lo ≤ 1000000) ∧ (-1000000 ≤ (extR s x).2.1.Hi ∧ (extR s x).2.1.Hi ≤ 1000000) := by
  by_cases h : (extR s x).2.2 = 0
  · have h1 := extR_zero h
    rw [h1.2.2.2]
    exact ext_bd h1.1 x _ (Nat.le_refl _)
  · have h1 := extR_bad h
    rw [h1.1, h1.2]; dsimp only; omega
/-! ### steps -/
theorem turn_win {s : Ser} {a b : Nat} (hab : a ≤ b) (hb : b < s.Values.length) (most : Int) : (lastR (winOf (turnS s) a b) most).2 = (lastR (winOf s a b) most).2 := by
  have hl : (winOf s a b).levels.length = b + 1 - a := map_len _ _
  have hl' : (winOf (turnS s) a b).levels.length = b + 1 - a := map_len _ _
  rw [lastR_mir (w := winOf s a b) (w' := winOf (turnS s) a b) 24000 most (by omega) (by omega) (fun i hi => by
    unfold winOf; dsimp only; rw [gt_map (by omega), gt_map (by omega), turn_v (by omega)]) (fun i hi => by
    unfold winOf; dsimp only; rw [gt_map (by omega), gt_map (by omega), turn_v (by omega), turn_v (by omega), turn_bt])]
theorem turn_nxt {s : Ser} {most : Int} {a : Nat} (ha : a < s.Values.length) : nxt (turnS s) most a = nxt s most a := by
  unfold nxt
  rw [turn_nV]
  congr 1
  exact first_congr fun j hj => by unfold nxtP; rw [turn_win (by omega) (by omega)]
theorem turn_stpF {s : Ser} {most : Int} : ∀ (f a : Nat), a < s.Values.length → stpF (turnS s) most f a = stpF s most f a
  | 0, _, _ => rfl
  | f + 1, a, ha => by
    simp only [stpF]
    rw [turn_nxt ha, turn_nV]
    by_cases h : nxt s most a < s.Values.length
    · rw [if_pos h, if_pos h, turn_v h, turn_stpF f _ h]
    · rw [if_neg h, if_neg h]
theorem turn_stp {s : Ser} (h : Ok s) (most : Int) : stpR (turnS s) most = stpR s most := by
  have he : stpE (turnS s) most = stpE s most := by unfold stpE; rw [h.e, (turn_ok h).e]
  have hL : stpL (turnS s) most = stpL s most := by
    unfold stpL
    rw [turn_nV]
    rcases Nat.eq_zero_or_pos s.Values.length with h0 | h0
    · rw [h0]; rfl
    · exact turn_stpF _ 0 h0
  unfold stpR
  rw [he, hL]
end Go.Proofs.C8
