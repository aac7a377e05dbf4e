/- Century: a shift put in, in plain Lean. -/
import Derived.Test.YtednficclnjmjaaC8LShift
namespace Go.Proofs.C8
open Go Go.Kx

/-- has a shift behind the time been seen among the first ones -/
def putB (L : List Shf) (time : Int) : Nat → Bool
  | 0 => false
  | i + 1 => putB L time i || decide (time < (gt L i).Time)
def newX (time n : Int) : Shf := ⟨time, ⟨n, n⟩⟩
/-- the first shifts, with the new one put in -/
def insN (L : List Shf) (time n : Int) : Nat → List Shf
  | 0 => []
  | i + 1 => (if putB L time i = false ∧ time < (gt L i).Time then insN L time n i ++ [newX time n] else insN L time n i) ++ [gt L i]
def insL (L : List Shf) (time n : Int) : List Shf := if putB L time L.length = true then insN L time n L.length else insN L time n L.length ++ [newX time n]
def withS (s : Ser) (time n : Int) : Ser := ⟨s.Values, insL s.Shifts time n⟩
theorem putB_yes {L : List Shf} {time : Int} {i : Nat} (h : putB L time i = false ∧ time < (gt L i).Time) : putB L time (i + 1) = true := by rw [putB, h.1, decide_eq_true h.2]; rfl
theorem putB_same {L : List Shf} {time : Int} {i : Nat} (h : ¬ (putB L time i = false ∧ time < (gt L i).Time)) : putB L time (i + 1) = putB L time i := by
  rw [putB]
  cases h1 : putB L time i with
  | true => rfl
  | false => rw [decide_eq_false (fun h2 => h ⟨h1, h2⟩)]; rfl
theorem insN_len (L : List Shf) (time n : Int) : ∀ i : Nat, (insN L time n i).length = i + if putB L time i = true then 1 else 0
  | 0 => rfl
  | i + 1 => by
    have := insN_len L time n i
    by_cases h2 : putB L time i = false ∧ time < (gt L i).Time
    · rw [insN, if_pos h2, if_pos (putB_yes h2), List.length_append, List.length_append, this, h2.1]
      simp
    · rw [insN, if_neg h2, putB_same h2, List.length_append, this]
      simp; omega
theorem insN_le (L : List Shf) (time n : Int) (i : Nat) : (insN L time n i).length ≤ i + 1 := by rw [insN_len]; split <;> omega
theorem insL_len (L : List Shf) (time n : Int) : (insL L time n).length = L.length + 1 := by
  have := insN_len L time n L.length
  unfold insL
  cases h : putB L time L.length
  · rw [h] at this; simp at this ⊢; omega
  · rw [h] at this; simp at this ⊢; omega
theorem putB_no {L : List Shf} {time : Int} : ∀ {i : Nat}, putB L time i = false → ∀ j, j < i → (gt L j).Time ≤ time
  | 0, _, j, hj => absurd hj (Nat.not_lt_zero _)
  | i + 1, h, j, hj => by
    rw [putB, Bool.or_eq_false_iff] at h
    rcases Nat.lt_succ_iff_lt_or_eq.1 hj with h1 | h1
    · exact putB_no h.1 j h1
    · subst h1; have := of_decide_eq_false h.2; omega
/-- a sum over a list that grows -/
theorem sum_snoc (f : Shf → Int) (A : List Shf) (x : Shf) : sumN (fun k => f (gt (A ++ [x]) k)) (A ++ [x]).length = sumN (fun k => f (gt A k)) A.length + f x := by
  have hl : (A ++ [x]).length = A.length + 1 := by simp
  rw [hl]
  simp only [sumN]
  congr 1
  · exact sumN_congr fun k hk => by rw [gt_snoc _ _ (by omega), if_pos hk]
  · rw [gt_snoc _ _ (by omega), if_neg (Nat.lt_irrefl _)]
theorem insN_sum (f : Shf → Int) (L : List Shf) (time n : Int) : ∀ i : Nat, sumN (fun k => f (gt (insN L time n i) k)) (insN L time n i).length = sumN (fun k => f (gt L k)) i + if putB L time i = true then f (newX time n) else 0
  | 0 => by simp [insN, putB, sumN]
  | i + 1 => by
    have := insN_sum f L time n i
    by_cases h2 : putB L time i = false ∧ time < (gt L i).Time
    · rw [insN, if_pos h2, if_pos (putB_yes h2), sum_snoc, sum_snoc, this, h2.1]
      simp [sumN]; omega
    · rw [insN, if_neg h2, putB_same h2, sum_snoc, this]
      simp only [sumN]; omega
theorem insL_sum (f : Shf → Int) (L : List Shf) (time n : Int) : sumN (fun k => f (gt (insL L time n) k)) (insL L time n).length = sumN (fun k => f (gt L k)) L.length + f (newX time n) := by
  unfold insL
  have := insN_sum f L time n L.length
  cases h : putB L time L.length with
  | true => rw [h] at this; simpa using this
  | false => rw [h] at this; rw [if_neg (by simp), sum_snoc, this]; simp
/-- shifts that are valid -/
def okX (x : Shf) : Prop := (0 ≤ x.Time ∧ x.Time ≤ 10000) ∧ (-12000 ≤ x.Levels.Lo ∧ x.Levels.Lo ≤ x.Levels.Hi) ∧ x.Levels.Hi ≤ 12000
def srtX (L : List Shf) : Prop := ∀ i, i < L.length → okX (gt L i) ∧ (0 < i → (gt L (i - 1)).Time ≤ (gt L i).Time)
theorem srt_snoc {A : List Shf} {x : Shf} (h : srtX A) (hx : okX x) (hl : 0 < A.length → (gt A (A.length - 1)).Time ≤ x.Time) : srtX (A ++ [x]) := fun i hi => by
  have hll : (A ++ [x]).length = A.length + 1 := by simp
  rw [gt_snoc _ _ hi]
  by_cases h1 : i < A.length
  · rw [if_pos h1]
    refine ⟨(h i h1).1, fun h0 => ?_⟩
    rw [gt_snoc _ _ (by omega), if_pos (by omega)]
    exact (h i h1).2 h0
  · rw [if_neg h1]
    refine ⟨hx, fun h0 => ?_⟩
    rw [gt_snoc _ _ (by omega), if_pos (by omega), show i - 1 = A.length - 1 by omega]
    exact hl (by omega)
theorem okX_of {s : Ser} (h : Ok s) {i : Nat} (hi : i < s.Shifts.length) : okX (gt s.Shifts i) := by have h1 := h.xt hi; have h2 := h.xl hi; unfold okX; omega
theorem ins_srt {s : Ser} (h : Ok s) {time n : Int} (ht : 0 ≤ time ∧ time ≤ 10000) (hn : -12000 ≤ n ∧ n ≤ 12000) : ∀ i : Nat, i ≤ s.Shifts.length → srtX (insN s.Shifts time n i) ∧ (0 < i → 0 < (insN s.Shifts time n i).length ∧ gt (insN s.Shifts time n i) ((insN s.Shifts time n i).length - 1) = gt s.Shifts (i - 1))
  | 0, _ => ⟨fun i hi => by simp [insN] at hi, fun h0 => by omega⟩
  | i + 1, hi => by
    obtain ⟨h1, h2⟩ := ins_srt h ht hn i (by omega)
    have hnew : okX (newX time n) := by unfold okX newX; dsimp only; omega
    have hlast : ∀ x : Shf, gt (insN s.Shifts time n i ++ [x]) ((insN s.Shifts time n i ++ [x]).length - 1) = x := fun x => by
      rw [gt_snoc _ _ (by simp), if_neg (by simp)]
    have hz : insN s.Shifts time n i = [] ∨ 0 < i := by
      rcases Nat.eq_zero_or_pos i with h0 | h0
      · subst h0; exact .inl rfl
      · exact .inr h0
    constructor
    · simp only [insN]
      by_cases hp : putB s.Shifts time i = false ∧ time < (gt s.Shifts i).Time
      · rw [if_pos hp]
        refine srt_snoc (srt_snoc h1 hnew fun h0 => ?_) (okX_of h (by omega)) fun h0 => ?_
        · rcases hz with hz | hz
          · rw [hz] at h0; simp at h0
          · rw [(h2 hz).2]; exact putB_no hp.1 (i - 1) (by omega)
        · rw [hlast]; show time ≤ _; omega
      · rw [if_neg hp]
        refine srt_snoc h1 (okX_of h (by omega)) fun h0 => ?_
        rcases hz with hz | hz
        · rw [hz] at h0; simp at h0
        · rw [(h2 hz).2]; exact h.xs (by omega) hz
    · intro _
      simp only [insN]
      refine ⟨by simp, ?_⟩
      rw [gt_snoc _ _ (by simp), if_neg (by simp), Nat.add_sub_cancel]
theorem insL_srt {s : Ser} (h : Ok s) {time n : Int} (ht : 0 ≤ time ∧ time ≤ 10000) (hn : -12000 ≤ n ∧ n ≤ 12000) : srtX (insL s.Shifts time n) := by
  obtain ⟨h1, h2⟩ := ins_srt h ht hn _ (Nat.le_refl _)
  unfold insL
  cases hp : putB s.Shifts time s.Shifts.length with
  | true => simpa using h1
  | false =>
    rw [if_neg (by simp)]
    refine srt_snoc h1 (by unfold okX newX; dsimp only; omega) fun h0 => ?_
    rcases Nat.eq_zero_or_pos s.Shifts.length with h3 | h3
    · rw [h3] at h0; simp [insN] at h0
    · rw [(h2 h3).2]; exact putB_no hp _ (by omega)
theorem with_ok {s : Ser} (h : Ok s) (hx : s.Shifts.length ≤ 20) {time n : Int} (ht : 0 ≤ time ∧ time ≤ 10000) (hn : -12000 ≤ n ∧ n ≤ 12000) : Ok (withS s time n) := by
  have h1 := insL_srt h ht hn
  have h2 := insL_len s.Shifts time n
  refine ⟨h.nV, by show (insL s.Shifts time n).length ≤ 64; omega, h.v, fun i hi => ?_⟩
  have h3 := h1 i hi
  unfold okX at h3
  show ¬ badX (insL s.Shifts time n) i
  unfold badX
  omega
/-- the shifts behind a time up to another one, with the new one -/
theorem with_bt (s : Ser) (time n a b : Int) : bt (withS s time n).Shifts a b = ⟨(bt s.Shifts a b).Lo + (if a < time ∧ time ≤ b then n else 0), (bt s.Shifts a b).Hi + (if a < time ∧ time ≤ b then n else 0)⟩ := by
  have h1 := insL_sum (fun x => if a < x.Time ∧ x.Time ≤ b then x.Levels.Lo else 0) s.Shifts time n
  have h2 := insL_sum (fun x => if a < x.Time ∧ x.Time ≤ b then x.Levels.Hi else 0) s.Shifts time n
  unfold bt btLo btHi withS
  dsimp only
  rw [h1, h2]
  rfl
theorem with_com (s t : Ser) (time n : Int) : ∀ k : Nat, comN (withS s time n) t k = comN s t k
  | 0 => rfl
  | k + 1 => by simp only [comN]; rw [with_com s t time n k]; rfl
theorem adj_with {s t : Ser} (hs : Ok s) (ht : Ok t) (hx : s.Shifts.length ≤ 20) {time most n : Int} (hr : (0 ≤ time ∧ time ≤ 10000) ∧ (0 ≤ most ∧ most ≤ 24000)) (hn : -12000 ≤ n ∧ n ≤ 12000) :
    adjR (withS s time n) t time most = if (adjR s t time most).2 = 0 then (⟨(adjR s t time most).1.Lo - n, (adjR s t time most).1.Hi - n⟩, 0) else (⟨0, 0⟩, 3) := by
  have hw := with_ok hs hx hr.1 hn
  have hc : comL (withS s time n) t = comL s t := with_com s t time n _
  have hT : ∀ k, difT (withS s time n) t k = difT s t k := fun k => by unfold difT; rw [hc]; rfl
  have hV : ∀ k, difV (withS s time n) t k = difV s t k := fun k => by unfold difV; rw [hc]; rfl
  have hX : ∀ k, difX (withS s time n) t k = ⟨(difX s t k).Lo + (if difT s t k < time ∧ time ≤ difT s t (k + 1) then n else 0), (difX s t k).Hi + (if difT s t k < time ∧ time ≤ difT s t (k + 1) then n else 0)⟩ := fun k => by
    unfold difX
    rw [hT, hT, with_bt]
    simp only [Span.mk.injEq]; omega
  have hF : difF (withS s time n) t time = difF s t time := by unfold difF; rw [hc]; exact first_congr fun i _ => by rw [hT]
  have hl := dif_len s t time
  have a1 := winA s t time
  have b1 := winB s t time
  have a2 := winA (withS s time n) t time
  have b2 := winB (withS s time n) t time
  rw [hF] at a2
  rw [hF, hc] at b2
  have hout : ∀ k, k + 1 < (comL s t).length → k + 1 ≠ difF s t time → difX (withS s time n) t k = difX s t k := fun k hk hne => by
    rw [hX, if_neg (fun h => by
      have h1 := (ahead_iff (t := t) hs (time := time) (j := k) (by omega)).1 h.1
      have h2 : ¬ k + 1 < difF s t time := fun h3 => by have := (ahead_iff (t := t) hs (time := time) (j := k + 1) hk).2 h3; omega
      omega)]
    simp
  have ha : adjA (withS s time n) t time most = adjA s t time most := by
    unfold adjA
    rw [hF]
    exact lastR_congr most (by rw [a1.1, a2.1]) (fun i hi => by rw [a2.2.1 i (by omega), a1.2.1 i (by omega), hV]) (fun i hi => by rw [a2.2.2 i (by omega), a1.2.2 i (by omega), hout i (by omega) (by omega)])
  have hb : adjB (withS s time n) t time most = adjB s t time most := by
    unfold adjB
    rw [hF, hc]
    exact lastR_congr most (by rw [b1.1, b2.1]) (fun i hi => by rw [b2.2.1 i (by omega), b1.2.1 i (by omega), hV]) (fun i hi => by rw [b2.2.2 i (by omega), b1.2.2 i (by omega), hout _ (by omega) (by omega)])
  rw [adj_val hs ht hr, adj_val hw ht hr, hF, hc, ha, hb]
  by_cases h3 : difF s t time = 0 ∨ difF s t time = (comL s t).length
  · rw [if_pos h3, if_pos h3]; rfl
  · rw [if_neg h3, if_neg h3]
    by_cases h4 : (adjA s t time most).2 = false ∨ (adjB s t time most).2 = false
    · rw [if_pos h4, if_pos h4]; rfl
    · rw [if_neg h4, if_neg h4]
      have h5 : difT s t (difF s t time - 1) < time := (ahead_iff hs (by omega)).2 (by omega)
      have h6 : ¬ difT s t (difF s t time - 1 + 1) < time := fun h => by have := (ahead_iff (t := t) hs (time := time) (by omega)).1 h; omega
      rw [hX, if_pos ⟨h5, by omega⟩]
      simp only [if_true, Prod.mk.injEq, Span.mk.injEq, and_true]
      constructor <;> omega
theorem chkE_vals (s : Ser) : chkE s = 0 ∨ chkE s = 2 ∨ chkE s = 80 ∨ chkE s = 81 := by
  unfold chkE chk
  split
  · exact .inr (.inl rfl)
  · split
    · exact .inr (.inr (.inl rfl))
    · split
      · exact .inr (.inr (.inr rfl))
      · exact .inl rfl
theorem adj_oks {s t : Ser} {time most : Int} (h : (adjR s t time most).2 = 0 ∨ (adjR s t time most).2 = 3) : Ok s ∧ Ok t := by
  by_cases h1 : twoE s t ≠ 0
  · rw [adj_err h1] at h
    dsimp only at h
    have a := chkE_vals s
    have b := chkE_vals t
    unfold twoE at h h1
    split at h
    · omega
    · rename_i h2; rw [if_neg h2] at h1; omega
  · have hz := twoE_zero (s := s) (t := t) (by omega)
    exact ⟨Ok.of hz.1, Ok.of hz.2⟩
section
variable {L : List Shf} {time n : Int} {i : Nat} {p : Bool} (hp : p = putB L time i)
include hp
theorem pos_yes (h1 : (!p) = true) (h2 : time < (gt L i).Time) : true = putB L time (i + 1) := (putB_yes ⟨by rw [← hp]; simpa using h1, h2⟩).symm
theorem pos_no1 (h1 : (!p) = false) : p = putB L time (i + 1) := by rw [putB_same (fun h => by rw [← hp] at h; rw [h.1] at h1; cases h1)]; exact hp
theorem pos_no2 (h2 : ¬ time < (gt L i).Time) : p = putB L time (i + 1) := by rw [putB_same (fun h => h2 h.2)]; exact hp
theorem ins_yes (h1 : (!p) = true) (h2 : time < (gt L i).Time) : insN L time n i ++ [newX time n] ++ [gt L i] = insN L time n (i + 1) := by rw [insN, if_pos ⟨by rw [← hp]; simpa using h1, h2⟩]
theorem ins_no1 (h1 : (!p) = false) : insN L time n i ++ [gt L i] = insN L time n (i + 1) := by rw [insN, if_neg (fun h => by rw [← hp] at h; rw [h.1] at h1; cases h1)]
omit hp in
theorem ins_no2 (h2 : ¬ time < (gt L i).Time) : insN L time n i ++ [gt L i] = insN L time n (i + 1) := by rw [insN, if_neg (fun h => h2 h.2)]
theorem ins_end1 (hi : i = L.length) (h1 : (!p) = true) : insN L time n i ++ [newX time n] = insL L time n := by subst hi; rw [insL, if_neg (by rw [← hp]; simpa using h1)]
theorem ins_end2 (hi : i = L.length) (h1 : (!p) = false) : insN L time n i = insL L time n := by subst hi; rw [insL, if_pos (by rw [← hp]; simpa using h1)]
end
end Go.Proofs.C8
