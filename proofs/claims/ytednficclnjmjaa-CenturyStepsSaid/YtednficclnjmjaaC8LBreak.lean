import Derived.Test.YtednficclnjmjaaC8Lin
/- Century: breaks are real, in plain Lean. -/
namespace Go.Proofs.C8
open Go Go.Kx

theorem comN_up (s t : Ser) : ∀ (n : Nat) {i j : Nat}, i < j → j < (comN s t n).length → (gt (comN s t n) i).a < (gt (comN s t n) j).a
  | 0, i, j, _, h => by simp [comN] at h
  | n + 1, i, j, hij, h => by
    by_cases hc : 0 ≤ idxR t (gt s.Values n).Time
    · have he : comN s t (n + 1) = comN s t n ++ [⟨(n : Int), idxR t (gt s.Values n).Time⟩] := by rw [comN, if_pos hc]
      rw [he] at h ⊢
      rw [gt_snoc _ _ h, gt_snoc _ _ (by omega)]
      have hl : (comN s t n ++ [(⟨(n : Int), idxR t (gt s.Values n).Time⟩ : A2)]).length = (comN s t n).length + 1 := by simp
      rw [if_pos (show i < (comN s t n).length by omega)]
      by_cases hj : j < (comN s t n).length
      · rw [if_pos hj]; exact comN_up s t n hij hj
      · rw [if_neg hj]
        obtain ⟨i', k', h1, _, h3, _⟩ := comN_at s t n i (by omega)
        show (gt (comN s t n) i).a < (n : Int)
        omega
    · have he : comN s t (n + 1) = comN s t n := by rw [comN, if_neg hc]
      rw [he] at h ⊢
      exact comN_up s t n hij h
theorem difT_up {s t : Ser} (hs : Ok s) {i j : Nat} (hij : i < j) (hj : j < (comL s t).length) : difT s t i < difT s t j := by
  have h1 := comN_up s t s.Values.length hij hj
  have h2 := com_bd (s := s) (t := t) (n := i) (by omega)
  have h3 := com_bd (s := s) (t := t) (n := j) hj
  have h1' : (gt (comL s t) i).a < (gt (comL s t) j).a := h1
  exact hs.mono (by omega) (by omega)
end Go.Proofs.C8
/- Century: windows: what lies within them, and how they look backwards and upside down; in plain Lean. -/
namespace Go.Proofs.C8
open Go Go.Kx

/-! ### numbers within a window -/
/-! ### upside down -/
def mirS (c : Int) (x : Span) : Span := ⟨c - x.Hi, c - x.Lo⟩
/-! ### lists that rise -/
def incL (A : List Int) : Prop := ∀ i j, i < j → j < A.length → gt A i < gt A j
/-! ### common times, either way round -/
end Go.Proofs.C8
/- Century: adjustments: either way round, upside down, and whoever found them; in plain Lean. -/
namespace Go.Proofs.C8
open Go Go.Kx

section
variable {s t : Ser} {time : Int}
theorem difW_len (s t : Ser) : (difW s t).levels.length = (comL s t).length ∧ (difW s t).shifts.length = (comL s t).length - 1 := ⟨map_len _ _, map_len _ _⟩
theorem difW_at {i : Nat} (h : i < (comL s t).length) : gt (difW s t).levels i = difV s t i := gt_map h
theorem difW_xt {i : Nat} (h : i + 1 < (comL s t).length) : gt (difW s t).shifts i = difX s t i := gt_map (by omega)
/-- the window ahead of a time -/
theorem winA (s t : Ser) (time : Int) : (winPart (difW s t) 0 (difF s t time)).levels.length = difF s t time ∧ (∀ i, i < difF s t time → gt (winPart (difW s t) 0 (difF s t time)).levels i = difV s t i) ∧ (∀ i, i + 1 < difF s t time → gt (winPart (difW s t) 0 (difF s t time)).shifts i = difX s t i) := by
  have hl := difW_len s t
  have hf := dif_len s t time
  refine ⟨by simp [winPart]; omega, fun i hi => ?_, fun i hi => ?_⟩
  · show gt (((difW s t).levels.drop 0).take (difF s t time - 0)) i = _
    rw [gt_drop_take _ (by omega), Nat.zero_add, difW_at (by omega)]
  · show gt (((difW s t).shifts.drop 0).take (max 0 (difF s t time - 1) - 0)) i = _
    rw [gt_drop_take _ (by omega), Nat.zero_add, difW_xt (by omega)]
/-- the window from a time on, backwards -/
theorem winB (s t : Ser) (time : Int) : (winTurn (winPart (difW s t) (difF s t time) (comL s t).length)).levels.length = (comL s t).length - difF s t time ∧
    (∀ i, i < (comL s t).length - difF s t time → gt (winTurn (winPart (difW s t) (difF s t time) (comL s t).length)).levels i = difV s t ((comL s t).length - 1 - i)) ∧
    (∀ i, i + 1 < (comL s t).length - difF s t time → gt (winTurn (winPart (difW s t) (difF s t time) (comL s t).length)).shifts i = mirS 0 (difX s t ((comL s t).length - 2 - i))) := by
  have hl := difW_len s t
  have hf := dif_len s t time
  have e1 : (winPart (difW s t) (difF s t time) (comL s t).length).levels.length = (comL s t).length - difF s t time := by simp [winPart]; omega
  refine ⟨by simp [winTurn, e1], fun i hi => ?_, fun i hi => ?_⟩
  · show gt (winPart (difW s t) (difF s t time) (comL s t).length).levels.reverse i = _
    rw [gt_rev _ (by omega), e1]
    show gt (((difW s t).levels.drop (difF s t time)).take ((comL s t).length - difF s t time)) _ = _
    rw [gt_drop_take _ (by omega), difW_at (by omega)]
    congr 1; omega
  · have e2 : (winPart (difW s t) (difF s t time) (comL s t).length).shifts.length = (comL s t).length - 1 - difF s t time := by simp [winPart]; omega
    show gt ((winPart (difW s t) (difF s t time) (comL s t).length).shifts.reverse.map fun x => (⟨-x.Hi, -x.Lo⟩ : Span)) i = _
    rw [gt_mapL _ _ (by rw [List.length_reverse]; omega), gt_rev _ (by omega), e2]
    show _ = (⟨0 - _, 0 - _⟩ : Span)
    rw [show gt (winPart (difW s t) (difF s t time) (comL s t).length).shifts ((comL s t).length - 1 - difF s t time - 1 - i) = difX s t ((comL s t).length - 2 - i) from by
      show gt (((difW s t).shifts.drop (difF s t time)).take (max (difF s t time) ((comL s t).length - 1) - difF s t time)) _ = _
      rw [gt_drop_take _ (by omega), difW_xt (by omega)]
      congr 1; omega]
    simp only [Span.mk.injEq]; omega
end
/-! ### whoever has levels and shifts -/
/-- the plain difference and the shifts of a common time -/
def rawD (lv lv' : List Int) (s t : Ser) (n : Nat) : Int := gt lv (gt (comL s t) n).a.toNat - gt lv' (gt (comL s t) n).b.toNat
def offD (sh sh' : List Int) (s t : Ser) (n : Nat) : Int := offN s.Shifts sh (difT s t n) s.Shifts.length - offN t.Shifts sh' (difT s t n) t.Shifts.length
end Go.Proofs.C8
