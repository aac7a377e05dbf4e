import Derived.Test.YtmnipmbgdbdjeaaC2LD
/- Clocks: what the reference computes, in plain Lean. -/
namespace Go.Proofs.C2
open Go Go.Kx

structure ValP (d : Drum) (m : List Mark) : Prop where
  dr : drumP d
  ma : ∀ j, j < m.length → ¬ markB d m j
theorem Ok.val {d : Drum} {m : List Mark} (h : Ok d m) : ValP d m := ⟨h.dr, h.ma⟩
theorem ValP.col {d : Drum} {m : List Mark} (h : ValP d m) {j : Nat} (hj : j < m.length) : (0 ≤ (gt m j).Column ∧ (gt m j).Column ≤ (d.Rates.length : Int)) ∧ spOk (gt m j).Ticks 0 400 := Decidable.of_not_not (h.ma j hj)
theorem ValP.w {d : Drum} {m : List Mark} (h : ValP d m) : CkW ⟨gapL d, atL d m⟩ := by
  refine ⟨by rw [gapL_len, atL_len], by rw [gapL_len]; exact h.dr.1.1.2, fun i hi => ?_, fun i hi => ?_⟩
  · rw [gapL_len] at hi; rw [gapL_at hi]; exact gapS_bd h.dr hi
  · rw [atL_len] at hi; rw [atL_at (by omega)]; exact atN_bd h.ma i _ (Nat.le_refl _)
theorem ValP.app {d : Drum} {m : List Mark} (h : ValP d m) {x : Mark} (hx : (0 ≤ x.Column ∧ x.Column ≤ (d.Rates.length : Int)) ∧ spOk x.Ticks 0 400) : ValP d (m ++ [x]) := by
  refine ⟨h.dr, fun j hj hb => ?_⟩
  rcases List.mem_append.1 (gt_mem hj) with h1 | h1
  · obtain ⟨i, hi, he⟩ := mem_gt h1
    exact h.ma i hi (by unfold markB at hb ⊢; rw [he]; exact hb)
  · unfold markB at hb; rw [List.mem_singleton.1 h1] at hb; exact hb hx
theorem ValP.one {d : Drum} {m : List Mark} (h : ValP d m) {a t : Int} (ha : 0 ≤ a ∧ a ≤ (d.Rates.length : Int)) (ht : 0 ≤ t ∧ t ≤ 400) : ValP d (m ++ [⟨a, ⟨t, t⟩⟩]) := h.app ⟨ha, by unfold spOk; (try dsimp only); omega⟩
def spR (d : Drum) (m : List Mark) : List Span × Bool := if okD d m then (setD d m, true) else ([], false)
theorem spR_yes {d : Drum} {m : List Mark} (h : okD d m) : spR d m = (setD d m, true) := if_pos h
theorem spR_no {d : Drum} {m : List Mark} (h : ¬ okD d m) : spR d m = ([], false) := if_neg h
theorem okD_all {d : Drum} {m : List Mark} : okD d m ↔ ∀ i, i < d.Rates.length + 1 → ¬ (gt (setD d m) i).Hi < (gt (setD d m) i).Lo := by
  rw [← okC_clock, ok_all, setL_clock, setD_len]
def flL (n k : Nat) : List Span := (List.range n).map fun j => if j < k then ⟨0, 400⟩ else ⟨0, 0⟩
theorem flL_len (n k : Nat) : (flL n k).length = n := map_len _ _
theorem flL_zero (n : Nat) : List.replicate n (⟨0, 0⟩ : Span) = flL n 0 := by rw [rep_map]; exact map_congr fun j _ => by rw [if_neg (Nat.not_lt_zero _)]
theorem flL_step {n k : Nat} : (flL n k).set k ⟨0, 400⟩ = flL n (k + 1) := by
  refine eq_map (by simp [flL_len]) fun j hj => ?_
  rw [gt_set _ _ (by rw [flL_len]; omega)]
  by_cases hc : k = j
  · subst hc; rw [if_pos rfl, if_pos (by omega)]
  · rw [if_neg hc, flL, gt_map hj]
    by_cases h2 : j < k
    · rw [if_pos h2, if_pos (by omega)]
    · rw [if_neg h2, if_neg (by omega)]
theorem flL_last (m : List Mark) (n : Nat) : flL n n = (List.range n).map (fun c => atN m 0 c) := map_congr fun j hj => by rw [if_pos hj]; rfl
/-- both ends -/
def endL (l : List Span) (late : Bool) : List Int := if late = true then hisL l else losL l
def tolR (d : Drum) (m : List Mark) : List Span × Int := if chkE d m ≠ 0 then ([], chkE d m) else if okD d m then (setD d m, 0) else ([], 22)
def colE (d : Drum) (m : List Mark) (a b : Int) : Int := if chkE d m = 0 ∧ ¬ ((0 ≤ a ∧ a ≤ (d.Rates.length : Int)) ∧ 0 ≤ b ∧ b ≤ (d.Rates.length : Int)) then 1 else chkE d m
end Go.Proofs.C2
