import Derived.Test.YtmnipmbgdbdjeaaC2Ans
import Derived.Test.YtmnipmbgdbdjeaaC2LB
/- Clocks: contradictions, loop by loop; in plain Lean. -/
namespace Go.Proofs.C2
open Go Go.Kx
theorem ok_sub {d : Drum} {m p : List Mark} (h : Ok d m) (hs : ∀ x, x ∈ p → x ∈ m) (hl : p.length ≤ 64) : Ok d p :=
  ⟨h.dr, hl, fun j hj hb => by
    obtain ⟨i, hi, he⟩ := mem_gt (hs _ (gt_mem hj))
    exact h.ma i hi (by unfold markB at hb ⊢; rw [he]; exact hb)⟩
theorem okm0 {d : Drum} {m : List Mark} (h : Ok d m) : Ok d [] := ok_sub h (by simp) (by simp)
theorem okm1 {d : Drum} {m : List Mark} (h : Ok d m) {i : Nat} (hi : i < m.length) : Ok d [gt m i] := ok_sub h (fun x hx => by rw [List.mem_singleton.1 hx]; exact gt_mem hi) (by simp)
theorem okm2 {d : Drum} {m : List Mark} (h : Ok d m) {i k : Nat} (hi : i < m.length) (hk : k < m.length) : Ok d [gt m i, gt m k] := ok_sub h (fun x hx => by
  simp only [List.mem_cons, List.not_mem_nil, or_false] at hx
  rcases hx with rfl | rfl
  · exact gt_mem hi
  · exact gt_mem hk) (by simp)
def alnL (d : Drum) (m : List Mark) (k : Nat) : List Bool := (List.range m.length).map fun j => if j < k then decide (¬ okD d [gt m j]) else false
theorem alnL_len (d : Drum) (m : List Mark) (k : Nat) : (alnL d m k).length = m.length := map_len _ _
theorem alnL_zero (d : Drum) (m : List Mark) : List.replicate m.length false = alnL d m 0 := by
  rw [rep_map]; exact map_congr fun j _ => by rw [if_neg (Nat.not_lt_zero _)]
theorem alnL_step {d : Drum} {m : List Mark} {k : Nat} : (alnL d m k).set k (decide (¬ okD d [gt m k])) = alnL d m (k + 1) := by
  refine eq_map (by simp [alnL_len]) fun j hj => ?_
  rw [gt_set _ _ (by rw [alnL_len]; omega)]
  by_cases hc : k = j
  · subst hc; rw [if_pos rfl, if_pos (by omega)]
  · rw [if_neg hc, alnL, gt_map hj]
    by_cases h2 : j < k
    · rw [if_pos h2, if_pos (by omega)]
    · rw [if_neg h2, if_neg (by omega)]
theorem alnL_yes {d : Drum} {m : List Mark} {k j : Nat} (hj : j < m.length) (hk : j < k) (h : gt (alnL d m k) j = true) : ¬ okD d [gt m j] := by
  rw [alnL, gt_map hj, if_pos hk] at h; exact of_decide_eq_true h
theorem alnL_no {d : Drum} {m : List Mark} {k j : Nat} (hj : j < m.length) (hk : j < k) (h : gt (alnL d m k) j = false) : okD d [gt m j] := by
  rw [alnL, gt_map hj, if_pos hk] at h
  exact Decidable.of_not_not (of_decide_eq_false h)
theorem sngl_yes {d : Drum} {m : List Mark} {k : Nat} (h : ¬ okD d [gt m k]) : snglN d m k ++ [[(k : Int)]] = snglN d m (k + 1) := by rw [snglN, if_neg h]
theorem sngl_no {d : Drum} {m : List Mark} {k : Nat} (h : okD d [gt m k]) : snglN d m k = snglN d m (k + 1) := by rw [snglN, if_pos h]
theorem row_start (d : Drum) (m : List Mark) (i : Nat) : ∀ n, n ≤ i + 1 → rowN d m i n = []
  | 0, _ => rfl
  | n + 1, h => by rw [rowN, if_neg (fun hh => by have := hh.1; omega)]; exact row_start d m i n (by omega)
theorem row_alone {d : Drum} {m : List Mark} {i : Nat} (h : ¬ okD d [gt m i]) : ∀ n, rowN d m i n = []
  | 0 => rfl
  | n + 1 => by rw [rowN, if_neg (fun hh => h hh.2.1)]; exact row_alone h n
def prsL (d : Drum) (m : List Mark) (i k : Nat) : List (List Int) := snglN d m m.length ++ (dblN d m i ++ rowN d m i k)
theorem prs_enter (d : Drum) (m : List Mark) (i : Nat) : snglN d m m.length ++ dblN d m i = prsL d m i (i + 1) := by
  unfold prsL; rw [row_start d m i (i + 1) (Nat.le_refl _), List.append_nil]
theorem prs_yes {d : Drum} {m : List Mark} {i k : Nat} (hk : i < k) (h : pairP d m i k) : prsL d m i k ++ [[(i : Int), (k : Int)]] = prsL d m i (k + 1) := by
  unfold prsL; rw [rowN, if_pos ⟨hk, h⟩]; simp
theorem prs_no {d : Drum} {m : List Mark} {i k : Nat} (h : ¬ pairP d m i k) : prsL d m i k = prsL d m i (k + 1) := by
  unfold prsL; rw [rowN, if_neg (fun hh => h hh.2)]
theorem prs_end {d : Drum} {m : List Mark} {i k : Nat} (h : k = m.length ∨ ¬ okD d [gt m i]) : prsL d m i k = snglN d m m.length ++ dblN d m (i + 1) := by
  unfold prsL; rw [dblN]
  rcases h with rfl | h
  · rfl
  · rw [row_alone h, row_alone h]
theorem sngl_len (d : Drum) (m : List Mark) : ∀ n, (snglN d m n).length ≤ n
  | 0 => Nat.le_refl _
  | n + 1 => by have := sngl_len d m n; rw [snglN]; split; omega; simp; omega
theorem row_len (d : Drum) (m : List Mark) (i : Nat) : ∀ n, (rowN d m i n).length ≤ n
  | 0 => Nat.le_refl _
  | n + 1 => by have := row_len d m i n; rw [rowN]; split; simp; omega; omega
theorem dbl_len (d : Drum) (m : List Mark) : ∀ n, (dblN d m n).length ≤ n * m.length
  | 0 => Nat.zero_le _
  | n + 1 => by have h1 := dbl_len d m n; have h2 := row_len d m n m.length; rw [dblN, List.length_append, Nat.add_mul]; omega
theorem prs_len {d : Drum} {m : List Mark} (h : m.length ≤ 64) {i k : Nat} (hi : i ≤ 64) (hk : k ≤ 64) : (prsL d m i k).length ≤ 5000 := by
  have h1 := sngl_len d m m.length; have h2 := row_len d m i k; have h3 := dbl_len d m i
  have h4 : i * m.length ≤ 64 * 64 := Nat.mul_le_mul hi h
  unfold prsL; rw [List.length_append, List.length_append]; omega
theorem pair_some {d : Drum} {m : List Mark} (h : okD d []) : pairL d m = snglN d m m.length ++ dblN d m m.length := by rw [pairL, if_pos h]
theorem prsR_bad {d : Drum} {m : List Mark} (h : chkE d m ≠ 0) : prsR d m = ([], chkE d m) := by rw [prsR, if_pos h]
theorem prsR_none {d : Drum} {m : List Mark} (h : chkE d m = 0) (h1 : (pairL d m).length = 0) : prsR d m = ([], 3) := by rw [prsR, if_neg (by omega), if_pos (List.length_eq_zero_iff.1 h1)]
theorem prsR_ok {d : Drum} {m : List Mark} (h : chkE d m = 0) (h1 : (pairL d m).length ≠ 0) : prsR d m = (pairL d m, 0) := by rw [prsR, if_neg (by omega), if_neg (fun h2 => h1 (by rw [h2]; rfl))]
theorem gapR_bad {d : Drum} {c : Int} (h : drumE d ≠ 0) : gapR d c = (⟨0, 0⟩, drumE d) := by rw [gapR, if_pos h]
theorem gapR_arg {d : Drum} {c : Int} (h : drumE d = 0) (h1 : ¬ (0 ≤ c ∧ c ≤ (d.Rates.length : Int) - 1)) : gapR d c = (⟨0, 0⟩, 1) := by rw [gapR, if_neg (by omega), if_neg h1]
theorem gapR_ok {d : Drum} {c : Int} (h : drumE d = 0) (h1 : 0 ≤ c ∧ c ≤ (d.Rates.length : Int) - 1) : gapR d c = (gt (gapL d) c.toNat, 0) := by rw [gapR, if_neg (by omega), if_pos h1, gapL_at (by omega)]
theorem winR_bad {d : Drum} {s : Stop} (h : drumE d ≠ 0) : winR d s = (⟨[], []⟩, drumE d) := by rw [winR, if_pos h]
theorem winR_big {d : Drum} {s : Stop} (h : drumE d = 0) (h1 : 16 ≤ d.Stops.length) : winR d s = (⟨[], []⟩, 2) := by rw [winR, if_neg (by omega), if_pos h1]
theorem winR_arg {d : Drum} {s : Stop} (h : drumE d = 0) (h1 : ¬ 16 ≤ d.Stops.length) (h2 : drumE (winD d s) ≠ 0) : winR d s = (⟨[], []⟩, 1) := by rw [winR, if_neg (by omega), if_neg h1, if_pos h2]
theorem winR_ok {d : Drum} {s : Stop} (h : drumE d = 0) (h1 : ¬ 16 ≤ d.Stops.length) (h2 : drumE (winD d s) = 0) : winR d s = (winD d s, 0) := by rw [winR, if_neg (by omega), if_neg h1, if_neg (by omega)]
theorem drfR_bad {d : Drum} {m : List Mark} {a b : Int} (h : chkE d m ≠ 0) : drfR d m a b = (⟨0, 0⟩, ⟨0, 0⟩, chkE d m) := by rw [drfR, if_pos h]
theorem drfR_arg {d : Drum} {m : List Mark} {a b : Int} (h : chkE d m = 0) (h1 : ¬ (0 ≤ a ∧ a ≤ (d.Rates.length : Int)) ∨ ¬ (0 ≤ b ∧ b ≤ (d.Rates.length : Int)) ∨ b ≤ a) : drfR d m a b = (⟨0, 0⟩, ⟨0, 0⟩, 1) := by rw [drfR, if_neg (by omega), if_pos h1]
theorem drfR_bet {d : Drum} {m : List Mark} {a b : Int} (h : chkE d m = 0) (h1 : ¬ (¬ (0 ≤ a ∧ a ≤ (d.Rates.length : Int)) ∨ ¬ (0 ≤ b ∧ b ≤ (d.Rates.length : Int)) ∨ b ≤ a)) (h2 : (betR d m a b).2 ≠ 0) : drfR d m a b = (⟨0, 0⟩, ⟨0, 0⟩, (betR d m a b).2) := by rw [drfR, if_neg (by omega), if_neg h1, if_pos h2]
theorem drfR_ok {d : Drum} {m : List Mark} {a b : Int} (h : chkE d m = 0) (h1 : ¬ (¬ (0 ≤ a ∧ a ≤ (d.Rates.length : Int)) ∨ ¬ (0 ≤ b ∧ b ≤ (d.Rates.length : Int)) ∨ b ≤ a)) (h2 : (betR d m a b).2 = 0) : drfR d m a b = (lowR (betR d m a b).1.Lo (b - a), lowR (betR d m a b).1.Hi (b - a), 0) := by rw [drfR, if_neg (by omega), if_neg h1, if_neg (by omega)]
theorem betR_zero {d : Drum} {m : List Mark} {a b : Int} (h : (betR d m a b).2 = 0) : Ok d m ∧ okD d m ∧ (0 ≤ a ∧ a ≤ (d.Rates.length : Int)) ∧ (0 ≤ b ∧ b ≤ (d.Rates.length : Int)) ∧ (betR d m a b).1 = betS (setC d m) a.toNat b.toNat ∧ ((-400 ≤ (betR d m a b).1.Lo ∧ (betR d m a b).1.Lo ≤ 400) ∧ -400 ≤ (betR d m a b).1.Hi ∧ (betR d m a b).1.Hi ≤ 400) := by
  by_cases he : openE d m [a, b] [] = 0
  · have hz := openE_zero he
    have ha : 0 ≤ a ∧ a ≤ (d.Rates.length : Int) := Decidable.of_not_not (hz.2.1.1 0 (by simp))
    have hb : 0 ≤ b ∧ b ≤ (d.Rates.length : Int) := Decidable.of_not_not (hz.2.1.1 1 (by simp))
    have e : (betR d m a b).1 = betS (setC d m) a.toNat b.toNat := by rw [betR_ok he]
    refine ⟨hz.1, hz.2.2, ha, hb, e, ?_⟩
    rw [e, betS_val]
    have h1 := bet_bd hz.1 hz.2.2 (a := a.toNat) (b := b.toNat) (by omega) (by omega)
    have h2 := bet_bd hz.1 hz.2.2 (a := b.toNat) (b := a.toNat) (by omega) (by omega)
    dsimp only; omega
  · rw [betR_bad he] at h; exact absurd h he
end Go.Proofs.C2
