import Derived.Test.YtmnipmbgdbdjeaaC2Walk
/- Clocks: what further loops keep, in plain Lean. -/
namespace Go.Proofs.C2
open Go Go.Kx

/-! ### readings of a clock -/
def goodC (c : Ck) (l : List Int) (j : Nat) : Prop := ((gt c.at_ j).Lo ≤ gt l j ∧ gt l j ≤ (gt c.at_ j).Hi) ∧ (0 < j → (gt c.gaps (j - 1)).Lo ≤ gt l j - gt l (j - 1) ∧ gt l j - gt l (j - 1) ≤ (gt c.gaps (j - 1)).Hi)
instance (c : Ck) (l : List Int) (j : Nat) : Decidable (goodC c l j) := by unfold goodC; exact inferInstance
def keepC (c : Ck) (l : List Int) : Prop := l.length = c.at_.length ∧ ∀ j, j < c.at_.length → goodC c l j
instance (c : Ck) (l : List Int) : Decidable (keepC c l) := by unfold keepC; exact inferInstance
theorem openC_bad {d : Drum} {m : List Mark} {cs ts : List Int} (h : openE d m cs ts ≠ 0) : openC d m cs ts = ⟨[], []⟩ := by rw [openC, if_neg h]
theorem openC_ok {d : Drum} {m : List Mark} {cs ts : List Int} (h : openE d m cs ts = 0) : openC d m cs ts = setC d m := by rw [openC, if_pos h]; rfl
theorem feasR_err {d : Drum} {m : List Mark} (h : chkE d m ≠ 0) : feasR d m = (false, chkE d m) := by rw [feasR, if_pos h]
theorem feasR_ok {d : Drum} {m : List Mark} (h : chkE d m = 0) : feasR d m = (decide (okD d m), 0) := by rw [feasR, if_neg (by omega)]

/-! ### passes over the greater ends -/
def hiL (c : Ck) (X : Nat → Span) : List Int := (List.range (c.gaps.length + 1)).map fun j => (X j).Hi
def fwH (c : Ck) (X : Nat → Span) (i : Nat) : List Int := (List.range (c.gaps.length + 1)).map fun j => if j ≤ i then (fw (gt c.gaps) X j).Hi else (X j).Hi
def bwH (c : Ck) (X : Nat → Span) (i : Nat) : List Int := (List.range (c.gaps.length + 1)).map fun j => if c.gaps.length - i ≤ j then (st (gt c.gaps) X c.gaps.length j).Hi else (fw (gt c.gaps) X j).Hi
/-- where the first r rounds have come to -/
def mosX (c : Ck) (f r : Nat) : Nat → Span := if r = 0 then mosA (gt c.at_) f else st (gt c.gaps) (mosA (gt c.at_) f) c.gaps.length
theorem hiL_len (c : Ck) (X : Nat → Span) : (hiL c X).length = c.gaps.length + 1 := map_len _ _
theorem fwH_len (c : Ck) (X : Nat → Span) (i : Nat) : (fwH c X i).length = c.gaps.length + 1 := map_len _ _
theorem bwH_len (c : Ck) (X : Nat → Span) (i : Nat) : (bwH c X i).length = c.gaps.length + 1 := map_len _ _
theorem fwH_at {c : Ck} {X : Nat → Span} {i j : Nat} (h : j ≤ c.gaps.length) : gt (fwH c X i) j = if j ≤ i then (fw (gt c.gaps) X j).Hi else (X j).Hi := gt_map (by omega)
theorem bwH_at {c : Ck} {X : Nat → Span} {i j : Nat} (h : j ≤ c.gaps.length) : gt (bwH c X i) j = if c.gaps.length - i ≤ j then (st (gt c.gaps) X c.gaps.length j).Hi else (fw (gt c.gaps) X j).Hi := gt_map (by omega)
theorem fwH_zero (c : Ck) (X : Nat → Span) : hiL c X = fwH c X 0 := map_congr fun j _ => by
  split
  · rename_i hj; obtain rfl : j = 0 := by omega
    rfl
  · rfl
theorem fwH_last (c : Ck) (X : Nat → Span) : fwH c X c.gaps.length = bwH c X 0 := map_congr fun j hj => by
  rw [if_pos (by omega)]
  split
  · obtain rfl : j = c.gaps.length := by omega
    rw [st_last]
  · rfl
theorem bwH_last {c : Ck} (hw : CkW c) (f r : Nat) : bwH c (mosX c f r) c.gaps.length = hiL c (mosX c f (r + 1)) := map_congr fun j hj => by
  rw [if_pos (by omega)]
  unfold mosX
  rw [if_neg (show ¬ r + 1 = 0 by omega)]
  split
  · rfl
  · rw [st_st hw.gap _ (by omega)]
theorem fwH_step {c : Ck} {X : Nat → Span} {i : Nat} (h : i < c.gaps.length) :
    (fwH c X i).set (i + 1) (min (gt (fwH c X i) (i + 1)) (gt (fwH c X i) i + (gt c.gaps i).Hi)) = fwH c X (i + 1) := by
  refine eq_map (by simp [fwH_len]) fun j hj => ?_
  have e1 : gt (fwH c X i) (i + 1) = (X (i + 1)).Hi := by rw [fwH_at (by omega), if_neg (by omega)]
  have e2 : gt (fwH c X i) i = (fw (gt c.gaps) X i).Hi := by rw [fwH_at (by omega), if_pos (Nat.le_refl _)]
  rw [gt_set _ _ (by rw [fwH_len]; omega), e1, e2]
  by_cases hc : i + 1 = j
  · subst hc; rw [if_pos rfl, if_pos (Nat.le_refl _)]; rfl
  · rw [if_neg hc, fwH_at (by omega)]
    by_cases h2 : j ≤ i
    · rw [if_pos h2, if_pos (by omega)]
    · rw [if_neg h2, if_neg (by omega)]
theorem bwH_step {c : Ck} {X : Nat → Span} {i q : Nat} (h : i < c.gaps.length) (hq : q = c.gaps.length - 1 - i) :
    (bwH c X i).set q (min (gt (bwH c X i) q) (gt (bwH c X i) (q + 1) - (gt c.gaps q).Lo)) = bwH c X (i + 1) := by
  refine eq_map (by simp [bwH_len]) fun j hj => ?_
  have e1 : gt (bwH c X i) q = (fw (gt c.gaps) X q).Hi := by rw [bwH_at (by omega), if_neg (by omega)]
  have e2 : gt (bwH c X i) (q + 1) = (st (gt c.gaps) X c.gaps.length (q + 1)).Hi := by rw [bwH_at (by omega), if_pos (by omega)]
  rw [gt_set _ _ (by rw [bwH_len]; omega), e1, e2]
  by_cases hc : q = j
  · subst hc
    rw [if_pos rfl, if_pos (by omega), st_hi (gt c.gaps) X (i := q) (by omega)]
  · rw [if_neg hc, bwH_at (by omega)]
    by_cases h2 : c.gaps.length - i ≤ j
    · rw [if_pos h2, if_pos (by omega)]
    · rw [if_neg h2, if_neg (by omega)]
theorem fwHi_bd {c : Ck} (h : CkW c) {X : Nat → Span} {B : Int} (hB : 0 ≤ B) (hX : ∀ j, j ≤ c.gaps.length → -B ≤ (X j).Hi ∧ (X j).Hi ≤ 400) : ∀ k, k ≤ c.gaps.length → -B ≤ (fw (gt c.gaps) X k).Hi ∧ (fw (gt c.gaps) X k).Hi ≤ 400
  | 0, hk => hX 0 hk
  | k + 1, hk => by have h1 := fwHi_bd h hB hX k (by omega); have h2 := hX (k + 1) hk; have h3 := h.g k (by omega); rw [fw_hi]; omega
theorem stHi_bd {c : Ck} (h : CkW c) {X : Nat → Span} {B : Int} (hB : 0 ≤ B) (hX : ∀ j, j ≤ c.gaps.length → -B ≤ (X j).Hi ∧ (X j).Hi ≤ 400) {k : Nat} (hk : k ≤ c.gaps.length) : -B - 2000000 ≤ (st (gt c.gaps) X c.gaps.length k).Hi ∧ (st (gt c.gaps) X c.gaps.length k).Hi ≤ 400 := by
  have hn := h.n
  have key : ∀ j k : Nat, k + j = c.gaps.length → -B - 6440 * (j : Int) ≤ (st (gt c.gaps) X c.gaps.length k).Hi ∧ (st (gt c.gaps) X c.gaps.length k).Hi ≤ 400 := by
    intro j
    induction j with
    | zero => intro k hk; obtain rfl : k = c.gaps.length := by omega
              rw [st_last]; have := fwHi_bd h hB hX _ (Nat.le_refl c.gaps.length); omega
    | succ j ih => intro k hk; have h1 := ih (k + 1) (by omega); have h2 := fwHi_bd h hB hX k (by omega); have h3 := h.g k (by omega); rw [st_hi (gt c.gaps) X (by omega)]; omega
  have := key (c.gaps.length - k) k (by omega); omega
theorem mosX_bd {c : Ck} (h : CkW c) {f : Nat} (hf : f ≤ c.gaps.length) (r : Nat) {j : Nat} (hj : j ≤ c.gaps.length) : -3000000 ≤ (mosX c f r j).Hi ∧ (mosX c f r j).Hi ≤ 400 := by
  have hA : ∀ j, j ≤ c.gaps.length → -400 ≤ (mosA (gt c.at_) f j).Hi ∧ (mosA (gt c.at_) f j).Hi ≤ 400 := fun j hj => by
    have h1 := h.a j (by rw [h.l]; omega); have h2 := h.a f (by rw [h.l]; omega)
    unfold mosA; dsimp only; split <;> omega
  unfold mosX; split
  · have := hA j hj; omega
  · have := stHi_bd h (B := 400) (by omega) hA hj; omega
theorem fwH_bd {c : Ck} (h : CkW c) {f : Nat} (hf : f ≤ c.gaps.length) (r : Nat) {i j : Nat} (hj : j ≤ c.gaps.length) : -3000000 ≤ gt (fwH c (mosX c f r) i) j ∧ gt (fwH c (mosX c f r) i) j ≤ 400 := by
  rw [fwH_at hj]; split
  · exact fwHi_bd h (B := 3000000) (by omega) (fun j hj => mosX_bd h hf r hj) j hj
  · exact mosX_bd h hf r hj
theorem bwH_bd {c : Ck} (h : CkW c) {f : Nat} (hf : f ≤ c.gaps.length) (r : Nat) {i j : Nat} (hj : j ≤ c.gaps.length) : -6000000 ≤ gt (bwH c (mosX c f r) i) j ∧ gt (bwH c (mosX c f r) i) j ≤ 400 := by
  rw [bwH_at hj]; split
  · have := stHi_bd h (X := mosX c f r) (B := 3000000) (by omega) (fun j hj => mosX_bd h hf r hj) hj; omega
  · have := fwHi_bd h (X := mosX c f r) (B := 3000000) (by omega) (fun j hj => mosX_bd h hf r hj) j hj; omega
theorem mos_bd {c : Ck} (h : CkW c) {f i : Nat} (hf : f ≤ c.gaps.length) (hi : i ≤ c.gaps.length) : -3000000 ≤ mos (gt c.gaps) (gt c.at_) c.gaps.length f i ∧ mos (gt c.gaps) (gt c.at_) c.gaps.length f i ≤ 400 := mosX_bd h hf 1 hi
/-- the first loop: the greater ends less a number -/
def dfN (c : Ck) (f k : Nat) : List Int := (List.range (c.gaps.length + 1)).map fun j => if j < k then (gt c.at_ j).Hi - (gt c.at_ f).Lo else 0
theorem dfN_len (c : Ck) (f k : Nat) : (dfN c f k).length = c.gaps.length + 1 := map_len _ _
theorem dfN_zero (c : Ck) (f : Nat) : List.replicate (c.gaps.length + 1) (0 : Int) = dfN c f 0 := by rw [rep_map]; exact map_congr fun j _ => by rw [if_neg (Nat.not_lt_zero _)]
theorem dfN_step {c : Ck} {f k : Nat} (_h : k < c.gaps.length + 1) : (dfN c f k).set k ((gt c.at_ k).Hi - (gt c.at_ f).Lo) = dfN c f (k + 1) := by
  refine eq_map (by simp [dfN_len]) fun j hj => ?_
  rw [gt_set _ _ (by rw [dfN_len]; omega)]
  by_cases hc : k = j
  · subst hc; rw [if_pos rfl, if_pos (by omega)]
  · rw [if_neg hc, dfN, gt_map hj]
    by_cases h2 : j < k
    · rw [if_pos h2, if_pos (by omega)]
    · rw [if_neg h2, if_neg (by omega)]
theorem dfN_at {c : Ck} {f : Nat} {j : Nat} (h : j ≤ c.gaps.length) : gt (dfN c f (c.gaps.length + 1)) j = (gt c.at_ j).Hi - (gt c.at_ f).Lo := by
  rw [dfN, gt_map (by omega), if_pos (by omega)]
theorem dfN_last {c : Ck} {f : Nat} (hf : f ≤ c.gaps.length) : (dfN c f (c.gaps.length + 1)).set f (min (gt (dfN c f (c.gaps.length + 1)) f) 0) = hiL c (mosX c f 0) := by
  refine eq_map (by simp [dfN_len]) fun j hj => ?_
  rw [gt_set _ _ (by rw [dfN_len]; omega)]
  unfold mosX mosA
  rw [if_pos rfl]
  dsimp only
  by_cases hc : f = j
  · subst hc; rw [if_pos rfl, if_pos rfl, dfN_at hf]
  · rw [if_neg hc, if_neg (fun h => hc h.symm), dfN_at (by omega)]
/-! ### the table -/
/-- the table while it is filled: rows below i, and of row i the places below k -/
def tabF (c : Ck) (i k a b : Nat) : Int := if (a < i ∨ (a = i ∧ b < k)) ∧ b < c.gaps.length + 1 then mos (gt c.gaps) (gt c.at_) c.gaps.length a b else 0
def Tab (L : List Int) (f : Nat → Nat → Int) : Prop := L.length = 40401 ∧ ∀ a b, a < 201 → b < 201 → gt L (a * 201 + b) = f a b
theorem tab_zero (c : Ck) : Tab (List.replicate 40401 0) (tabF c 0 0) := by
  refine ⟨List.length_replicate, fun a b ha hb => ?_⟩
  unfold tabF
  rw [if_neg (by omega)]
  have : a * 201 + b < 40401 := by omega
  rw [rep_map, gt_map this]
theorem tab_row {c : Ck} {L : List Int} {i : Nat} (h : Tab L (tabF c i (c.gaps.length + 1))) : Tab L (tabF c (i + 1) 0) := by
  refine ⟨h.1, fun a b ha hb => ?_⟩
  rw [h.2 a b ha hb]; unfold tabF
  by_cases h1 : (a < i ∨ (a = i ∧ b < c.gaps.length + 1)) ∧ b < c.gaps.length + 1
  · rw [if_pos h1, if_pos (by omega)]
  · rw [if_neg h1, if_neg (by omega)]
theorem tab_step {c : Ck} {L : List Int} {i k : Nat} (h : Tab L (tabF c i k)) (hi : i < 201) (hk : k < c.gaps.length + 1) (hn : c.gaps.length ≤ 199) : Tab (L.set (0 + i * 201 + k * 1) (mos (gt c.gaps) (gt c.at_) c.gaps.length i k)) (tabF c i (k + 1)) := by
  refine ⟨by rw [List.length_set]; exact h.1, fun a b ha hb => ?_⟩
  rw [gt_set _ _ (by rw [h.1]; omega)]
  by_cases hc : 0 + i * 201 + k * 1 = a * 201 + b
  · have e1 : a = i := by omega
    have e2 : b = k := by omega
    subst e1 e2
    rw [if_pos hc]; unfold tabF; rw [if_pos (by omega)]
  · rw [if_neg hc, h.2 a b ha hb]; unfold tabF
    by_cases h1 : (a < i ∨ (a = i ∧ b < k)) ∧ b < c.gaps.length + 1
    · rw [if_pos h1, if_pos (by omega)]
    · rw [if_neg h1, if_neg (by omega)]
/-- the whole table -/
def tabL (c : Ck) : List Int := (List.range 40401).map fun q => tabF c (c.gaps.length + 1) 0 (q / 201) (q % 201)
theorem Tab.eq {c : Ck} {L : List Int} (h : Tab L (tabF c (c.gaps.length + 1) 0)) : L = tabL c := by
  refine eq_map h.1 fun q hq => ?_
  have := h.2 (q / 201) (q % 201) (by omega) (by omega)
  rwa [show q / 201 * 201 + q % 201 = q by omega] at this
theorem tabL_len (c : Ck) : (tabL c).length = 40401 := map_len _ _
theorem tabL_at {c : Ck} {a b : Nat} (ha : a ≤ c.gaps.length) (hb : b ≤ c.gaps.length) (hn : c.gaps.length ≤ 199) : gt (tabL c) (0 + a * 201 + b * 1) = mos (gt c.gaps) (gt c.at_) c.gaps.length a b := by
  unfold tabL
  rw [gt_map (by omega), show (0 + a * 201 + b * 1) / 201 = a by omega, show (0 + a * 201 + b * 1) % 201 = b by omega]
  unfold tabF; rw [if_pos (by omega)]
attribute [irreducible] tabL
end Go.Proofs.C2
