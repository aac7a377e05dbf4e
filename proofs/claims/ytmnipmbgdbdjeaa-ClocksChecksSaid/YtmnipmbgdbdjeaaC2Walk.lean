import Derived.Test.YtmnipmbgdbdjeaaC2LA
/- Clocks: what the loops keep, in plain Lean. -/
namespace Go.Proofs.C2
open Go Go.Kx

/-! ### passes -/
/-- behind i steps forward -/
def fwP (G L : List Span) (i : Nat) : List Span := (List.range (G.length + 1)).map fun j => if j ≤ i then fw (gt G) (gt L) j else gt L j
/-- behind i steps backward -/
def bwP (G L : List Span) (i : Nat) : List Span := (List.range (G.length + 1)).map fun j => if G.length - i ≤ j then st (gt G) (gt L) G.length j else fw (gt G) (gt L) j
theorem fwP_len (G L : List Span) (i : Nat) : (fwP G L i).length = G.length + 1 := map_len _ _
theorem bwP_len (G L : List Span) (i : Nat) : (bwP G L i).length = G.length + 1 := map_len _ _
theorem fwP_at {G L : List Span} {i j : Nat} (h : j ≤ G.length) : gt (fwP G L i) j = if j ≤ i then fw (gt G) (gt L) j else gt L j := gt_map (by omega)
theorem bwP_at {G L : List Span} {i j : Nat} (h : j ≤ G.length) : gt (bwP G L i) j = if G.length - i ≤ j then st (gt G) (gt L) G.length j else fw (gt G) (gt L) j := gt_map (by omega)
theorem fwP_zero {G L : List Span} (h : L.length = G.length + 1) : fwP G L 0 = L := by
  refine (eq_map h fun j _ => ?_).symm
  split
  · rename_i hj; obtain rfl : j = 0 := by omega
    rfl
  · rfl
theorem fwP_last (G L : List Span) : fwP G L G.length = bwP G L 0 := by
  refine map_congr fun j hj => ?_
  rw [if_pos (by omega)]
  split
  · obtain rfl : j = G.length := by omega
    rw [st_last]
  · rfl
theorem bwP_last (c : Ck) (L : List Span) : bwP c.gaps L c.gaps.length = setL ⟨c.gaps, L⟩ := map_congr fun j hj => by rw [if_pos (by omega)]
theorem fwP_step {G L : List Span} {i : Nat} (h : i < G.length) :
    (fwP G L i).set (i + 1) (meet (gt (fwP G L i) (i + 1)) ⟨(gt (fwP G L i) i).Lo + (gt G i).Lo, (gt (fwP G L i) i).Hi + (gt G i).Hi⟩) = fwP G L (i + 1) := by
  refine eq_map (by simp [fwP_len]) fun j hj => ?_
  have e1 : gt (fwP G L i) (i + 1) = gt L (i + 1) := by rw [fwP_at (by omega), if_neg (by omega)]
  have e2 : gt (fwP G L i) i = fw (gt G) (gt L) i := by rw [fwP_at (by omega), if_pos (Nat.le_refl _)]
  rw [gt_set _ _ (by rw [fwP_len]; omega), e1, e2]
  by_cases hc : i + 1 = j
  · subst hc; rw [if_pos rfl, if_pos (Nat.le_refl _)]; rfl
  · rw [if_neg hc, fwP_at (by omega)]
    by_cases h2 : j ≤ i
    · rw [if_pos h2, if_pos (by omega)]
    · rw [if_neg h2, if_neg (by omega)]
theorem bwP_step {G L : List Span} {i q : Nat} (h : i < G.length) (hq : q = G.length - 1 - i) :
    (bwP G L i).set q (meet (gt (bwP G L i) q) ⟨(gt (bwP G L i) (q + 1)).Lo - (gt G q).Hi, (gt (bwP G L i) (q + 1)).Hi - (gt G q).Lo⟩) = bwP G L (i + 1) := by
  refine eq_map (by simp [bwP_len]) fun j hj => ?_
  have e1 : gt (bwP G L i) q = fw (gt G) (gt L) q := by rw [bwP_at (by omega), if_neg (by omega)]
  have e2 : gt (bwP G L i) (q + 1) = st (gt G) (gt L) G.length (q + 1) := by rw [bwP_at (by omega), if_pos (by omega)]
  rw [gt_set _ _ (by rw [bwP_len]; omega), e1, e2]
  by_cases hc : q = j
  · subst hc
    rw [if_pos rfl, if_pos (by omega)]
    refine span_eq ?_ ?_
    · rw [st_lo (gt G) (gt L) (i := q) (by omega)]; rfl
    · rw [st_hi (gt G) (gt L) (i := q) (by omega)]; rfl
  · rw [if_neg hc, bwP_at (by omega)]
    by_cases h2 : G.length - i ≤ j
    · rw [if_pos h2, if_pos (by omega)]
    · rw [if_neg h2, if_neg (by omega)]
/-- where a round stands: at the bounds as they were, or at the settled ones -/
def setI (c : Ck) (L : List Span) : Prop := L = c.at_ ∨ (L = setL c ∧ okC c)
theorem setI_len {c : Ck} (h : CkW c) {L : List Span} (hi : setI c L) : L.length = c.gaps.length + 1 := by
  rcases hi with rfl | ⟨rfl, _⟩
  · exact h.l
  · exact setL_len c
theorem CkW.gap {c : Ck} (h : CkW c) : GapOk (gt c.gaps) c.gaps.length := fun i hi => (h.g i hi).1.2
theorem setI_set {c : Ck} (h : CkW c) {L : List Span} (hi : setI c L) : setL ⟨c.gaps, L⟩ = setL c := by
  rcases hi with rfl | ⟨rfl, _⟩
  · rfl
  · unfold setL
    refine map_congr fun j hj => ?_
    have hj' : j < c.gaps.length + 1 := hj
    dsimp only
    rw [← st_st h.gap (gt c.at_) (i := j) (by omega)]
    exact st_congr (fun _ _ => rfl) (fun q hq => setL_at hq) (by omega)
theorem setL_bd {c : Ck} (h : CkW c) (ho : okC c) {i : Nat} (hi : i ≤ c.gaps.length) : (0 ≤ (gt (setL c) i).Lo ∧ (gt (setL c) i).Lo ≤ (gt (setL c) i).Hi) ∧ (gt (setL c) i).Hi ≤ 400 := by
  have h1 := ho i (by omega)
  have h2 := st_in (gt c.gaps) (gt c.at_) hi
  have h3 := h.a i (by rw [h.l]; omega)
  rw [setL_at hi]; omega
theorem setI_bd {c : Ck} (h : CkW c) {L : List Span} (hi : setI c L) {i : Nat} (hl : i ≤ c.gaps.length) : (-400 ≤ (gt L i).Lo ∧ (gt L i).Lo ≤ 400) ∧ -400 ≤ (gt L i).Hi ∧ (gt L i).Hi ≤ 400 := by
  rcases hi with rfl | ⟨rfl, ho⟩
  · have := h.a i (by rw [h.l]; omega); omega
  · have := setL_bd h ho hl; omega
theorem gapB {c : Ck} (h : CkW c) : ∀ i, i < c.gaps.length → (0 ≤ (gt c.gaps i).Lo ∧ (gt c.gaps i).Lo ≤ 10000) ∧ 0 ≤ (gt c.gaps i).Hi ∧ (gt c.gaps i).Hi ≤ 10000 := fun i hi => by have := h.g i hi; omega
theorem fw_bdc {c : Ck} (h : CkW c) {L : List Span} (hi : setI c L) {k : Nat} (hk : k ≤ c.gaps.length) : (-400 ≤ (fw (gt c.gaps) (gt L) k).Lo ∧ (fw (gt c.gaps) (gt L) k).Lo ≤ 3000000) ∧ -400 ≤ (fw (gt c.gaps) (gt L) k).Hi ∧ (fw (gt c.gaps) (gt L) k).Hi ≤ 400 := by
  have hn := h.n
  have key : ∀ k : Nat, k ≤ c.gaps.length → (-400 ≤ (fw (gt c.gaps) (gt L) k).Lo ∧ (fw (gt c.gaps) (gt L) k).Lo ≤ 400 + 10000 * (k : Int)) ∧ -400 ≤ (fw (gt c.gaps) (gt L) k).Hi ∧ (fw (gt c.gaps) (gt L) k).Hi ≤ 400 := by
    intro k
    induction k with
    | zero => intro _; have := setI_bd h hi (i := 0) (Nat.zero_le _); simp only [fw]; omega
    | succ k ih => intro hk; have h1 := ih (by omega); have h2 := setI_bd h hi hk; have h3 := gapB h k (by omega); rw [fw_lo, fw_hi]; omega
  have := key k hk; omega
theorem st_bdc {c : Ck} (h : CkW c) {L : List Span} (hi : setI c L) {k : Nat} (hk : k ≤ c.gaps.length) : (-400 ≤ (st (gt c.gaps) (gt L) c.gaps.length k).Lo ∧ (st (gt c.gaps) (gt L) c.gaps.length k).Lo ≤ 3000000) ∧ -3000000 ≤ (st (gt c.gaps) (gt L) c.gaps.length k).Hi ∧ (st (gt c.gaps) (gt L) c.gaps.length k).Hi ≤ 400 := by
  have hn := h.n
  have key : ∀ j k : Nat, k + j = c.gaps.length → (-400 ≤ (st (gt c.gaps) (gt L) c.gaps.length k).Lo ∧ (st (gt c.gaps) (gt L) c.gaps.length k).Lo ≤ 3000000) ∧ -400 - 10000 * (j : Int) ≤ (st (gt c.gaps) (gt L) c.gaps.length k).Hi ∧ (st (gt c.gaps) (gt L) c.gaps.length k).Hi ≤ 400 := by
    intro j
    induction j with
    | zero => intro k hk; obtain rfl : k = c.gaps.length := by omega
              rw [st_last]; have := fw_bdc h hi (Nat.le_refl c.gaps.length); omega
    | succ j ih => intro k hk; have h1 := ih (k + 1) (by omega); have h2 := fw_bdc h hi (k := k) (by omega); have h3 := gapB h k (by omega); rw [st_lo (gt c.gaps) (gt L) (by omega), st_hi (gt c.gaps) (gt L) (by omega)]; omega
  have := key (c.gaps.length - k) k (by omega); omega
theorem fwP_bd {c : Ck} (h : CkW c) {L : List Span} (hi : setI c L) {i j : Nat} (hj : j ≤ c.gaps.length) : (-400 ≤ (gt (fwP c.gaps L i) j).Lo ∧ (gt (fwP c.gaps L i) j).Lo ≤ 3000000) ∧ -400 ≤ (gt (fwP c.gaps L i) j).Hi ∧ (gt (fwP c.gaps L i) j).Hi ≤ 400 := by
  rw [fwP_at hj]; split
  · exact fw_bdc h hi hj
  · have := setI_bd h hi hj; omega
theorem bwP_bd {c : Ck} (h : CkW c) {L : List Span} (hi : setI c L) {i j : Nat} (hj : j ≤ c.gaps.length) : (-400 ≤ (gt (bwP c.gaps L i) j).Lo ∧ (gt (bwP c.gaps L i) j).Lo ≤ 3000000) ∧ -3000000 ≤ (gt (bwP c.gaps L i) j).Hi ∧ (gt (bwP c.gaps L i) j).Hi ≤ 400 := by
  rw [bwP_at hj]; split
  · exact st_bdc h hi hj
  · have := fw_bdc h hi hj; omega
theorem ok_all {c : Ck} : okC c ↔ ∀ i, i < (setL c).length → ¬ (gt (setL c) i).Hi < (gt (setL c) i).Lo := by
  unfold okC okP
  rw [setL_len]
  exact ⟨fun h i hi => by have := h i hi; rw [setL_at (by omega)]; omega, fun h i hi => by have := h i hi; rw [setL_at (by omega)] at this; omega⟩
/-! ### one span, again and again -/
def repL (x z : Span) (n k : Nat) : List Span := List.replicate k x ++ List.replicate (n - k) z
theorem repL_len {x z : Span} {n k : Nat} (h : k ≤ n) : (repL x z n k).length = n := by simp [repL]; omega
theorem rep_start (x z : Span) {n : Nat} (h : 0 < n) : [x] ++ (List.replicate n z).drop [x].length = repL x z n 1 := by simp [repL]
theorem rep_step {x z : Span} {n k : Nat} : (repL x z n k).take k ++ (repL x z n k).take (min k (n - k)) ++ (repL x z n k).drop (k + min k (n - k)) = repL x z n (k + min k (n - k)) := by
  have h1 : (repL x z n k).take k = List.replicate k x := by unfold repL; rw [List.take_left' (by simp)]
  have h2 : (repL x z n k).take (min k (n - k)) = List.replicate (min k (n - k)) x := by
    unfold repL; rw [List.take_append_of_le_length (by simp; omega), List.take_replicate]; congr 1; omega
  have h3 : (repL x z n k).drop (k + min k (n - k)) = List.replicate (n - (k + min k (n - k))) z := by
    unfold repL; rw [List.drop_append, List.drop_of_length_le (by simp)]; simp; omega
  rw [h1, h2, h3, List.replicate_append_replicate]
  rfl
theorem rep_end (x z : Span) (n : Nat) : repL x z n n = List.replicate n x := by simp [repL]
end Go.Proofs.C2
