import Derived.Test.YtmnipmbgdbdjeaaC2Walk4
/- Clocks: sets and drops, loop by loop; in plain Lean. -/
namespace Go.Proofs.C2
open Go Go.Kx
theorem pair_len {d : Drum} {m : List Mark} (h : m.length ≤ 64) : (pairL d m).length ≤ 5000 := by
  by_cases h0 : okD d []
  · rw [pair_some h0]
    have h1 := sngl_len d m m.length; have h3 := dbl_len d m m.length
    have h4 : m.length * m.length ≤ 64 * 64 := Nat.mul_le_mul h h
    rw [List.length_append]; omega
  · rw [pair_none h0]; simp
/-! ### is a number in a list -/
theorem in_iff (l : List Int) (v : Int) : (¬ ∀ j, j < l.length → ¬ v = gt l j) ↔ v ∈ l := by
  constructor
  · intro h
    apply Classical.byContradiction
    intro hn
    exact h fun j hj he => hn (by rw [he]; exact gt_mem hj)
  · intro h hall
    obtain ⟨j, hj, he⟩ := mem_gt h
    exact hall j hj he.symm
/-- a contradiction is missed -/
def missP (p l : List Int) : Prop := ¬ ¬ ∀ i, i < p.length → ¬ ¬ ∀ j, j < l.length → ¬ gt p i = gt l j
instance (p l : List Int) : Decidable (missP p l) := by unfold missP; exact inferInstance
theorem miss_iff (p l : List Int) : missP p l ↔ ¬ ∃ i, i ∈ p ∧ i ∈ l := by
  unfold missP
  constructor
  · intro h
    have h1 := Classical.not_not.1 h
    rintro ⟨i, hi, hl⟩
    obtain ⟨a, ha, rfl⟩ := mem_gt hi
    exact h1 a ha ((in_iff l _).2 hl)
  · intro h
    refine Classical.not_not.2 fun a ha hn => h ⟨_, gt_mem ha, (in_iff l _).1 hn⟩
theorem hit_miss (bad : List (List Int)) (l : List Int) : hitB bad l = true ↔ ∀ i, i < bad.length → ¬ missP (gt bad i) l := by
  rw [hit_iff]
  constructor
  · intro h i hi hm
    exact (miss_iff _ _).1 hm (h _ (gt_mem hi))
  · intro h p hp
    obtain ⟨i, hi, rfl⟩ := mem_gt hp
    exact Classical.not_not.1 fun hn => h i hi ((miss_iff _ _).2 hn)
def hitL (bad : List (List Int)) (l : List Int) (L : List (List Int)) : List (List Int) := if hitB bad l = true then L ++ [l] else L
theorem hitL_yes {bad : List (List Int)} {l : List Int} {L : List (List Int)} (h : hitB bad l = true) : L ++ [l] = hitL bad l L := by rw [hitL, if_pos h]
theorem hitL_no {bad : List (List Int)} {l : List Int} {L : List (List Int)} (h : ¬ hitB bad l = true) : L = hitL bad l L := by rw [hitL, if_neg h]
theorem hitL_sets {bad : List (List Int)} {l : List Int} {L : List (List Int)} {n nx : Nat} : hitL bad l L = L ++ (setsF n 0 l nx).filter (hitB bad) := by
  rw [setsF, hitL]; split
  · rename_i h; simp [h]
  · rename_i h; simp [h]
/-- the sets with the numbers from nx up to k -/
def prt (n q : Nat) (l : List Int) (nx k : Nat) : List (List Int) := (List.range (k - nx)).flatMap fun j => setsF n q (l ++ [((nx + j : Nat) : Int)]) (nx + j + 1)
theorem prt_zero (n q : Nat) (l : List Int) (nx : Nat) : prt n q l nx nx = [] := by unfold prt; rw [Nat.sub_self]; rfl
theorem prt_step {n q : Nat} {l : List Int} {nx k : Nat} (h : nx ≤ k) : prt n q l nx (k + 1) = prt n q l nx k ++ setsF n q (l ++ [((k : Nat) : Int)]) (k + 1) := by
  unfold prt
  rw [show k + 1 - nx = (k - nx) + 1 by omega, List.range_succ, List.flatMap_append]
  simp only [List.flatMap_cons, List.flatMap_nil, List.append_nil]
  rw [show nx + (k - nx) = k by omega]
theorem prt_all {n q : Nat} {l : List Int} {nx k : Nat} (h : k = n ∨ (k = nx ∧ n ≤ nx)) : prt n q l nx k = setsF n (q + 1) l nx := by
  unfold prt; rw [setsF]
  rcases h with rfl | ⟨rfl, h⟩
  · rfl
  · rw [Nat.sub_self, show n - k = 0 by omega]
theorem prt_le {n q : Nat} {l : List Int} {nx : Nat} : ∀ {k j : Nat}, nx ≤ k → k ≤ j → (prt n q l nx k).length ≤ (prt n q l nx j).length := by
  intro k j h1 h2
  obtain ⟨t, rfl⟩ : ∃ t, j = k + t := ⟨j - k, by omega⟩
  induction t with
  | zero => exact Nat.le_refl _
  | succ t ih => have := ih (by omega); rw [← Nat.add_assoc, prt_step (by omega), List.length_append]; omega
theorem prt_bd {n q : Nat} {l : List Int} {nx k : Nat} (h : nx ≤ k) (hk : k < n) : (prt n q l nx k).length + (setsF n q (l ++ [((k : Nat) : Int)]) (k + 1)).length ≤ (setsF n (q + 1) l nx).length := by
  rw [← prt_all (n := n) (q := q) (l := l) (nx := nx) (k := n) (.inl rfl)]
  have h1 := prt_le (n := n) (q := q) (l := l) (nx := nx) (k := k + 1) (j := n) (by omega) (by omega)
  rw [prt_step h, List.length_append] at h1
  exact h1
theorem sets_len : ∀ (n q : Nat) (l : List Int) (nx : Nat), (setsF n q l nx).length ≤ 2 ^ (n - nx)
  | n, 0, l, nx => by rw [setsF]; exact Nat.one_le_two_pow
  | n, q + 1, l, nx => by
    have key : ∀ t k, nx ≤ k → k + t = n → (prt n q l nx k).length + 2 ^ (n - k) ≤ 2 ^ (n - nx) → (prt n q l nx n).length ≤ 2 ^ (n - nx) := by
      intro t
      induction t with
      | zero => intro k _ h2 h3; obtain rfl : k = n := by omega
                rw [Nat.sub_self] at h3; omega
      | succ t ih =>
        intro k h1 h2 h3
        refine ih (k + 1) (by omega) (by omega) ?_
        have h4 := sets_len n q (l ++ [((k : Nat) : Int)]) (k + 1)
        rw [prt_step h1, List.length_append]
        have h5 : 2 ^ (n - k) = 2 ^ (n - (k + 1)) + 2 ^ (n - (k + 1)) := by rw [show n - k = (n - (k + 1)) + 1 by omega, Nat.pow_succ]; omega
        omega
    rcases Nat.lt_or_ge n nx with h | h
    · rw [← prt_all (k := nx) (.inr ⟨rfl, by omega⟩), prt_zero]; exact Nat.zero_le _
    · rw [← prt_all (k := n) (.inl rfl)]
      exact key (n - nx) nx (Nat.le_refl _) (by omega) (by rw [prt_zero]; simp)
theorem fil_le (f : List Int → Bool) (L : List (List Int)) : (L.filter f).length ≤ L.length := List.length_filter_le f L
theorem fil_step {n q : Nat} {l : List Int} {nx k : Nat} {L : List (List Int)} {f : List Int → Bool} (h : nx ≤ k) : (L ++ (prt n q l nx k).filter f) ++ (setsF n q (l ++ [((k : Nat) : Int)]) (k + 1)).filter f = L ++ (prt n q l nx (k + 1)).filter f := by
  rw [prt_step h, List.filter_append, List.append_assoc]
/-! ### the first size -/
def drpS (bad : List (List Int)) (n s : Nat) : List (List Int) := if s = 0 then [] else drpN bad n (s - 1)
/-- the set of all numbers hits whatever is not empty -/
theorem drp_full {bad : List (List Int)} {n : Nat} (h : ∀ p, p ∈ bad → p ≠ [] ∧ ∀ i, i ∈ p → 0 ≤ i ∧ i < (n : Int)) : drpN bad n n ≠ [] := by
  have hin : (List.range n).map (fun (i : Nat) => (i : Int)) ∈ drpN bad n n := by
    unfold drpN
    rw [List.mem_filter]
    refine ⟨sets_iff.2 ⟨by simp, ?_, fun i hi => ?_⟩, hit_iff.2 fun p hp => ?_⟩
    · rw [List.pairwise_map]
      exact List.pairwise_lt_range.imp fun hab => by omega
    · obtain ⟨j, hj, rfl⟩ := List.mem_map.1 hi
      rw [List.mem_range] at hj; omega
    · obtain ⟨h1, h2⟩ := h p hp
      obtain ⟨i, hi⟩ := List.exists_mem_of_ne_nil p h1
      have := h2 i hi
      exact ⟨i, hi, List.mem_map.2 ⟨i.toNat, by rw [List.mem_range]; omega, by omega⟩⟩
  intro he; rw [he] at hin; exact absurd hin (List.not_mem_nil)
theorem drpF_eq {bad : List (List Int)} {n : Nat} : ∀ (f a s : Nat), a ≤ s → s < a + f → (∀ j, a ≤ j → j < s → drpN bad n j = []) → drpN bad n s ≠ [] → drpF bad n f a = drpN bad n s
  | 0, a, s, h1, h2, _, _ => by omega
  | f + 1, a, s, h1, h2, h3, h4 => by
    rw [drpF]
    rcases Nat.lt_or_ge a s with h5 | h5
    · rw [if_pos (h3 a (Nat.le_refl _) h5)]; exact drpF_eq f (a + 1) s (by omega) (by omega) (fun j hj => h3 j (by omega)) h4
    · obtain rfl : a = s := by omega
      rw [if_neg h4]
theorem drpL_eq {bad : List (List Int)} {n s : Nat} (h1 : s ≤ n) (h2 : ∀ j, j < s → drpN bad n j = []) (h3 : drpN bad n s ≠ []) : drpL bad n = drpN bad n s :=
  drpF_eq (n + 1) 0 s (Nat.zero_le _) (by omega) (fun j _ hj => h2 j hj) h3
theorem drp_len (bad : List (List Int)) {n : Nat} (hn : n ≤ 12) (s : Nat) : (drpN bad n s).length ≤ 4096 := by
  have h1 := sets_len n s [] 0
  have h2 := fil_le (hitB bad) (setsF n s [] 0)
  have h3 : 2 ^ (n - 0) ≤ 2 ^ 12 := Nat.pow_le_pow_right (by omega) (by omega)
  unfold drpN; omega
theorem drpS_len (bad : List (List Int)) {n : Nat} (hn : n ≤ 12) (s : Nat) : (drpS bad n s).length ≤ 4096 := by
  unfold drpS; split
  · simp
  · exact drp_len bad hn _
theorem drpR_bad {d : Drum} {m : List Mark} (h : chkE d m ≠ 0) : drpR d m = ([], chkE d m) := by rw [drpR, if_pos h]
theorem drpR_big {d : Drum} {m : List Mark} (h : chkE d m = 0) (h1 : 12 < m.length) : drpR d m = ([], 2) := by rw [drpR, if_neg (by omega), if_pos h1]
theorem drpR_time {d : Drum} {m : List Mark} (h : chkE d m = 0) (h1 : ¬ 12 < m.length) (h2 : ¬ okD d []) : drpR d m = ([], 22) := by rw [drpR, if_neg (by omega), if_neg h1, if_neg h2]
theorem drpR_ok {d : Drum} {m : List Mark} (h : chkE d m = 0) (h1 : ¬ 12 < m.length) (h2 : okD d []) : drpR d m = (drpL (pairL d m) m.length, 0) := by rw [drpR, if_neg (by omega), if_neg h1, if_pos h2]
theorem drp_fullD {d : Drum} {m : List Mark} (h0 : okD d []) : drpN (pairL d m) m.length m.length ≠ [] := drp_full fun _ hp => ⟨pair_ne h0 hp, fun _ hi => pair_idx hp hi⟩
theorem drp_end {bad : List (List Int)} {n s : Nat} (hs : s ≤ n + 1) (hall : ∀ j, j + 1 < s → drpN bad n j = []) (h : (drpS bad n s).length ≠ 0) : drpS bad n s = drpL bad n := by
  have h0 : s ≠ 0 := fun e => h (by rw [drpS, if_pos e]; rfl)
  have e : drpS bad n s = drpN bad n (s - 1) := by rw [drpS, if_neg h0]
  rw [e] at h ⊢
  exact (drpL_eq (by omega) (fun j hj => hall j (by omega)) (fun hn => h (by rw [hn]; rfl))).symm
theorem drp_next {bad : List (List Int)} {n s : Nat} (hfull : drpN bad n n ≠ []) (hs : s ≤ n + 1) (hall : ∀ j, j + 1 < s → drpN bad n j = []) (h : (drpS bad n s).length = 0) : s ≤ n ∧ (∀ j, j + 1 < s + 1 → drpN bad n j = []) ∧ drpS bad n s = [] := by
  have hnil := List.length_eq_zero_iff.1 h
  have hall' : ∀ j, j + 1 < s + 1 → drpN bad n j = [] := fun j hj => by
    rcases Nat.lt_or_ge (j + 1) s with h1 | h1
    · exact hall j h1
    · have e : drpS bad n s = drpN bad n (s - 1) := by rw [drpS, if_neg (by omega)]
      rw [e] at hnil; rwa [show j = s - 1 by omega]
  refine ⟨?_, hall', hnil⟩
  rcases Nat.lt_or_ge n s with h1 | h1
  · exact absurd (hall' n (by omega)) hfull
  · exact h1
end Go.Proofs.C2
