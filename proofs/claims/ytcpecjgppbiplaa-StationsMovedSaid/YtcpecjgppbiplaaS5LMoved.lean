/- Stations: what a move changes; in plain Lean. -/
import Derived.Test.YtcpecjgppbiplaaS5Ins
namespace Go.Proofs.S5
open Go Go.Kx

theorem moved_one {s : Station} {h : Height} (hz : (moveR s h).2 = 0) : oneE (moveR s h).1 = 0 := by
  obtain ⟨h1, h2, h3⟩ := moveR_zero hz
  rw [h3]
  have h4 := (oneE_zero h1).1
  exact oneE_of ⟨h4.1, h4.2.1, h4.2.2⟩ h2
theorem moved_err {s : Station} {h : Height} {week : Int} (hz : (moveR s h).2 = 0) : (heightR s week).2 = (heightR (moveR s h).1 week).2 := by
  have h1 := (moveR_zero hz).1
  have h2 := moved_one hz
  unfold heightR
  rw [if_neg (show ¬ oneE s ≠ 0 by omega), if_neg (show ¬ oneE (moveR s h).1 ≠ 0 by omega)]
  split <;> rfl
theorem moved_comm {s : Station} {h g : Height} (hz : (moveR s h).2 = 0) (hy : (moveR s g).2 = 0) (hne : h.Week ≠ g.Week) : moveR (moveR s h).1 g = moveR (moveR s g).1 h := by
  have h1 := moved_one hz
  have h2 := moved_one hy
  obtain ⟨_, _, e1⟩ := moveR_zero hz
  obtain ⟨_, _, e2⟩ := moveR_zero hy
  rw [e1] at h1 ⊢; rw [e2] at h2 ⊢
  have hc := ins_comm hne s.Heights
  by_cases hk : highOk (insH (insH s.Heights h) g)
  · rw [moveR_ok h1 hk, moveR_ok h2 (by rw [← hc]; exact hk)]
    show ((⟨s.ID, s.X, s.Y, insH (insH s.Heights h) g⟩ : Station), (0 : Int)) = (⟨s.ID, s.X, s.Y, insH (insH s.Heights g) h⟩, 0)
    rw [hc]
  · rw [moveR_no h1 hk, moveR_no h2 (by rw [← hc]; exact hk)]
/-- the next week that has heights, as far as it has been sought from behind -/
def nextP (l : List Height) (h : Height) (j : Nat) (nx : Int) : Prop :=
  (∀ i, j ≤ i → i < l.length → h.Week < (gt l i).Week → nx ≤ (gt l i).Week) ∧ (nx = 10001 ∨ ∃ i, i < l.length ∧ nx = (gt l i).Week ∧ h.Week < nx)
theorem nextP_start (l : List Height) (h : Height) {j : Nat} (hj : l.length ≤ j) : nextP l h j 10001 := ⟨fun i h1 h2 => absurd h2 (by omega), .inl rfl⟩
theorem nextP_yes {l : List Height} (hl : highOk l) {h : Height} {j : Nat} (hj : j < l.length) (hw : h.Week < (gt l j).Week) : nextP l h j (gt l j).Week := by
  refine ⟨fun i h1 h2 _ => ?_, .inr ⟨j, hj, rfl, hw⟩⟩
  rcases Nat.lt_or_eq_of_le h1 with h3 | h3
  · have := high_up hl (i - j - 1) j (by omega)
    rw [show j + (i - j - 1) + 1 = i by omega] at this; omega
  · subst h3; exact Int.le_refl _
theorem nextP_no {l : List Height} {h : Height} {j : Nat} {nx : Int} (hp : nextP l h (j + 1) nx) (hw : ¬ h.Week < (gt l j).Week) : nextP l h j nx := by
  refine ⟨fun i h1 h2 h3 => ?_, hp.2⟩
  rcases Nat.lt_or_eq_of_le h1 with h4 | h4
  · exact hp.1 i h4 h2 h3
  · subst h4; exact absurd h3 hw
theorem gt_mem {l : List Height} {y : Height} (hy : y ∈ l) : ∃ i, i < l.length ∧ gt l i = y := by
  obtain ⟨i, hi, he⟩ := List.getElem_of_mem hy
  refine ⟨i, hi, ?_⟩
  have := gt_eq hi; rw [List.getElem?_eq_getElem hi] at this; rw [← he]; exact (Option.some.inj this).symm
theorem mem_gt {l : List Height} {i : Nat} (hi : i < l.length) : gt l i ∈ l := List.mem_of_getElem? (gt_eq hi)
theorem heightR_val {s : Station} {week : Int} (h : (heightR s week).2 = 0) : (0 ≤ week ∧ week ≤ 10000) ∧ (heightR s week).1 = heightS s week := by
  unfold heightR at h ⊢
  split at h
  · rename_i h1; exact absurd h h1
  · split at h
    · rename_i h1 h2; rw [if_neg h1, if_pos h2]; exact ⟨h2, rfl⟩
    · exact absurd h (by decide)
theorem ins_first {l : List Height} {h : Height} (hl : highOk l) (hm : highOk (insH l h)) : gt (insH l h) 0 = gt l 0 := by
  cases l with
  | nil => exact absurd hl.1.1 (by simp)
  | cons x l =>
    have h0 := (hl.2 0 (by simp)).1 rfl
    have hx : gt (x :: l) 0 = x := rfl
    rw [hx] at h0
    rw [insH] at hm ⊢
    split
    · rfl
    · rename_i hn
      rw [if_neg hn] at hm
      have h1 := (hm.2 0 (by simp)).1 rfl
      have h2 := (hm.2 1 (by simp)).2.1 (by omega)
      have e0 : gt (h :: x :: l) 0 = h := rfl
      have e1 : gt (h :: x :: l) 1 = x := rfl
      rw [e0] at h1
      rw [show 1 - 1 = 0 from rfl, e0, e1] at h2
      omega
theorem moved_out {s : Station} {h : Height} {week nx : Int} (hz : (moveR s h).2 = 0) (hf : (heightR s week).2 = 0) (hn : nextP s.Heights h 0 nx) (hw : week < h.Week ∨ nx ≤ week) :
    (heightR s week).1 = (heightR (moveR s h).1 week).1 := by
  obtain ⟨h1, h2, h3⟩ := moveR_zero hz
  have hk := heightR_val hf
  have hk2 := heightR_val (s := (moveR s h).1) (week := week) (by rw [← moved_err hz]; exact hf)
  rw [hk.2, hk2.2, heightS_last, heightS_last, h3]
  show lastM week (gt s.Heights 0).Metres s.Heights = lastM week (gt (insH s.Heights h) 0).Metres (insH s.Heights h)
  rw [ins_first (oneE_zero h1).2 h2]
  by_cases hb : week < h.Week
  · exact (last_before hb _ _).symm
  · have hnx : nx ≤ week := by omega
    obtain ⟨i, hi, e1, e2⟩ : ∃ i, i < s.Heights.length ∧ nx = (gt s.Heights i).Week ∧ h.Week < nx := by
      rcases hn.2 with h4 | h4
      · omega
      · exact h4
    exact (last_behind _ _ ⟨gt s.Heights i, mem_gt hi, by omega, by omega⟩).symm
theorem moved_in {s : Station} {h : Height} {week nx : Int} (hz : (moveR s h).2 = 0) (hf : (heightR s week).2 = 0) (hn : nextP s.Heights h 0 nx) (hw : h.Week ≤ week) (hw2 : week < nx) :
    (heightR (moveR s h).1 week).1 = h.Metres := by
  obtain ⟨h1, h2, h3⟩ := moveR_zero hz
  have hk2 := heightR_val (s := (moveR s h).1) (week := week) (by rw [← moved_err hz]; exact hf)
  rw [hk2.2, heightS_last, h3]
  refine last_within hw _ _ (fun y hy => ?_) (high_pair (oneE_zero h1).2)
  obtain ⟨i, hi, rfl⟩ := gt_mem hy
  by_cases hlt : (gt s.Heights i).Week < h.Week
  · exact .inl hlt
  · refine .inr ?_
    by_cases he : (gt s.Heights i).Week = h.Week
    · exact absurd h2 (same_week (insH_perm h s.Heights) hy he)
    · have := hn.1 i (Nat.zero_le _) hi (by omega); omega
end Go.Proofs.S5
