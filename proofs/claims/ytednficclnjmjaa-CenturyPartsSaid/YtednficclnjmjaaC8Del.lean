import Derived.Test.YtednficclnjmjaaC8Lin
import Derived.Test.YtednficclnjmjaaKxU
/- Century: what slices.DeleteFunc leaves; parts; in plain Lean. -/
namespace Go.Proofs.C8
open Go Go.Kx

section
variable {α : Type} [Inhabited α] {p : α → Bool} {L R : List α} {i j : Nat}
/-- the first place that goes, or -1 -/
def delF (p : α → Bool) (L : List α) : Int := if first (fun q => p (gt L q) = false) L.length < L.length then (first (fun q => p (gt L q) = false) L.length : Int) else -1
theorem delF_yes {k : Nat} (hk : k < L.length) (ha : ∀ j, j < k → p (gt L j) = true) (hb : p (gt L k) = false) : delF p L = (k : Int) := by
  have h := first_eq (p := fun q => p (gt L q) = false) hk (fun j hj => by rw [ha j hj]; decide) hb
  rw [delF, h, if_pos hk]
theorem delF_no (ha : ∀ j, j < L.length → p (gt L j) = true) : delF p L = -1 := by
  have h := first_no (p := fun q => p (gt L q) = false) (n := L.length) (fun j hj => by rw [ha j hj]; decide)
  rw [delF, h, if_neg (Nat.lt_irrefl _)]
theorem delF_cases (p : α → Bool) (L : List α) : (delF p L = -1 ∧ ∀ j, j < L.length → p (gt L j) = true) ∨ ∃ k : Nat, delF p L = (k : Int) ∧ k < L.length ∧ (∀ j, j < k → p (gt L j) = true) ∧ p (gt L k) = false := by
  rcases first_cases (fun q => p (gt L q) = false) L.length with ⟨_, h2⟩ | ⟨h1, h2, h3⟩
  · have ha : ∀ j, j < L.length → p (gt L j) = true := fun j hj => by simpa using h2 j hj
    exact .inl ⟨delF_no ha, ha⟩
  · exact .inr ⟨_, delF_yes h1 (fun j hj => by simpa using h3 j hj) h2, h1, fun j hj => by simpa using h3 j hj, h2⟩
theorem gt_mem0 {x : α} (hx : x ∈ L) : ∃ i, i < L.length ∧ gt L i = x := by
  obtain ⟨i, hi, he⟩ := List.getElem_of_mem hx
  refine ⟨i, hi, ?_⟩
  have := gt_eq hi; rw [List.getElem?_eq_getElem hi] at this; rw [← he]; exact (Option.some.inj this).symm
theorem filter_all {L : List α} (ha : ∀ j, j < L.length → p (gt L j) = true) : L.filter p = L := List.filter_eq_self.2 fun x hx => by
  obtain ⟨i, hi, rfl⟩ := gt_mem0 hx
  exact ha i hi
theorem take_snoc {k : Nat} (hk : k < L.length) : L.take (k + 1) = L.take k ++ [gt L k] := by rw [List.take_add_one, gt_eq hk]; rfl
theorem gt_take {k q : Nat} (h : q < k) : gt (L.take k) q = gt L q := by simp [gt, List.getD, h]
/-- how far a list has been gone through -/
structure DelI (p : α → Bool) (L R : List α) (i j : Nat) : Prop where
  len : R.length = L.length
  lt : i < j
  le : j ≤ L.length
  tk : R.take i = (L.take j).filter p
  tl : ∀ q, j ≤ q → q < L.length → gt R q = gt L q
theorem del_start {k : Nat} (hk : k < L.length) (ha : ∀ j, j < k → p (gt L j) = true) (hb : p (gt L k) = false) : DelI p L L k (k + 1) := by
  refine ⟨rfl, by omega, by omega, ?_, fun _ _ _ => rfl⟩
  rw [take_snoc hk, List.filter_append, filter_all (p := p) (L := L.take k) (fun j hj => by rw [List.length_take] at hj; rw [gt_take (by omega)]; exact ha j (by omega))]
  simp [hb]
theorem del_drop (h : DelI p L R i j) (hj : j < L.length) (hb : p (gt R j) = false) : DelI p L R i (j + 1) := by
  have e := h.tl j (Nat.le_refl _) hj
  refine ⟨h.len, by have := h.lt; omega, by omega, ?_, fun q h1 h2 => h.tl q (by omega) h2⟩
  rw [take_snoc hj, List.filter_append, ← h.tk, ← e]
  simp [hb]
theorem del_keep (h : DelI p L R i j) (hj : j < L.length) (hb : p (gt R j) = true) : DelI p L (R.set i (gt R j)) (i + 1) (j + 1) := by
  have e := h.tl j (Nat.le_refl _) hj
  have hl := h.len
  have hij := h.lt
  refine ⟨by rw [List.length_set]; exact hl, by omega, by omega, ?_, fun q h1 h2 => ?_⟩
  · rw [take_snoc hj, List.filter_append, ← h.tk, ← e, take_snoc (by rw [List.length_set]; omega), gt_set _ _ (by omega), if_pos rfl, List.take_set_of_le (by omega)]
    simp [hb]
  · rw [gt_set _ _ (by omega), if_neg (by omega)]; exact h.tl q (by omega) h2
theorem del_end (h : DelI p L R i j) (hj : ¬ j < L.length) : R.take i = L.filter p ∧ i = (L.filter p).length ∧ i < R.length := by
  have h1 := h.tk
  have h2 := h.lt
  have h3 := h.le
  have h4 := h.len
  rw [List.take_of_length_le (l := L) (by omega)] at h1
  exact ⟨h1, by rw [← h1, List.length_take]; omega, by omega⟩
theorem del_fin [Flat α] (h : DelI p L R i j) (hj : ¬ j < L.length) (zs : List Value) : ((flat R).take (i * Flat.n α) ++ zs).take (i * Flat.n α) = flat (L.filter p) := by
  obtain ⟨h1, _, h3⟩ := del_end h hj
  rw [flat_takeN (by omega), h1, List.take_append_of_le_length (by rw [flat_length, ← h1, List.length_take, Nat.min_eq_left (by omega)]; exact Nat.le_refl _)]
  exact List.take_of_length_le (by rw [flat_length, ← h1, List.length_take, Nat.min_eq_left (by omega)]; exact Nat.le_refl _)
end
def kpV (x : Span) (v : Val) : Bool := decide (inT x v.Time)
def kpX (x : Span) (v : Shf) : Bool := decide (inT x v.Time)
theorem cutV_filter (s : Ser) (x : Span) : ∀ n : Nat, n ≤ s.Values.length → cutVN s x n = (s.Values.take n).filter (kpV x)
  | 0, _ => rfl
  | n + 1, h => by
    rw [cutVN, cutV_filter s x n (by omega), take_snoc (by omega), List.filter_append]
    by_cases hc : inT x (gt s.Values n).Time
    · rw [if_pos hc]; simp [kpV, hc]
    · rw [if_neg hc]; simp [kpV, hc]
theorem cutX_filter (s : Ser) (x : Span) : ∀ n : Nat, n ≤ s.Shifts.length → cutXN s x n = (s.Shifts.take n).filter (kpX x)
  | 0, _ => rfl
  | n + 1, h => by
    rw [cutXN, cutX_filter s x n (by omega), take_snoc (by omega), List.filter_append]
    by_cases hc : inT x (gt s.Shifts n).Time
    · rw [if_pos hc]; simp [kpX, hc]
    · rw [if_neg hc]; simp [kpX, hc]
theorem cutS_filter (s : Ser) (x : Span) : cutS s x = ⟨s.Values.filter (kpV x), s.Shifts.filter (kpX x)⟩ := by
  rw [cutS, cutV_filter s x _ (Nat.le_refl _), cutX_filter s x _ (Nat.le_refl _), List.take_length, List.take_length]
end Go.Proofs.C8
