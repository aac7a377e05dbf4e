import Derived.Test.YtednficclnjmjaaC8Del
import Derived.Test.YtednficclnjmjaaC8Lin
/- Century: parts of a series: valid, and what sums and windows of them are; in plain Lean. -/
namespace Go.Proofs.C8
open Go Go.Kx

/-! ### lists by their pairs -/
theorem pair_gt {α : Type} [Inhabited α] {R : α → α → Prop} {L : List α} : L.Pairwise R ↔ ∀ i j, i < j → j < L.length → R (gt L i) (gt L j) := by
  rw [List.pairwise_iff_getElem]
  have e : ∀ k (hk : k < L.length), gt L k = L[k] := fun k hk => by
    have := gt_eq hk; rw [List.getElem?_eq_getElem hk] at this; exact (Option.some.inj this).symm
  constructor
  · intro h i j hij hj
    rw [e i (by omega), e j hj]; exact h i j (by omega) hj hij
  · intro h i j hi hj hij
    have := h i j hij hj
    rwa [e i hi, e j hj] at this
theorem mem_gt0 {α : Type} [Inhabited α] {L : List α} {i : Nat} (hi : i < L.length) : gt L i ∈ L := List.mem_of_getElem? (gt_eq hi)
def rngV (v : Val) : Prop := (0 ≤ v.Time ∧ v.Time ≤ 10000) ∧ (0 ≤ v.Levels.Lo ∧ v.Levels.Lo ≤ v.Levels.Hi) ∧ v.Levels.Hi ≤ 24000
def rngX (v : Shf) : Prop := (0 ≤ v.Time ∧ v.Time ≤ 10000) ∧ (-12000 ≤ v.Levels.Lo ∧ v.Levels.Lo ≤ v.Levels.Hi) ∧ v.Levels.Hi ≤ 12000
theorem okV_pair {L : List Val} : (∀ i, i < L.length → ¬ badV L i) ↔ (∀ v ∈ L, rngV v) ∧ L.Pairwise (fun a b => a.Time < b.Time) := by
  rw [pair_gt]
  constructor
  · intro h
    refine ⟨fun v hv => ?_, fun i j hij hj => ?_⟩
    · obtain ⟨i, hi, rfl⟩ := gt_mem0 hv
      have := h i hi; unfold badV at this; unfold rngV; omega
    · induction j with
      | zero => omega
      | succ j ih =>
        have h1 := h (j + 1) hj
        unfold badV at h1
        rw [Nat.add_sub_cancel] at h1
        rcases Nat.lt_or_ge i j with h2 | h2
        · have := ih h2 (by omega); omega
        · obtain rfl : i = j := by omega
          omega
  · rintro ⟨h1, h2⟩ i hi
    have h3 := h1 _ (mem_gt0 hi)
    have h4 : 0 < i → (gt L (i - 1)).Time < (gt L i).Time := fun h0 => h2 (i - 1) i (by omega) hi
    unfold rngV at h3; unfold badV; omega
theorem okX_pair {L : List Shf} : (∀ i, i < L.length → ¬ badX L i) ↔ (∀ v ∈ L, rngX v) ∧ L.Pairwise (fun a b => a.Time ≤ b.Time) := by
  rw [pair_gt]
  constructor
  · intro h
    refine ⟨fun v hv => ?_, fun i j hij hj => ?_⟩
    · obtain ⟨i, hi, rfl⟩ := gt_mem0 hv
      have := h i hi; unfold badX at this; unfold rngX; omega
    · induction j with
      | zero => omega
      | succ j ih =>
        have h1 := h (j + 1) hj
        unfold badX at h1
        rw [Nat.add_sub_cancel] at h1
        rcases Nat.lt_or_ge i j with h2 | h2
        · have := ih h2 (by omega); omega
        · obtain rfl : i = j := by omega
          omega
  · rintro ⟨h1, h2⟩ i hi
    have h3 := h1 _ (mem_gt0 hi)
    have h4 : 0 < i → (gt L (i - 1)).Time ≤ (gt L i).Time := fun h0 => h2 (i - 1) i (by omega) hi
    unfold rngX at h3; unfold badX; omega
/-! ### sums over shifts that stay -/
theorem sumN_first (f : Nat → Int) : ∀ n : Nat, sumN f (n + 1) = f 0 + sumN (fun k => f (k + 1)) n
  | 0 => by simp [sumN]
  | n + 1 => by
    have := sumN_first f n
    simp only [sumN] at this ⊢
    omega
def sumF (F : Shf → Int) (xs : List Shf) : Int := sumN (fun k => F (gt xs k)) xs.length
theorem sumF_cons (F : Shf → Int) (x : Shf) (xs : List Shf) : sumF F (x :: xs) = F x + sumF F xs := sumN_first _ _
theorem sumF_filter {F : Shf → Int} {p : Shf → Bool} : ∀ {xs : List Shf}, (∀ x ∈ xs, p x = false → F x = 0) → sumF F (xs.filter p) = sumF F xs
  | [], _ => rfl
  | x :: xs, h => by
    have ih := sumF_filter (F := F) (p := p) (xs := xs) (fun y hy => h y (by simp [hy]))
    rw [sumF_cons]
    cases hp : p x with
    | true => rw [List.filter_cons_of_pos hp, sumF_cons, ih]
    | false => rw [List.filter_cons_of_neg (by simp [hp]), ih, h x (by simp) hp]; omega
theorem bt_sumF (xs : List Shf) (a b : Int) : bt xs a b = ⟨sumF (fun x => if a < x.Time ∧ x.Time ≤ b then x.Levels.Lo else 0) xs, sumF (fun x => if a < x.Time ∧ x.Time ≤ b then x.Levels.Hi else 0) xs⟩ := rfl
theorem bt_cut (s : Ser) {x : Span} {a b : Int} (ha : x.Lo ≤ a + 1) (hb : b ≤ x.Hi) : bt (cutS s x).Shifts a b = bt s.Shifts a b := by
  rw [cutS_filter, bt_sumF, bt_sumF]
  have key : ∀ v : Shf, kpX x v = false → ¬ (a < v.Time ∧ v.Time ≤ b) := fun v hv hc => by
    have h1 : ¬ inT x v.Time := by simpa [kpX] using hv
    unfold inT at h1; omega
  congr 1 <;> exact sumF_filter fun v _ hv => if_neg (key v hv)
/-! ### values between two times -/
theorem filter_none {α : Type} [Inhabited α] {p : α → Bool} {L : List α} (ha : ∀ j, j < L.length → p (gt L j) = false) : L.filter p = [] := List.filter_eq_nil_iff.2 fun x hx => by
  obtain ⟨i, hi, rfl⟩ := gt_mem0 hx
  rw [ha i hi]; decide
theorem gt_drop {α : Type} [Inhabited α] (L : List α) (a j : Nat) : gt (L.drop a) j = gt L (a + j) := by simp [gt, List.getD]
theorem seg_filter {α : Type} [Inhabited α] {p : α → Bool} {L : List α} {a b : Nat} (hab : a ≤ b) (hb : b ≤ L.length) (h : ∀ q, q < L.length → (p (gt L q) = true ↔ a ≤ q ∧ q < b)) : L.filter p = (L.drop a).take (b - a) := by
  have f : ∀ q, q < L.length → ¬ (a ≤ q ∧ q < b) → p (gt L q) = false := fun q hq hn => by
    cases hp : p (gt L q) with
    | false => rfl
    | true => exact absurd ((h q hq).1 hp) hn
  have e1 : (L.take a).filter p = [] := filter_none fun j hj => by rw [List.length_take] at hj; rw [gt_take (by omega)]; exact f j (by omega) (by omega)
  have e2 : ((L.drop a).drop (b - a)).filter p = [] := filter_none fun j hj => by simp only [List.length_drop] at hj; rw [gt_drop, gt_drop]; exact f _ (by omega) (by omega)
  have e3 : ((L.drop a).take (b - a)).filter p = (L.drop a).take (b - a) := filter_all fun j hj => by simp only [List.length_take, List.length_drop] at hj; rw [gt_take (by omega), gt_drop]; exact (h _ (by omega)).2 ⟨by omega, by omega⟩
  conv => lhs; rw [← List.take_append_drop a L, List.filter_append, e1, List.nil_append, ← List.take_append_drop (b - a) (L.drop a), List.filter_append, e2, e3, List.append_nil]
/-- the values of a part: from one place up to another one -/
structure Part (s : Ser) (x : Span) (a b : Nat) : Prop where
  ok : Ok s
  ab : a ≤ b
  bn : b ≤ s.Values.length
  iff : ∀ q, q < s.Values.length → (inT x (gt s.Values q).Time ↔ a ≤ q ∧ q < b)
section
variable {s : Ser} {x : Span} {a b : Nat} (h : Part s x a b)
include h
theorem Part.vals : (cutS s x).Values = (s.Values.drop a).take (b - a) := by
  rw [cutS_filter]
  exact seg_filter h.ab h.bn fun q hq => by rw [← h.iff q hq]; simp [kpV]
theorem Part.len : (cutS s x).Values.length = b - a := by rw [h.vals, List.length_take, List.length_drop]; have := h.bn; omega
theorem Part.at {q : Nat} (hq : q < b - a) : gt (cutS s x).Values q = gt s.Values (a + q) := by rw [h.vals, gt_take hq, gt_drop]
theorem Part.win {i j : Nat} (hij : i ≤ j) (hj : j < b - a) : winOf (cutS s x) i j = winOf s (a + i) (a + j) := by
  have hbn := h.bn
  unfold winOf
  rw [show a + j + 1 - (a + i) = j + 1 - i by omega]
  have e1 : ((List.range (j + 1 - i)).map fun k => (gt (cutS s x).Values (i + k)).Levels) = (List.range (j + 1 - i)).map fun k => (gt s.Values (a + i + k)).Levels := by
    refine List.map_congr_left fun k hk => ?_
    rw [List.mem_range] at hk
    rw [h.at (by omega), Nat.add_assoc]
  have e2 : ((List.range (j + 1 - i - 1)).map fun k => bt (cutS s x).Shifts (gt (cutS s x).Values (i + k)).Time (gt (cutS s x).Values (i + k + 1)).Time) = (List.range (j + 1 - i - 1)).map fun k => bt s.Shifts (gt s.Values (a + i + k)).Time (gt s.Values (a + i + k + 1)).Time := by
    refine List.map_congr_left fun k hk => ?_
    rw [List.mem_range] at hk
    have h1 := (h.iff (a + (i + k)) (by omega)).2 ⟨by omega, by omega⟩
    have h2 := (h.iff (a + (i + k + 1)) (by omega)).2 ⟨by omega, by omega⟩
    unfold inT at h1 h2
    rw [h.at (by omega), h.at (by omega), bt_cut s (by omega) (by omega)]
    rw [show a + (i + k) = a + i + k by omega, show a + (i + k + 1) = a + i + k + 1 by omega]
  rw [e1, e2]
theorem Part.good {most : Int} {i j : Nat} (hij : i ≤ j) (hj : j < b - a) : goodW (cutS s x) most i j ↔ goodW s most (a + i) (a + j) := by
  unfold goodW; rw [h.win hij hj]
theorem Part.cut (hx : spOk x 0 10000) : cutR s x = (cutS s x, 0) := cutR_ok h.ok.e hx
end
end Go.Proofs.C8
