import Derived.Test.YtmnipmbgdbdjeaaC2Data
/- Clocks: lists and numbers, in plain Lean. -/
namespace Go.Proofs.C2
open Go Go.Kx

/-! ### the first of some numbers; sums -/
def fstF (p : Nat → Prop) [DecidablePred p] : Nat → Nat → Nat
  | 0, k => k
  | f + 1, k => if p k then k else fstF p f (k + 1)
/-- the least k below n with p, or n -/
def first (p : Nat → Prop) [DecidablePred p] (n : Nat) : Nat := fstF p n 0
theorem fstF_eq {p : Nat → Prop} [DecidablePred p] : ∀ {f a k : Nat}, a ≤ k → k < a + f → (∀ j, a ≤ j → j < k → ¬ p j) → p k → fstF p f a = k
  | 0, a, k, h1, h2, _, _ => by omega
  | f + 1, a, k, h1, h2, h, hp => by
    unfold fstF
    rcases Nat.lt_or_ge a k with h3 | h3
    · rw [if_neg (h a (Nat.le_refl _) h3)]
      exact fstF_eq h3 (by omega) (fun j hj => h j (by omega)) hp
    · have : a = k := by omega
      subst this
      rw [if_pos hp]
theorem fstF_no {p : Nat → Prop} [DecidablePred p] : ∀ {f a : Nat}, (∀ j, a ≤ j → j < a + f → ¬ p j) → fstF p f a = a + f
  | 0, a, _ => rfl
  | f + 1, a, h => by
    unfold fstF
    rw [if_neg (h a (Nat.le_refl _) (by omega)), fstF_no (fun j h1 h2 => h j (by omega) (by omega))]
    omega
theorem first_eq {p : Nat → Prop} [DecidablePred p] {n k : Nat} (hk : k < n) (h : ∀ j, j < k → ¬ p j) (hp : p k) : first p n = k :=
  fstF_eq (Nat.zero_le _) (by omega) (fun j _ hj => h j hj) hp
theorem first_no {p : Nat → Prop} [DecidablePred p] {n : Nat} (h : ∀ j, j < n → ¬ p j) : first p n = n := by
  have := fstF_no (p := p) (f := n) (a := 0) (fun j _ hj => h j (by omega))
  simpa [first] using this
theorem first_cases (p : Nat → Prop) [DecidablePred p] (n : Nat) : (first p n = n ∧ ∀ j, j < n → ¬ p j) ∨ (first p n < n ∧ p (first p n) ∧ ∀ j, j < first p n → ¬ p j) := by
  by_cases h : ∀ j, j < n → ¬ p j
  · exact .inl ⟨first_no h, h⟩
  · right
    have : ∃ k, k < n ∧ p k ∧ ∀ j, j < k → ¬ p j := by
      have hex : ∃ j, j < n ∧ p j := by
        by_cases he : ∃ j, j < n ∧ p j
        · exact he
        · exact absurd (fun j hj hp => he ⟨j, hj, hp⟩) h
      obtain ⟨j0, hj0⟩ := hex
      have key : ∀ b, (∃ j, j ≤ b ∧ j < n ∧ p j) → ∃ k, k < n ∧ p k ∧ ∀ j, j < k → ¬ p j := by
        intro b
        induction b with
        | zero => rintro ⟨j, h1, h2, h3⟩; obtain rfl : j = 0 := by omega
                  exact ⟨0, h2, h3, fun i hi => absurd hi (Nat.not_lt_zero _)⟩
        | succ b ih =>
          rintro ⟨j, h1, h2, h3⟩
          by_cases hb : ∃ j, j ≤ b ∧ j < n ∧ p j
          · exact ih hb
          · have hj : j = b + 1 := by
              rcases Nat.lt_or_ge b j with h4 | h4
              · omega
              · exact absurd ⟨j, h4, h2, h3⟩ hb
            subst hj
            exact ⟨b + 1, h2, h3, fun i hi hp => hb ⟨i, by omega, by omega, hp⟩⟩
      exact key j0 ⟨j0, Nat.le_refl _, hj0⟩
    obtain ⟨k, hk, hp, hm⟩ := this
    have := first_eq hk hm hp
    exact ⟨by omega, by rw [this]; exact hp, by rw [this]; exact hm⟩

def sumN (f : Nat → Int) : Nat → Int
  | 0 => 0
  | n + 1 => sumN f n + f n
theorem map_succ {α : Type} (f : Nat → α) (n : Nat) : (List.range n).map f ++ [f n] = (List.range (n + 1)).map f := by rw [List.range_succ]; simp
theorem map_len {α : Type} (f : Nat → α) (n : Nat) : ((List.range n).map f).length = n := by simp
theorem gt_map {α : Type} [Inhabited α] {f : Nat → α} {n i : Nat} (h : i < n) : gt ((List.range n).map f) i = f i := by
  have : ((List.range n).map f)[i]? = some (f i) := by rw [List.getElem?_map, List.getElem?_range h]; rfl
  simp [gt, this]

theorem gt_set {α : Type} [Inhabited α] (L : List α) {a b : Nat} (x : α) (hb : b < L.length) : gt (L.set a x) b = if a = b then x else gt L b := by
  simp only [gt, List.getD, List.getElem?_set]
  split
  · subst_vars; simp [hb]
  · rfl
theorem gt_mem {α : Type} [Inhabited α] {A : List α} {i : Nat} (h : i < A.length) : gt A i ∈ A := List.mem_of_getElem? (gt_eq h)
theorem mem_gt {α : Type} [Inhabited α] {A : List α} {x : α} (h : x ∈ A) : ∃ i, i < A.length ∧ gt A i = x := by
  obtain ⟨i, hi, he⟩ := List.getElem_of_mem h
  exact ⟨i, hi, by simp [gt, List.getD, List.getElem?_eq_getElem hi, he]⟩
theorem map_gt {α : Type} [Inhabited α] (L : List α) : (List.range L.length).map (gt L) = L := by
  refine ext_gt (by simp) fun j hj => ?_
  rw [gt_map (by simpa using hj)]
theorem map_congr {α : Type} {f g : Nat → α} {n : Nat} (h : ∀ i, i < n → f i = g i) : (List.range n).map f = (List.range n).map g := by
  apply List.map_congr_left
  intro a ha
  exact h a (by simpa using ha)
theorem eq_map {α : Type} [Inhabited α] {L : List α} {f : Nat → α} {n : Nat} (hl : L.length = n) (h : ∀ i, i < n → gt L i = f i) : L = (List.range n).map f := by
  subst hl
  rw [← map_congr h, map_gt]
theorem agg2i {a b c d : Int} (h1 : a = c) (h2 : b = d) : Value.agg #[.int .i64 a, .int .i64 b] = .agg #[.int .i64 c, .int .i64 d] := by rw [h1, h2]
theorem tdiv_bd {a b B : Int} (h : -B ≤ a ∧ a ≤ B) : -B ≤ a.tdiv b ∧ a.tdiv b ≤ B := by
  have := Int.natAbs_tdiv_le_natAbs a b
  omega
theorem gcd_zero {a : Int} (ha : 0 ≤ a) : (Int.gcd a 0 : Int) = a := by rw [Int.gcd_zero_right]; omega
theorem gcd_rem {a b : Int} : Int.gcd b (a % b) = Int.gcd a b := by
  rw [Int.gcd_comm a b]
  have : a % b = a - b * (a / b) := by have := Int.mul_ediv_add_emod a b; omega
  rw [this, Int.gcd_sub_mul_left_right]
theorem emod_bd {x y : Int} (hy : 0 < y) : 0 ≤ x % y ∧ x % y < y := ⟨Int.emod_nonneg _ (by omega), Int.emod_lt_of_pos _ hy⟩
theorem gcd_max (a b : Int) : Int.gcd (max a (-a)) b = Int.gcd a b := by
  rcases Int.le_total 0 a with h | h
  · rw [Int.max_eq_left (by omega)]
  · rw [Int.max_eq_right (by omega), Int.neg_gcd]
theorem rep_map {α : Type} (x : α) (n : Nat) : List.replicate n x = (List.range n).map fun _ => x := by
  rw [List.map_const', List.length_range]
/-! ### the place of the first one, or -1 -/
def idxF (p : Nat → Prop) [DecidablePred p] (n : Nat) : Int := if first p n < n then (first p n : Int) else -1
theorem idxF_yes {p : Nat → Prop} [DecidablePred p] {n k : Nat} (hk : k < n) (h : ∀ j, j < k → ¬ p j) (hp : p k) : idxF p n = (k : Int) := by
  have := first_eq hk h hp
  rw [idxF, if_pos (by omega), this]
theorem idxF_no {p : Nat → Prop} [DecidablePred p] {n : Nat} (h : ∀ j, j < n → ¬ p j) : idxF p n = -1 := by
  have := first_no h
  rw [idxF, if_neg (by omega)]
theorem idxF_neg {p : Nat → Prop} [DecidablePred p] {n : Nat} (h : idxF p n < 0) : ∀ j, j < n → ¬ p j := by
  rcases first_cases p n with h1 | h1
  · exact h1.2
  · rw [idxF, if_pos h1.1] at h; omega
theorem idxF_nn (p : Nat → Prop) [DecidablePred p] (n : Nat) : 0 ≤ idxF p n ↔ ¬ ∀ i, i < n → ¬ p i := by
  rcases first_cases p n with h1 | h1
  · rw [idxF_no h1.2]; exact ⟨fun h => absurd h (by omega), fun h => absurd h1.2 h⟩
  · rw [idxF, if_pos h1.1]; exact ⟨fun _ h => h _ h1.1 h1.2.1, fun _ => by omega⟩
theorem idxF_first {p : Nat → Prop} [DecidablePred p] {n : Nat} (h : 0 ≤ idxF p n) : idxF p n = (first p n : Int) ∧ first p n < n := by
  rcases first_cases p n with h1 | h1
  · rw [idxF_no h1.2] at h; omega
  · rw [idxF, if_pos h1.1]; exact ⟨rfl, h1.1⟩
end Go.Proofs.C2
