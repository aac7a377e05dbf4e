import Derived.Test.YtmnipmbgdbdjeaaC2LH
/- Clocks: marks picked and left out; in plain Lean. -/
namespace Go.Proofs.C2
open Go Go.Kx

def woN (m : List Mark) (l : List Int) : Nat → List Mark
  | 0 => []
  | n + 1 => if (n : Int) ∈ l then woN m l n else woN m l n ++ [gt m n]
theorem woN_yes {m : List Mark} {l : List Int} {n : Nat} (h : ¬ (n : Int) ∈ l) : woN m l n ++ [gt m n] = woN m l (n + 1) := by rw [woN, if_neg h]
theorem woN_no {m : List Mark} {l : List Int} {n : Nat} (h : (n : Int) ∈ l) : woN m l n = woN m l (n + 1) := by rw [woN, if_pos h]
theorem woN_len (m : List Mark) (l : List Int) : ∀ n, (woN m l n).length ≤ n
  | 0 => Nat.le_refl _
  | n + 1 => by have := woN_len m l n; rw [woN]; split <;> simp <;> omega
theorem mem_wo {m : List Mark} {l : List Int} {x : Mark} : ∀ {n : Nat}, x ∈ woN m l n ↔ ∃ i, i < n ∧ ¬ ((i : Nat) : Int) ∈ l ∧ x = gt m i
  | 0 => by simp [woN]
  | n + 1 => by
    have ih := mem_wo (m := m) (l := l) (x := x) (n := n)
    rw [woN]; split
    · rename_i h
      rw [ih]
      exact ⟨fun ⟨i, h1, h2⟩ => ⟨i, by omega, h2⟩, fun ⟨i, h1, h2, h3⟩ => ⟨i, by rcases Nat.lt_succ_iff_lt_or_eq.1 h1 with h4 | h4; exact h4; subst h4; exact absurd h h2, h2, h3⟩⟩
    · rename_i h
      rw [List.mem_append, ih]
      constructor
      · rintro (⟨i, h1, h2⟩ | h1)
        · exact ⟨i, by omega, h2⟩
        · exact ⟨n, by omega, h, List.mem_singleton.1 h1⟩
      · rintro ⟨i, h1, h2, h3⟩
        rcases Nat.lt_succ_iff_lt_or_eq.1 h1 with h4 | h4
        · exact .inl ⟨i, h4, h2, h3⟩
        · subst h4; exact .inr (List.mem_singleton.2 h3)
def inM (m : List Mark) (v : Int) : Prop := 0 ≤ v ∧ v < (m.length : Int)
instance (m : List Mark) (v : Int) : Decidable (inM m v) := by unfold inM; exact inferInstance
def pickN (m : List Mark) (l : List Int) : Nat → List Mark
  | 0 => []
  | n + 1 => if inM m (gt l n) then pickN m l n ++ [gt m (gt l n).toNat] else pickN m l n
theorem pickN_yes {m : List Mark} {l : List Int} {n : Nat} (h : inM m (gt l n)) : pickN m l n ++ [gt m (gt l n).toNat] = pickN m l (n + 1) := by rw [pickN, if_pos h]
theorem pickN_no {m : List Mark} {l : List Int} {n : Nat} (h : ¬ inM m (gt l n)) : pickN m l n = pickN m l (n + 1) := by rw [pickN, if_neg h]
theorem pickN_len (m : List Mark) (l : List Int) : ∀ n, (pickN m l n).length ≤ n
  | 0 => Nat.le_refl _
  | n + 1 => by have := pickN_len m l n; rw [pickN]; split <;> simp <;> omega
theorem mem_pick {m : List Mark} {l : List Int} {x : Mark} : ∀ {n : Nat}, x ∈ pickN m l n ↔ ∃ i, i < n ∧ inM m (gt l i) ∧ x = gt m (gt l i).toNat
  | 0 => by simp [pickN]
  | n + 1 => by
    have ih := mem_pick (m := m) (l := l) (x := x) (n := n)
    rw [pickN]; split
    · rename_i h
      rw [List.mem_append, ih]
      constructor
      · rintro (⟨i, h1, h2⟩ | h1)
        · exact ⟨i, by omega, h2⟩
        · exact ⟨n, by omega, h, List.mem_singleton.1 h1⟩
      · rintro ⟨i, h1, h2, h3⟩
        rcases Nat.lt_succ_iff_lt_or_eq.1 h1 with h4 | h4
        · exact .inl ⟨i, h4, h2, h3⟩
        · subst h4; exact .inr (List.mem_singleton.2 h3)
    · rename_i h
      rw [ih]
      exact ⟨fun ⟨i, h1, h2⟩ => ⟨i, by omega, h2⟩, fun ⟨i, h1, h2, h3⟩ => ⟨i, by rcases Nat.lt_succ_iff_lt_or_eq.1 h1 with h4 | h4; exact h4; subst h4; exact absurd h2 h, h2, h3⟩⟩
theorem mem_pick2 {m : List Mark} {l : List Int} {x : Mark} : x ∈ pickN m l l.length ↔ ∃ i, i < m.length ∧ ((i : Nat) : Int) ∈ l ∧ x = gt m i := by
  rw [mem_pick]
  constructor
  · rintro ⟨i, h1, h2, h3⟩
    have h2' := h2
    unfold inM at h2'
    exact ⟨(gt l i).toNat, by omega, by rw [show (((gt l i).toNat : Nat) : Int) = gt l i by omega]; exact gt_mem h1, h3⟩
  · rintro ⟨i, h1, h2, h3⟩
    obtain ⟨j, hj, he⟩ := mem_gt h2
    exact ⟨j, hj, by unfold inM; rw [he]; omega, by rw [he]; exact h3⟩
/-! ### a clock backwards -/
def turnC (x : Clk) : Clk := ⟨turnD x.D, turnM x.D x.M⟩
theorem map_succ2 {α : Type} (f : Nat → α) (k : Nat) : (List.range k).map f ++ [f k] = (List.range (k + 1)).map f := by rw [List.range_succ, List.map_append]; rfl
end Go.Proofs.C2
