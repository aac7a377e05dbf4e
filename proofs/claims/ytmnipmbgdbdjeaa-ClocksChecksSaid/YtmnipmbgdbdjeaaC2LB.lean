import Derived.Test.YtmnipmbgdbdjeaaC2LA
/- Clocks: contradictions and drops, in plain Lean. -/
namespace Go.Proofs.C2
open Go Go.Kx

theorem mem_sngl {d : Drum} {m : List Mark} {p : List Int} : ∀ {n : Nat}, p ∈ snglN d m n ↔ ∃ k, k < n ∧ ¬ okD d [gt m k] ∧ p = [(k : Int)]
  | 0 => by simp [snglN]
  | n + 1 => by
    have ih := mem_sngl (d := d) (m := m) (p := p) (n := n)
    rw [snglN]; split
    · rename_i h
      rw [ih]
      exact ⟨fun ⟨k, h1, h2, h3⟩ => ⟨k, by omega, h2, h3⟩, fun ⟨k, h1, h2, h3⟩ => ⟨k, by rcases Nat.lt_succ_iff_lt_or_eq.1 h1 with h4 | h4; exact h4; subst h4; exact absurd h h2, h2, h3⟩⟩
    · rename_i h
      rw [List.mem_append, ih, List.mem_singleton]
      constructor
      · rintro (⟨k, h1, h2, h3⟩ | h1)
        · exact ⟨k, by omega, h2, h3⟩
        · exact ⟨n, by omega, h, h1⟩
      · rintro ⟨k, h1, h2, h3⟩
        rcases Nat.lt_succ_iff_lt_or_eq.1 h1 with h4 | h4
        · exact .inl ⟨k, h4, h2, h3⟩
        · subst h4; exact .inr h3
theorem mem_row {d : Drum} {m : List Mark} {i : Nat} {p : List Int} : ∀ {n : Nat}, p ∈ rowN d m i n ↔ ∃ k, k < n ∧ (i < k ∧ pairP d m i k) ∧ p = [(i : Int), (k : Int)]
  | 0 => by simp [rowN]
  | n + 1 => by
    have ih := mem_row (d := d) (m := m) (i := i) (p := p) (n := n)
    rw [rowN]; split
    · rename_i h
      rw [List.mem_append, ih, List.mem_singleton]
      constructor
      · rintro (⟨k, h1, h2, h3⟩ | h1)
        · exact ⟨k, by omega, h2, h3⟩
        · exact ⟨n, by omega, h, h1⟩
      · rintro ⟨k, h1, h2, h3⟩
        rcases Nat.lt_succ_iff_lt_or_eq.1 h1 with h4 | h4
        · exact .inl ⟨k, h4, h2, h3⟩
        · subst h4; exact .inr h3
    · rename_i h
      rw [ih]
      exact ⟨fun ⟨k, h1, h2, h3⟩ => ⟨k, by omega, h2, h3⟩, fun ⟨k, h1, h2, h3⟩ => ⟨k, by rcases Nat.lt_succ_iff_lt_or_eq.1 h1 with h4 | h4; exact h4; subst h4; exact absurd h2 h, h2, h3⟩⟩
theorem mem_dbl {d : Drum} {m : List Mark} {p : List Int} : ∀ {n : Nat}, p ∈ dblN d m n ↔ ∃ i k, i < n ∧ k < m.length ∧ (i < k ∧ pairP d m i k) ∧ p = [(i : Int), (k : Int)]
  | 0 => by simp [dblN]
  | n + 1 => by
    have ih := mem_dbl (d := d) (m := m) (p := p) (n := n)
    rw [dblN, List.mem_append, ih, mem_row]
    constructor
    · rintro (⟨i, k, h1, h2, h3, h4⟩ | ⟨k, h1, h2, h3⟩)
      · exact ⟨i, k, by omega, h2, h3, h4⟩
      · exact ⟨n, k, by omega, h1, h2, h3⟩
    · rintro ⟨i, k, h1, h2, h3, h4⟩
      rcases Nat.lt_succ_iff_lt_or_eq.1 h1 with h5 | h5
      · exact .inl ⟨i, k, h5, h2, h3, h4⟩
      · subst h5; exact .inr ⟨k, h2, h3, h4⟩
theorem mem_pair {d : Drum} {m : List Mark} (h0 : okD d []) {p : List Int} : p ∈ pairL d m ↔ (∃ k, k < m.length ∧ ¬ okD d [gt m k] ∧ p = [(k : Int)]) ∨ ∃ i k, i < m.length ∧ k < m.length ∧ (i < k ∧ pairP d m i k) ∧ p = [(i : Int), (k : Int)] := by
  rw [pairL, if_pos h0, List.mem_append, mem_sngl, mem_dbl]
theorem pair_none {d : Drum} {m : List Mark} (h0 : ¬ okD d []) : pairL d m = [[]] := by rw [pairL, if_neg h0]
/-- the numbers of a minimal contradiction are numbers of marks -/
theorem pair_idx {d : Drum} {m : List Mark} {p : List Int} (hp : p ∈ pairL d m) {i : Int} (hi : i ∈ p) : 0 ≤ i ∧ i < (m.length : Int) := by
  by_cases h0 : okD d []
  · rcases (mem_pair h0).1 hp with ⟨k, h1, _, rfl⟩ | ⟨a, k, h1, h2, _, rfl⟩
    · rw [List.mem_singleton.1 hi]; omega
    · simp only [List.mem_cons, List.not_mem_nil, or_false] at hi; rcases hi with rfl | rfl <;> omega
  · rw [pair_none h0] at hp; rw [List.mem_singleton.1 hp] at hi; exact absurd hi (List.not_mem_nil)
theorem pair_ne {d : Drum} {m : List Mark} (h0 : okD d []) {p : List Int} (hp : p ∈ pairL d m) : p ≠ [] := by
  rcases (mem_pair h0).1 hp with ⟨k, _, _, rfl⟩ | ⟨i, k, _, _, _, rfl⟩ <;> simp

/-! ### drops -/
theorem hit_iff {bad : List (List Int)} {l : List Int} : hitB bad l = true ↔ ∀ p, p ∈ bad → ∃ i, i ∈ p ∧ i ∈ l := by
  simp [hitB]
def subL (m : List Mark) (l : List Int) : List Mark := (List.range m.length).filterMap fun (i : Nat) => if l.contains (i : Int) then none else some (gt m i)
/-- sets in order: lists that go up, of so many numbers -/
structure Up (n : Nat) (l : List Int) (next : Nat) : Prop where
  b : ∀ i, i ∈ l → 0 ≤ i ∧ i < (next : Int)
  n : next ≤ n
theorem mem_sets (n : Nat) : ∀ (s : Nat) (l : List Int) (next : Nat) (q : List Int), q ∈ setsF n s l next → ∃ r : List Int, q = l ++ r ∧ r.length = s ∧ r.Pairwise (· < ·) ∧ ∀ i, i ∈ r → (next : Int) ≤ i ∧ i < (n : Int)
  | 0, l, next, q, h => ⟨[], by rw [setsF] at h; rw [List.mem_singleton.1 h]; simp, rfl, .nil, by simp⟩
  | s + 1, l, next, q, h => by
    rw [setsF, List.mem_flatMap] at h
    obtain ⟨j, hj, hq⟩ := h
    rw [List.mem_range] at hj
    obtain ⟨r, h1, h2, h3, h4⟩ := mem_sets n s _ _ q hq
    refine ⟨((next + j : Nat) : Int) :: r, by rw [h1]; simp, by simp [h2], .cons (fun i hi => by have := h4 i hi; omega) h3, fun i hi => ?_⟩
    rcases List.mem_cons.1 hi with rfl | hi
    · omega
    · have := h4 i hi; omega
theorem sets_mem (n : Nat) : ∀ (s : Nat) (l : List Int) (next : Nat) (r : List Int), r.length = s → r.Pairwise (· < ·) → (∀ i, i ∈ r → (next : Int) ≤ i ∧ i < (n : Int)) → l ++ r ∈ setsF n s l next
  | 0, l, next, r, h1, _, _ => by rw [List.length_eq_zero_iff.1 h1, setsF]; simp
  | s + 1, l, next, [], h1, _, _ => by simp at h1
  | s + 1, l, next, i :: r, h1, h2, h3 => by
    rw [setsF, List.mem_flatMap]
    have hi := h3 i (by simp)
    rw [List.pairwise_cons] at h2
    refine ⟨(i - next).toNat, by rw [List.mem_range]; omega, ?_⟩
    rw [show ((next + (i - next).toNat : Nat) : Int) = i by omega]
    have := sets_mem n s (l ++ [i]) (next + (i - next).toNat + 1) r (by simpa using h1) h2.2 (fun k hk => by have h4 := h2.1 k hk; have h5 := h3 k (by simp [hk]); omega)
    simpa using this
theorem sets_iff {n s : Nat} {q : List Int} : q ∈ setsF n s [] 0 ↔ q.length = s ∧ q.Pairwise (· < ·) ∧ ∀ i, i ∈ q → 0 ≤ i ∧ i < (n : Int) := by
  constructor
  · intro h
    obtain ⟨r, h1, h2, h3, h4⟩ := mem_sets n s [] 0 q h
    simp only [List.nil_append] at h1
    subst h1
    exact ⟨h2, h3, fun i hi => by have := h4 i hi; omega⟩
  · intro ⟨h1, h2, h3⟩
    have := sets_mem n s [] 0 q h1 h2 (fun i hi => by have := h3 i hi; omega)
    simpa using this
end Go.Proofs.C2
