import Derived.Test.YtmnipmbgdbdjeaaC2LG
import Derived.Test.YtmnipmbgdbdjeaaC2LF
/- Clocks: what the statements lean on, second part; in plain Lean. -/
namespace Go.Proofs.C2
open Go Go.Kx

theorem arg_one {d : Drum} {c : Int} : argP d [c] [] ↔ 0 ≤ c ∧ c ≤ (d.Rates.length : Int) := by
  constructor
  · intro h; exact Decidable.of_not_not (h.1 0 (by simp))
  · intro h; exact ⟨fun i hi => by obtain rfl : i = 0 := by simpa using hi
                                   exact fun hn => hn h, fun i hi => absurd hi (Nat.not_lt_zero _)⟩
theorem arg_two {d : Drum} {a b : Int} : argP d [a, b] [] ↔ (0 ≤ a ∧ a ≤ (d.Rates.length : Int)) ∧ 0 ≤ b ∧ b ≤ (d.Rates.length : Int) := by
  constructor
  · intro h; exact ⟨Decidable.of_not_not (h.1 0 (by simp)), Decidable.of_not_not (h.1 1 (by simp))⟩
  · intro h
    refine ⟨fun i hi => ?_, fun i hi => absurd hi (Nat.not_lt_zero _)⟩
    rcases (show i = 0 ∨ i = 1 by simp at hi; omega) with rfl | rfl
    · exact fun hn => hn h.1
    · exact fun hn => hn h.2
theorem open_iff {d : Drum} {m : List Mark} {cs ts : List Int} : openE d m cs ts = 0 ↔ Ok d m ∧ argP d cs ts ∧ okD d m := ⟨openE_zero, fun h => openE_ok h.1.e h.2.1 h.2.2⟩
theorem span_iff {d : Drum} {m : List Mark} {a : Int} : (spanR d m a).2 = 0 ↔ Ok d m ∧ (0 ≤ a ∧ a ≤ (d.Rates.length : Int)) ∧ okD d m := by
  rw [← arg_one, ← open_iff]
  by_cases h : openE d m [a] [] = 0
  · rw [spanR_ok h]; exact ⟨fun _ => h, fun _ => rfl⟩
  · rw [spanR_bad h]
theorem span_val {d : Drum} {m : List Mark} {a : Int} (h : (spanR d m a).2 = 0) : (spanR d m a).1 = stD d m a.toNat := by
  have h1 := span_iff.1 h
  rw [spanR_ok (open_iff.2 ⟨h1.1, arg_one.2 h1.2.1, h1.2.2⟩)]
  exact setD_at (by omega)
theorem span_bd {d : Drum} {m : List Mark} {a : Int} (h : (spanR d m a).2 = 0) : (0 ≤ (spanR d m a).1.Lo ∧ (spanR d m a).1.Lo ≤ (spanR d m a).1.Hi) ∧ (spanR d m a).1.Hi ≤ 400 := by
  have h1 := span_iff.1 h
  rw [span_val h]; exact stD_bd h1.1 h1.2.2 (by omega)
theorem feas_iff {d : Drum} {m : List Mark} : ((feasR d m).2 = 0 ∧ (feasR d m).1 = true) ↔ Ok d m ∧ okD d m := ⟨fun h => feas_yes h.1 h.2, fun h => ⟨(feas_of h.1).1, (feas_of h.1).2.2 h.2⟩⟩
theorem can_iff {x : Clk} {p : List Mark} : canR x p = true ↔ Ok x.D (x.M ++ p) ∧ okD x.D (x.M ++ p) := by
  rw [← feas_iff]; unfold canR; simp
theorem ok_app {d : Drum} {m p : List Mark} (h : Ok d m) (hp : ∀ y, y ∈ p → (0 ≤ y.Column ∧ y.Column ≤ (d.Rates.length : Int)) ∧ spOk y.Ticks 0 400) (hl : m.length + p.length ≤ 64) : Ok d (m ++ p) := by
  refine ⟨h.dr, by rw [List.length_append]; exact hl, fun j hj hb => ?_⟩
  have hx := gt_mem hj
  rcases List.mem_append.1 hx with h1 | h1
  · obtain ⟨i, hi, he⟩ := mem_gt h1
    exact h.ma i hi (by unfold markB at hb ⊢; rw [he]; exact hb)
  · exact hb (hp _ h1)
/-! ### ticks -/
/-! ### stops -/
theorem bet_iff0 {d : Drum} {m : List Mark} {a b : Int} : (betR d m a b).2 = 0 ↔ Ok d m ∧ ((0 ≤ a ∧ a ≤ (d.Rates.length : Int)) ∧ 0 ≤ b ∧ b ≤ (d.Rates.length : Int)) ∧ okD d m := by
  rw [← arg_two, ← open_iff]
  by_cases h : openE d m [a, b] [] = 0
  · rw [betR_ok h]; exact ⟨fun _ => h, fun _ => rfl⟩
  · rw [betR_bad h]
theorem bet_val {d : Drum} {m : List Mark} {a b : Int} (h : (betR d m a b).2 = 0) : (betR d m a b).1 = ⟨- mosD d m b.toNat a.toNat, mosD d m a.toNat b.toNat⟩ := by
  have h1 := bet_iff0.1 h
  rw [betR_ok (open_iff.2 ⟨h1.1, arg_two.2 h1.2.1, h1.2.2⟩), betS_val]
/-! ### two marks at a time -/
def agrP (d : Drum) (a b : Mark) : Prop := (agrR d a b).2 = 0 ∧ (agrR d a b).1 = true
instance (d : Drum) (a b : Mark) : Decidable (agrP d a b) := by unfold agrP; exact inferInstance
def nonP (d : Drum) : Prop := (feasR d []).2 = 0 ∧ (feasR d []).1 = true
instance (d : Drum) : Decidable (nonP d) := by unfold nonP; exact inferInstance
def twoP (x : Clk) : Prop := nonP x.D ∧ ∀ i, i < x.M.length → ∀ k, k < i + 1 → agrP x.D (gt x.M i) (gt x.M k)
instance (x : Clk) : Decidable (twoP x) := by unfold twoP; exact inferInstance
end Go.Proofs.C2
