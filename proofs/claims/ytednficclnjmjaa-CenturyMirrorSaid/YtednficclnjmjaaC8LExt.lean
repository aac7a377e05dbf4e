/- Century: extremes and ranks, whoever found the levels, in plain Lean. -/
import Derived.Test.YtednficclnjmjaaC8Lin
namespace Go.Proofs.C8
open Go Go.Kx

theorem extR_zero {s : Ser} {x : Span} (h : (extR s x).2.2 = 0) : Ok s ∧ spOk x 0 10000 ∧ (extN s x s.Values.length).2.2 = true ∧ extR s x = ((extN s x s.Values.length).1, (extN s x s.Values.length).2.1, 0) := by
  unfold extR at h ⊢
  by_cases h1 : chkE s ≠ 0
  · rw [if_pos h1] at h; exact absurd h h1
  · rw [if_neg h1] at h ⊢
    by_cases h2 : ¬ spOk x 0 10000
    · rw [if_pos h2] at h; cases h
    · rw [if_neg h2] at h ⊢
      cases hf : (extN s x s.Values.length).2.2 with
      | false => rw [hf] at h; simp at h
      | true => exact ⟨Ok.of (by omega), by simpa using h2, rfl, by simp⟩
theorem extR_bad {s : Ser} {x : Span} (h : (extR s x).2.2 ≠ 0) : (extR s x).1 = ⟨0, 0⟩ ∧ (extR s x).2.1 = ⟨0, 0⟩ := by
  unfold extR at h ⊢
  by_cases h1 : chkE s ≠ 0
  · rw [if_pos h1]; exact ⟨rfl, rfl⟩
  · rw [if_neg h1] at h ⊢
    by_cases h2 : ¬ spOk x 0 10000
    · rw [if_pos h2]; exact ⟨rfl, rfl⟩
    · rw [if_neg h2] at h ⊢
      cases hf : (extN s x s.Values.length).2.2 with
      | false => simp
      | true => rw [hf] at h; exact absurd rfl h
/-! ### ranks -/
end Go.Proofs.C8
