/- Century: breaks are real, in plain Lean. -/
import Derived.Test.YtednficclnjmjaaC8Lin
namespace Go.Proofs.C8
open Go Go.Kx

theorem comN_up (s t : Ser) : ∀ (n : Nat) {i j : Nat}, i < j → j < (comN s t n).length → (gt (comN s t n) i).a < (gt (comN s t n) j).a
  | 0, i, j, _, h => by simp [comN] at h
  | n + 1, i, j, hij, h => by
    by_cases hc : 0 ≤ idxR t (gt s.Values n).Time
    · have he : comN s t (n + 1) = comN s t n ++ [⟨(n : Int), idxR t (gt s.Values n).Time⟩] := by rw [comN, if_pos hc]
      rw [he] at h ⊢
      rw [gt_snoc _ _ h, gt_snoc _ _ (by omega)]
      have hl : (comN s t n ++ [(⟨(n : Int), idxR t (gt s.Values n).Time⟩ : A2)]).length = (comN s t n).length + 1 := by simp
      rw [if_pos (show i < (comN s t n).length by omega)]
      by_cases hj : j < (comN s t n).length
      · rw [if_pos hj]; exact comN_up s t n hij hj
      · rw [if_neg hj]
        obtain ⟨i', k', h1, _, h3, _⟩ := comN_at s t n i (by omega)
        show (gt (comN s t n) i).a < (n : Int)
        omega
    · have he : comN s t (n + 1) = comN s t n := by rw [comN, if_neg hc]
      rw [he] at h ⊢
      exact comN_up s t n hij h
theorem difT_up {s t : Ser} (hs : Ok s) {i j : Nat} (hij : i < j) (hj : j < (comL s t).length) : difT s t i < difT s t j := by
  have h1 := comN_up s t s.Values.length hij hj
  have h2 := com_bd (s := s) (t := t) (n := i) (by omega)
  have h3 := com_bd (s := s) (t := t) (n := j) hj
  have h1' : (gt (comL s t) i).a < (gt (comL s t) j).a := h1
  exact hs.mono (by omega) (by omega)
end Go.Proofs.C8
