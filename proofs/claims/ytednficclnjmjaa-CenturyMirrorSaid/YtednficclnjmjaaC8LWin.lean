/- Century: windows: what lies within them, and how they look backwards and upside down; in plain Lean. -/
import Derived.Test.YtednficclnjmjaaC8LBreak
namespace Go.Proofs.C8
open Go Go.Kx

/-! ### numbers within a window -/
/-! ### upside down -/
def mirS (c : Int) (x : Span) : Span := ⟨c - x.Hi, c - x.Lo⟩
theorem lastAt_mir {w w' : Win} (c most : Int) (n : Nat) (h1 : ∀ i, i < n → gt w'.levels i = mirS c (gt w.levels i)) (h2 : ∀ i, i + 1 < n → gt w'.shifts i = mirS 0 (gt w.shifts i)) : ∀ i, i < n → lastAt w' most i = mirS (c - most) (lastAt w most i)
  | 0, hi => by simp only [lastAt]; rw [h1 0 hi]; simp only [mirS, Span.mk.injEq]; omega
  | i + 1, hi => by
    have h3 := lastAt_mir c most n h1 h2 i (by omega)
    simp only [lastAt]
    rw [h1 _ hi, h2 i hi, h3]
    simp only [mirS, Span.mk.injEq]
    omega
theorem lastR_mir {w w' : Win} (c most : Int) (hl : w'.levels.length = w.levels.length) (h0 : 0 < w.levels.length) (h1 : ∀ i, i < w.levels.length → gt w'.levels i = mirS c (gt w.levels i)) (h2 : ∀ i, i + 1 < w.levels.length → gt w'.shifts i = mirS 0 (gt w.shifts i)) :
    lastR w' most = (mirS (c - most) (lastR w most).1, (lastR w most).2) := by
  have h3 := lastAt_mir c most _ h1 h2
  have hb : ∀ j, j < w.levels.length → (lastBad w' most j ↔ lastBad w most j) := fun j hj => by
    unfold lastBad
    rw [h3 j hj]
    simp only [mirS]
    omega
  rcases first_cases (lastBad w most) w.levels.length with ⟨_, h5⟩ | ⟨h4, h5, h6⟩
  · rw [lastR_ok h5, lastR_ok (fun j hj hn => h5 j (by omega) ((hb j (by omega)).1 hn)), lastO, lastO, hl, if_neg (by omega), if_neg (by omega), h3 _ (by omega)]
  · rw [lastR_bad h4 h6 h5, lastR_bad (k := first (lastBad w most) w.levels.length) (by omega) (fun j hj hn => h6 j hj ((hb j (by omega)).1 hn)) ((hb _ h4).2 h5), h3 _ h4]

/-! ### lists that rise -/
def incL (A : List Int) : Prop := ∀ i j, i < j → j < A.length → gt A i < gt A j
/-! ### common times, either way round -/
end Go.Proofs.C8
