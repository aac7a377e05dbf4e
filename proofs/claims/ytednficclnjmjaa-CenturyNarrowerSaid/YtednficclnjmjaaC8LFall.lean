/- Century: two values prove a fall; the least rising levels; in plain Lean. -/
import Derived.Test.YtednficclnjmjaaC8Lin
namespace Go.Proofs.C8
open Go Go.Kx

/-! ### a pass that changes nothing -/
/-- what holds at a value when a step changes nothing -/
def fixAt (s : Ser) (k : Nat) (st : MS) : Prop := (0 < k → gt st.1 (k - 1) ≤ gt st.1 k ∧ gt st.2 (k - 1) - (bt s.Shifts (gt s.Values (k - 1)).Time (gt s.Values k).Time).Hi ≤ gt st.2 k ∧ gt st.2 k + (bt s.Shifts (gt s.Values (k - 1)).Time (gt s.Values k).Time).Lo ≤ gt st.2 (k - 1)) ∧
  gt st.2 k + (gt s.Values k).Levels.Lo ≤ gt st.1 k ∧ gt st.1 k - (gt s.Values k).Levels.Hi ≤ gt st.2 k
/-! ### solutions -/
/-- levels that rise, with shifts that agree, as the passes see them -/
structure Sol (s : Ser) (e u : Nat → Int) : Prop where
  lo : ∀ i, i < s.Values.length → u i + (gt s.Values i).Levels.Lo ≤ e i
  hi : ∀ i, i < s.Values.length → e i - (gt s.Values i).Levels.Hi ≤ u i
  up : ∀ i, i < s.Values.length → 0 < i → e (i - 1) ≤ e i
  x1 : ∀ i, i < s.Values.length → 0 < i → u (i - 1) - (bt s.Shifts (gt s.Values (i - 1)).Time (gt s.Values i).Time).Hi ≤ u i
  x2 : ∀ i, i < s.Values.length → 0 < i → u i + (bt s.Shifts (gt s.Values (i - 1)).Time (gt s.Values i).Time).Lo ≤ u (i - 1)
  mo : ∀ i, i < s.Values.length → u i ≤ mMost s i
  st : ∀ i, i < s.Values.length → - (bt s.Shifts (-1) (gt s.Values i).Time).Hi ≤ u i
def belowS (s : Ser) (st : MS) (e u : Nat → Int) : Prop := st.1.length = s.Values.length ∧ st.2.length = s.Values.length ∧ ∀ i, i < s.Values.length → gt st.1 i ≤ e i ∧ gt st.2 i ≤ u i
/-! ### falls -/
theorem fall_cases {s : Ser} (h : Ok s) : (∃ i k, i < k ∧ k < s.Values.length ∧ (gap s k i).Hi < 0 ∧ fallR s = ([(gt s.Values i).Time, (gt s.Values k).Time], 0)) ∨ ((∀ i k, i < k → k < s.Values.length → 0 ≤ (gap s k i).Hi) ∧ fallR s = ([], 3)) := by
  have row : ∀ i, i < s.Values.length → (fallK s i = s.Values.length ∧ ∀ k, i < k → k < s.Values.length → 0 ≤ (gap s k i).Hi) ∨ (fallK s i < s.Values.length ∧ i < fallK s i ∧ (gap s (fallK s i) i).Hi < 0) := fun i hi => by
    unfold fallK
    rcases first_cases (fallP s i) (s.Values.length - (i + 1)) with ⟨h1, h2⟩ | ⟨h1, h2, _⟩
    · left
      rw [h1]
      refine ⟨by omega, fun k hik hk => ?_⟩
      have := h2 (k - (i + 1)) (by omega)
      unfold fallP at this
      rw [show i + 1 + (k - (i + 1)) = k by omega] at this
      omega
    · exact .inr ⟨by omega, by omega, h2⟩
  rcases first_cases (fun i => fallK s i < s.Values.length) s.Values.length with ⟨h1, h2⟩ | ⟨h1, h2, _⟩
  · right
    refine ⟨fun i k hik hk => ?_, by unfold fallR fallI; rw [if_neg (by rw [h.e]; omega), h1, if_neg (by omega)]⟩
    rcases row i (by omega) with ⟨_, h3⟩ | ⟨h3, _⟩
    · exact h3 k hik hk
    · exact absurd h3 (h2 i (by omega))
  · left
    rcases row _ h1 with ⟨h3, _⟩ | ⟨h3, h4, h5⟩
    · omega
    · exact ⟨_, _, h4, h3, h5, by unfold fallR fallI; rw [if_neg (by rw [h.e]; omega), if_pos h1]⟩
/-- the greatest least level so far, with the least shifts -/
def bestE (s : Ser) : Nat → Int
  | 0 => (gt s.Values 0).Levels.Lo - (bt s.Shifts (-1) (gt s.Values 0).Time).Lo
  | k + 1 => max (bestE s k) ((gt s.Values (k + 1)).Levels.Lo - (bt s.Shifts (-1) (gt s.Values (k + 1)).Time).Lo)
theorem rises_le {l : List Int} (h : risesP l) {i : Nat} : ∀ {k : Nat}, i ≤ k → k < l.length → gt l i ≤ gt l k
  | 0, h1, _ => by obtain rfl : i = 0 := by omega
                   exact Int.le_refl _
  | k + 1, h1, hk => by
    rcases Nat.lt_or_ge i (k + 1) with h2 | h2
    · have h3 := rises_le h (i := i) (k := k) (by omega) (by omega)
      have h4 := h (k + 1) hk (by omega)
      rw [Nat.add_sub_cancel] at h4; omega
    · obtain rfl : i = k + 1 := by omega
      exact Int.le_refl _
/-- the mean at one time -/
theorem mean_one {s : Ser} (h : Ok s) {l : List Int} (hl : l.length = s.Values.length) {i : Nat} (hi : i < s.Values.length) : (meanR s l ⟨(gt s.Values i).Time, (gt s.Values i).Time⟩).1.Num = gt l i ∧ (meanR s l ⟨(gt s.Values i).Time, (gt s.Values i).Time⟩).1.Den = 1 := by
  have key : ∀ j, j < s.Values.length → (inT ⟨(gt s.Values i).Time, (gt s.Values i).Time⟩ (gt s.Values j).Time ↔ j = i) := fun j hj => by
    unfold inT
    dsimp only
    constructor
    · intro he
      rcases Nat.lt_trichotomy j i with h1 | h1 | h1
      · have := h.mono hi h1; omega
      · exact h1
      · have := h.mono hj h1; omega
    · intro he; subst he; omega
  have hc : mnC s l = s.Values.length := by unfold mnC; omega
  unfold meanR
  dsimp only
  rw [hc]
  constructor
  · unfold mnN
    rw [sumN_congr (g := fun j => if j = i then gt l j else 0) (fun j hj => by
      by_cases hji : j = i
      · rw [if_pos hji, if_pos ((key j hj).2 hji)]
      · rw [if_neg hji, if_neg (fun hh => hji ((key j hj).1 hh))]), sumN_one hi]
  · have hd : ∀ n, n ≤ s.Values.length → mnD s ⟨(gt s.Values i).Time, (gt s.Values i).Time⟩ n = sumN (fun j => if j = i then 1 else 0) n := by
      intro n
      induction n with
      | zero => intro _; rfl
      | succ n ih =>
        intro hn
        simp only [mnD, sumN]
        rw [ih (by omega)]
        congr 1
        by_cases hji : n = i
        · rw [if_pos hji, if_pos ((key n (by omega)).2 hji)]
        · rw [if_neg hji, if_neg (fun hh => hji ((key n (by omega)).1 hh))]
    rw [hd _ (Nat.le_refl _), sumN_one (g := fun _ => 1) hi]
/-- what surely falls falls -/
theorem fall_real {s : Ser} (h : Ok s) (h0 : (fallR s).2 = 0) : (fallR s).1.length = 2 ∧ gt (fallR s).1 0 < gt (fallR s).1 1 ∧ ∀ lv sh, agreeP s lv sh →
    (meanR s (evenL s lv sh) ⟨gt (fallR s).1 0, gt (fallR s).1 0⟩).1.Den = 1 ∧ (meanR s (evenL s lv sh) ⟨gt (fallR s).1 1, gt (fallR s).1 1⟩).1.Den = 1 ∧
    (meanR s (evenL s lv sh) ⟨gt (fallR s).1 1, gt (fallR s).1 1⟩).1.Num < (meanR s (evenL s lv sh) ⟨gt (fallR s).1 0, gt (fallR s).1 0⟩).1.Num ∧ ¬ risesP (evenL s lv sh) := by
  rcases fall_cases h with ⟨i, k, h1, h2, h3, h4⟩ | ⟨_, h4⟩
  · rw [h4]
    have g0 : gt [(gt s.Values i).Time, (gt s.Values k).Time] 0 = (gt s.Values i).Time := rfl
    have g1 : gt [(gt s.Values i).Time, (gt s.Values k).Time] 1 = (gt s.Values k).Time := rfl
    dsimp only
    rw [g0, g1]
    refine ⟨rfl, h.mono h2 h1, fun lv sh ha => ?_⟩
    have m1 := mean_one h (evenL_len s lv sh) (i := i) (by omega)
    have m2 := mean_one h (evenL_len s lv sh) (i := k) h2
    have hg := gap_in ha (i := k) (k := i) h2 (by omega)
    rw [m1.1, m1.2, m2.1, m2.2, evenL_at (i := i) (by omega), evenL_at (i := k) h2]
    refine ⟨rfl, rfl, by omega, fun hr => ?_⟩
    have := rises_le hr (i := i) (k := k) (by omega) (by rw [evenL_len]; exact h2)
    rw [evenL_at (by omega), evenL_at h2] at this
    omega
  · rw [h4] at h0; cases h0
end Go.Proofs.C8
