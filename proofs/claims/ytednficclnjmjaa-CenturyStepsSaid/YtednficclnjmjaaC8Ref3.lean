import Derived.Test.YtednficclnjmjaaC8LNar
/- Century: what the reference computes: falls, steps, breaks. -/
namespace Go.Proofs.C8
open Go Go.Kx

/-- the span of all that is known of a part's last value, by its index -/
def runK (s : Ser) (most : Int) (a : Nat) : Nat → Span
  | 0 => ⟨(gt s.Values a).Levels.Lo - most, (gt s.Values a).Levels.Hi⟩
  | k + 1 => if k + 1 ≤ a then ⟨(gt s.Values a).Levels.Lo - most, (gt s.Values a).Levels.Hi⟩ else
    ⟨max ((runK s most a k).Lo + (bt s.Shifts (gt s.Values k).Time (gt s.Values (k + 1)).Time).Lo) ((gt s.Values (k + 1)).Levels.Lo - most), min ((runK s most a k).Hi + (bt s.Shifts (gt s.Values k).Time (gt s.Values (k + 1)).Time).Hi) (gt s.Values (k + 1)).Levels.Hi⟩
theorem runK_start (s : Ser) (most : Int) (a : Nat) : runK s most a a = ⟨(gt s.Values a).Levels.Lo - most, (gt s.Values a).Levels.Hi⟩ := by
  cases a with
  | zero => rfl
  | succ a => rw [runK, if_pos (Nat.le_refl _)]
theorem runK_step {s : Ser} {most : Int} {a k : Nat} (h : a < k) : runK s most a k = ⟨max ((runK s most a (k - 1)).Lo + (bt s.Shifts (gt s.Values (k - 1)).Time (gt s.Values k).Time).Lo) ((gt s.Values k).Levels.Lo - most),
    min ((runK s most a (k - 1)).Hi + (bt s.Shifts (gt s.Values (k - 1)).Time (gt s.Values k).Time).Hi) (gt s.Values k).Levels.Hi⟩ := by
  obtain ⟨j, rfl⟩ : ∃ j, k = j + 1 := ⟨k - 1, by omega⟩
  rw [runK, if_neg (by omega), Nat.add_sub_cancel]
def runBad (s : Ser) (most : Int) (a k : Nat) : Prop := (runK s most a k).Hi < (runK s most a k).Lo
theorem run_last (s : Ser) (most : Int) {a b : Nat} : ∀ i : Nat, a + i ≤ b → lastAt (winOf s a b) most i = runK s most a (a + i)
  | 0, h => by
    rw [Nat.add_zero, runK_start, lastAt, win_at s h, Nat.add_zero]
  | i + 1, h => by
    rw [lastAt, run_last s most i (by omega), win_at s h, win_xt s (by omega), runK_step (k := a + (i + 1)) (by omega), show a + (i + 1) - 1 = a + i by omega, show a + i + 1 = a + (i + 1) by omega, Int.max_comm, Int.min_comm]
theorem run_good {s : Ser} {most : Int} {a b : Nat} (hab : a < b) : goodW s most a b ↔ ∀ j, a < j → j ≤ b → ¬ runBad s most a j := by
  unfold goodW
  rw [last_true, win_len]
  constructor
  · intro h j h1 h2 hb
    refine h (j - a) (by omega) ⟨by omega, ?_⟩
    rw [run_last s most (j - a) (by omega), show a + (j - a) = j by omega]
    exact hb
  · intro h j h1 hb
    unfold lastBad at hb
    rw [run_last s most j (by omega)] at hb
    exact h (a + j) (by omega) (by omega) hb.2
theorem run_nxt {s : Ser} {most : Int} {a k : Nat} (hak : a < k) (hk : k ≤ s.Values.length) (h : ∀ j, a < j → j < k → ¬ runBad s most a j) (hb : k < s.Values.length → runBad s most a k) : nxt s most a = k := by
  obtain ⟨h1, h2, h3⟩ := nxt_good (s := s) (most := most) (a := a) (by omega)
  rcases Nat.lt_trichotomy (nxt s most a) k with h4 | h4 | h4
  · exact absurd ((run_good h1.1).2 fun j hj1 hj2 => h j hj1 (by omega)) (h3 (by omega))
  · exact h4
  · exact absurd (hb (by omega)) ((run_good hak).1 (h2 k hak h4) k hak (Nat.le_refl _))
theorem run_bd {s : Ser} (hs : Ok s) {most : Int} (hm : 0 ≤ most ∧ most ≤ 24000) {a k : Nat} (hak : a < k) (hk : k ≤ s.Values.length) (h : ∀ j, a < j → j < k → ¬ runBad s most a j) :
    -24000 ≤ (runK s most a (k - 1)).Lo ∧ (runK s most a (k - 1)).Lo ≤ (runK s most a (k - 1)).Hi ∧ (runK s most a (k - 1)).Hi ≤ 24000 := by
  have hv := hs.vl (i := k - 1) (by omega)
  rcases Nat.lt_or_ge a (k - 1) with h1 | h1
  · have h2 := h (k - 1) h1 (by omega)
    have h3 := runK_step (s := s) (most := most) h1
    unfold runBad at h2
    have h4 := congrArg Span.Lo h3
    have h5 := congrArg Span.Hi h3
    dsimp only at h4 h5
    omega
  · obtain rfl : a = k - 1 := by omega
    rw [runK_start]
    dsimp only
    omega
theorem nxt_bd {s : Ser} {most : Int} {a : Nat} (ha : a < s.Values.length) : a < nxt s most a ∧ nxt s most a ≤ s.Values.length := (nxt_good ha).1
theorem stp_more {s : Ser} {most : Int} {a : Nat} (ha : a < s.Values.length) (h : nxt s most a < s.Values.length) : stpF s most (s.Values.length - a) a = (gt s.Values (nxt s most a)).Time :: stpF s most (s.Values.length - nxt s most a) (nxt s most a) := by
  obtain ⟨g, hg⟩ : ∃ g, s.Values.length - a = g + 1 := ⟨s.Values.length - a - 1, by omega⟩
  have hb := nxt_bd (most := most) ha
  rw [hg, stpF, if_pos h, stpF_fuel s most g _ (by omega)]
theorem stp_end {s : Ser} {most : Int} {a : Nat} (ha : a < s.Values.length) (h : ¬ nxt s most a < s.Values.length) : stpF s most (s.Values.length - a) a = [] := by
  obtain ⟨g, hg⟩ : ∃ g, s.Values.length - a = g + 1 := ⟨s.Values.length - a - 1, by omega⟩
  rw [hg, stpF, if_neg h]
end Go.Proofs.C8
