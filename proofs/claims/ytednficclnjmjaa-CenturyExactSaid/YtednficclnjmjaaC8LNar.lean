/- Century: narrower is narrower, in plain Lean. -/
import Derived.Test.YtednficclnjmjaaC8LReal
import Derived.Test.YtednficclnjmjaaC8LFall
import Derived.Test.YtednficclnjmjaaC8Know
import Derived.Test.YtednficclnjmjaaC8LAdj
namespace Go.Proofs.C8
open Go Go.Kx

/-- a series of which more is known -/
structure Nar (t s : Ser) : Prop where
  os : Ok s
  ot : Ok t
  nv : t.Values.length = s.Values.length
  nx : t.Shifts.length = s.Shifts.length
  v : ∀ i, i < s.Values.length → (gt t.Values i).Time = (gt s.Values i).Time ∧ (gt s.Values i).Levels.Lo ≤ (gt t.Values i).Levels.Lo ∧ (gt t.Values i).Levels.Hi ≤ (gt s.Values i).Levels.Hi
  x : ∀ i, i < s.Shifts.length → (gt t.Shifts i).Time = (gt s.Shifts i).Time ∧ (gt s.Shifts i).Levels.Lo ≤ (gt t.Shifts i).Levels.Lo ∧ (gt t.Shifts i).Levels.Hi ≤ (gt s.Shifts i).Levels.Hi
theorem extR_ok1 {s : Ser} (h : Ok s) (x : Span) : extR s x = if ¬ spOk x 0 10000 then (⟨0, 0⟩, ⟨0, 0⟩, 1) else if (extN s x s.Values.length).2.2 = true then ((extN s x s.Values.length).1, (extN s x s.Values.length).2.1, 0) else (⟨0, 0⟩, ⟨0, 0⟩, 3) := by
  unfold extR; rw [if_neg (fun hn => hn h.e)]
section
variable {t s : Ser}
theorem nar_even (h : Nar t s) (lv sh : List Int) {i : Nat} (hi : i < s.Values.length) : evenAt t lv sh i = evenAt s lv sh i := by
  unfold evenAt offN
  rw [h.nx, (h.v i hi).1]
  congr 1
  exact sumN_congr fun k hk => by rw [(h.x k hk).1]
theorem nar_wtN (h : Nar t s) (x : Span) : ∀ n : Nat, n ≤ s.Values.length → wtN t x n = wtN s x n
  | 0, _ => rfl
  | n + 1, hn => by simp only [wtN]; rw [nar_wtN h x n (by omega), (h.v n (by omega)).1]
theorem nar_wtC (h : Nar t s) (x : Span) : wtC t x = wtC s x := by unfold wtC; rw [h.nv]; exact nar_wtN h x _ (Nat.le_refl _)
theorem nar_wtL (h : Nar t s) (x : Span) (c : Int) : wtL t x c = wtL s x c := by
  unfold wtL
  rw [h.nv]
  exact List.map_congr_left fun i hi => by rw [(h.v i (List.mem_range.1 hi)).1]
end
/-! ### steps -/
def goodW (s : Ser) (most : Int) (a b : Nat) : Prop := (lastR (winOf s a b) most).2 = true
theorem last_true (w : Win) (most : Int) : (lastR w most).2 = true ↔ ∀ j, j < w.levels.length → ¬ lastBad w most j := by
  rcases first_cases (lastBad w most) w.levels.length with ⟨_, h2⟩ | ⟨h1, h2, h3⟩
  · rw [lastR_ok h2]; exact ⟨fun _ => h2, fun _ => rfl⟩
  · rw [lastR_bad h1 h3 h2]; exact ⟨fun h => (by cases h), fun h => absurd h2 (h _ h1)⟩
theorem win_at (s : Ser) {a b i : Nat} (hi : a + i ≤ b) : gt (winOf s a b).levels i = (gt s.Values (a + i)).Levels := gt_map (by omega)
theorem win_xt (s : Ser) {a b i : Nat} (hi : a + i + 1 ≤ b) : gt (winOf s a b).shifts i = bt s.Shifts (gt s.Values (a + i)).Time (gt s.Values (a + i + 1)).Time := gt_map (by omega)
theorem win_len (s : Ser) (a b : Nat) : (winOf s a b).levels.length = b + 1 - a := map_len _ _
theorem nxt_good {s : Ser} {most : Int} {a : Nat} (ha : a < s.Values.length) : (a < nxt s most a ∧ nxt s most a ≤ s.Values.length) ∧ (∀ b, a < b → b < nxt s most a → goodW s most a b) ∧ (nxt s most a < s.Values.length → ¬ goodW s most a (nxt s most a)) := by
  unfold nxt
  rcases first_cases (nxtP s most a) (s.Values.length - (a + 1)) with ⟨h1, h2⟩ | ⟨h1, h2, h3⟩
  · rw [h1]
    refine ⟨by omega, fun b hb1 hb2 => ?_, fun h => by omega⟩
    have := h2 (b - (a + 1)) (by omega)
    unfold nxtP at this
    rw [show a + 1 + (b - (a + 1)) = b by omega] at this
    unfold goodW
    simpa using this
  · refine ⟨by omega, fun b hb1 hb2 => ?_, fun _ hg => ?_⟩
    · have := h3 (b - (a + 1)) (by omega)
      unfold nxtP at this
      rw [show a + 1 + (b - (a + 1)) = b by omega] at this
      unfold goodW
      simpa using this
    · unfold nxtP at h2
      unfold goodW at hg
      have h2' : (lastR (winOf s a (a + 1 + first (nxtP s most a) (s.Values.length - (a + 1)))) most).2 = false := h2
      exact absurd (hg.symm.trans h2') (by simp)
end Go.Proofs.C8
