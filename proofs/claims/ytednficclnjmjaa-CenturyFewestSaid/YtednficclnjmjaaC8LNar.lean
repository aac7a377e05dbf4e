import Derived.Test.YtednficclnjmjaaC8Lin
/- Century: narrower is narrower, in plain Lean. -/
namespace Go.Proofs.C8
open Go Go.Kx

/-- a series of which more is known -/
structure Nar (t s : Ser) : Prop where
  os : Ok s
  ot : Ok t
  nv : t.Values.length = s.Values.length
  nx : t.Shifts.length = s.Shifts.length
  v : ∀ i, i < s.Values.length → (gt t.Values i).Time = (gt s.Values i).Time ∧ (gt s.Values i).Levels.Lo ≤ (gt t.Values i).Levels.Lo ∧ (gt t.Values i).Levels.Hi ≤ (gt s.Values i).Levels.Hi
  x : ∀ i, i < s.Shifts.length → (gt t.Shifts i).Time = (gt s.Shifts i).Time ∧ (gt s.Shifts i).Levels.Lo ≤ (gt t.Shifts i).Levels.Lo ∧ (gt t.Shifts i).Levels.Hi ≤ (gt s.Shifts i).Levels.Hi
section
variable {t s : Ser}
end
/-! ### steps -/
def goodW (s : Ser) (most : Int) (a b : Nat) : Prop := (lastR (winOf s a b) most).2 = true
theorem last_true (w : Win) (most : Int) : (lastR w most).2 = true ↔ ∀ j, j < w.levels.length → ¬ lastBad w most j := by
  rcases first_cases (lastBad w most) w.levels.length with ⟨_, h2⟩ | ⟨h1, h2, h3⟩
  · rw [lastR_ok h2]; exact ⟨fun _ => h2, fun _ => rfl⟩
  · rw [lastR_bad h1 h3 h2]; exact ⟨fun h => (by cases h), fun h => absurd h2 (h _ h1)⟩
theorem win_at (s : Ser) {a b i : Nat} (hi : a + i ≤ b) : gt (winOf s a b).levels i = (gt s.Values (a + i)).Levels := gt_map (by omega)
theorem win_xt (s : Ser) {a b i : Nat} (hi : a + i + 1 ≤ b) : gt (winOf s a b).shifts i = bt s.Shifts (gt s.Values (a + i)).Time (gt s.Values (a + i + 1)).Time := gt_map (by omega)
theorem win_len (s : Ser) (a b : Nat) : (winOf s a b).levels.length = b + 1 - a := map_len _ _
theorem nar_bt {t s : Ser} (h : Nar t s) (a b : Int) : (bt s.Shifts a b).Lo ≤ (bt t.Shifts a b).Lo ∧ (bt t.Shifts a b).Hi ≤ (bt s.Shifts a b).Hi := by
  unfold bt btLo btHi
  dsimp only
  rw [h.nx]
  constructor <;> refine sumN_le fun k hk => ?_ <;> have := h.x k hk <;> rw [this.1] <;> split <;> omega
theorem nar_last {t s : Ser} (h : Nar t s) {most : Int} {a d b : Nat} (hb : b < s.Values.length) : ∀ i : Nat, a + d + i ≤ b →
    (lastAt (winOf s (a + d) b) most i).Lo ≤ (lastAt (winOf t a b) most (d + i)).Lo ∧ (lastAt (winOf t a b) most (d + i)).Hi ≤ (lastAt (winOf s (a + d) b) most i).Hi
  | 0, hi => by
    have hv := h.v (a + d) (by omega)
    have e : ∀ j, j = d → (gt (winOf t a b).levels j).Lo - most ≤ (lastAt (winOf t a b) most j).Lo ∧ (lastAt (winOf t a b) most j).Hi ≤ (gt (winOf t a b).levels j).Hi := fun j _ => by
      cases j with
      | zero => simp only [lastAt]; omega
      | succ j => simp only [lastAt]; omega
    have e1 := e d rfl
    rw [win_at t (by omega)] at e1
    simp only [lastAt]
    rw [win_at s (by omega)]
    simp only [Nat.add_zero]
    omega
  | i + 1, hi => by
    have h1 := nar_last h (most := most) (a := a) (d := d) hb i (by omega)
    have hv := h.v (a + d + (i + 1)) (by omega)
    have hv0 := h.v (a + d + i) (by omega)
    have hx := nar_bt h (gt s.Values (a + d + i)).Time (gt s.Values (a + d + i + 1)).Time
    rw [show d + (i + 1) = d + i + 1 by omega]
    simp only [lastAt]
    rw [win_at s (by omega), win_at t (by omega), win_xt s (by omega), win_xt t (by omega)]
    rw [show a + (d + i + 1) = a + d + (i + 1) by omega, show a + (d + i) = a + d + i by omega, show a + d + (i + 1) = a + d + i + 1 by omega] at *
    rw [hv.1, hv0.1]
    omega
theorem nar_good {t s : Ser} (h : Nar t s) {most : Int} {a a' b : Nat} (ha : a ≤ a') (hab : a' ≤ b) (hb : b < s.Values.length) (hg : goodW t most a b) : goodW s most a' b := by
  obtain ⟨d, rfl⟩ : ∃ d, a' = a + d := ⟨a' - a, by omega⟩
  unfold goodW at hg ⊢
  rw [last_true] at hg ⊢
  intro j hj hbad
  rw [win_len] at hj
  have h1 := nar_last h (most := most) (a := a) (d := d) hb j (by omega)
  have h2 := hg (d + j) (by rw [win_len]; omega)
  unfold lastBad at h2 hbad
  omega
theorem nxt_good {s : Ser} {most : Int} {a : Nat} (ha : a < s.Values.length) : (a < nxt s most a ∧ nxt s most a ≤ s.Values.length) ∧ (∀ b, a < b → b < nxt s most a → goodW s most a b) ∧ (nxt s most a < s.Values.length → ¬ goodW s most a (nxt s most a)) := by
  unfold nxt
  rcases first_cases (nxtP s most a) (s.Values.length - (a + 1)) with ⟨h1, h2⟩ | ⟨h1, h2, h3⟩
  · rw [h1]
    refine ⟨by omega, fun b hb1 hb2 => ?_, fun h => by omega⟩
    have := h2 (b - (a + 1)) (by omega)
    unfold nxtP at this
    rw [show a + 1 + (b - (a + 1)) = b by omega] at this
    unfold goodW
    simpa using this
  · refine ⟨by omega, fun b hb1 hb2 => ?_, fun _ hg => ?_⟩
    · have := h3 (b - (a + 1)) (by omega)
      unfold nxtP at this
      rw [show a + 1 + (b - (a + 1)) = b by omega] at this
      unfold goodW
      simpa using this
    · unfold nxtP at h2
      unfold goodW at hg
      have h2' : (lastR (winOf s a (a + 1 + first (nxtP s most a) (s.Values.length - (a + 1)))) most).2 = false := h2
      exact absurd (hg.symm.trans h2') (by simp)
theorem nar_nxt {t s : Ser} (h : Nar t s) {most : Int} {a b : Nat} (hba : b ≤ a) (ha : a < s.Values.length) : nxt t most b ≤ nxt s most a := by
  have h1 := nxt_good (s := s) (most := most) ha
  have h2 := nxt_good (s := t) (most := most) (a := b) (by rw [h.nv]; omega)
  rw [h.nv] at h2
  apply Classical.byContradiction
  intro hn
  exact h1.2.2 (by omega) (nar_good h hba (by omega) (by omega) (h2.2.1 _ (by omega) (by omega)))
theorem nar_stpF {t s : Ser} (h : Nar t s) {most : Int} : ∀ (f a b : Nat), b ≤ a → a < s.Values.length → (stpF s most f a).length ≤ (stpF t most f b).length
  | 0, _, _, _, _ => Nat.le_refl _
  | f + 1, a, b, hba, ha => by
    have h1 := nar_nxt h (most := most) hba ha
    simp only [stpF]
    by_cases hn : nxt s most a < s.Values.length
    · rw [if_pos hn, if_pos (by rw [h.nv]; omega)]
      simp only [List.length_cons]
      have := nar_stpF h (most := most) f _ _ h1 hn
      omega
    · rw [if_neg hn]; simp
theorem nar_stp {t s : Ser} (h : Nar t s) (most : Int) : (stpR t most).2 = (stpR s most).2 ∧ (stpR s most).1.length ≤ (stpR t most).1.length := by
  have he : stpE t most = stpE s most := by unfold stpE; rw [h.ot.e, h.os.e]
  unfold stpR
  rw [he]
  split
  · simp
  · refine ⟨rfl, ?_⟩
    show (stpL s most).length ≤ (stpL t most).length
    unfold stpL
    rw [h.nv]
    rcases Nat.eq_zero_or_pos s.Values.length with h0 | h0
    · rw [h0]; simp [stpF]
    · exact nar_stpF h _ 0 0 (Nat.le_refl _) h0
end Go.Proofs.C8
/- Century: what the reference computes, in plain Lean: ends of sums, and that their sums are the program's. -/
namespace Go.Proofs.C8
open Go Go.Kx

/-- the reference's end of a span: with a factor of nothing the lower one -/
def endQ (x : Span) (f c : Int) : Int := if 0 ≤ f * c then x.Lo else x.Hi
def enV (s : Ser) (f : List Int) (c : Int) (i : Nat) : Int := endQ (gt s.Values i).Levels (gt f i) c
def enX (s : Ser) (f : List Int) (c : Int) (k : Nat) : Int := endQ (gt s.Shifts k).Levels (sumX s f k) c
def enVL (s : Ser) (f : List Int) (c : Int) : List Int := (List.range s.Values.length).map (enV s f c)
def enXL (s : Ser) (f : List Int) (c : Int) : List Int := (List.range s.Shifts.length).map (enX s f c)
def enVN (s : Ser) (f : List Int) (c : Int) (n : Nat) : Int := sumN (fun i => gt f i * enV s f c i) n
def enXN (s : Ser) (f : List Int) (c : Int) (n : Nat) : Int := sumN (fun i => sumX s f i * enX s f c i) n
/-- what SlopeAt hands out: its slope is the end -/
def satL (s : Ser) (b : Bool) : List Int := evenL s (endV s (momL s) b) (endX s (sumXL s (momL s)) b)
end Go.Proofs.C8
