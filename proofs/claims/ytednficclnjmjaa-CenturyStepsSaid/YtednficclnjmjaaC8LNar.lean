import Derived.Test.YtednficclnjmjaaC8LExt
import Derived.Test.YtednficclnjmjaaC8LFall
import Derived.Test.YtednficclnjmjaaC8LBreak
/- Century: narrower is narrower, in plain Lean. -/
namespace Go.Proofs.C8
open Go Go.Kx

/-- a series of which more is known -/
structure Nar (t s : Ser) : Prop where
  os : Ok s
  ot : Ok t
  nv : t.Values.length = s.Values.length
  nx : t.Shifts.length = s.Shifts.length
  v : ∀ i, i < s.Values.length → (gt t.Values i).Time = (gt s.Values i).Time ∧ (gt s.Values i).Levels.Lo ≤ (gt t.Values i).Levels.Lo ∧ (gt t.Values i).Levels.Hi ≤ (gt s.Values i).Levels.Hi
  x : ∀ i, i < s.Shifts.length → (gt t.Shifts i).Time = (gt s.Shifts i).Time ∧ (gt s.Shifts i).Levels.Lo ≤ (gt t.Shifts i).Levels.Lo ∧ (gt t.Shifts i).Levels.Hi ≤ (gt s.Shifts i).Levels.Hi
section
variable {t s : Ser}
end
/-! ### steps -/
def goodW (s : Ser) (most : Int) (a b : Nat) : Prop := (lastR (winOf s a b) most).2 = true
theorem last_true (w : Win) (most : Int) : (lastR w most).2 = true ↔ ∀ j, j < w.levels.length → ¬ lastBad w most j := by
  rcases first_cases (lastBad w most) w.levels.length with ⟨_, h2⟩ | ⟨h1, h2, h3⟩
  · rw [lastR_ok h2]; exact ⟨fun _ => h2, fun _ => rfl⟩
  · rw [lastR_bad h1 h3 h2]; exact ⟨fun h => (by cases h), fun h => absurd h2 (h _ h1)⟩
theorem win_at (s : Ser) {a b i : Nat} (hi : a + i ≤ b) : gt (winOf s a b).levels i = (gt s.Values (a + i)).Levels := gt_map (by omega)
theorem win_xt (s : Ser) {a b i : Nat} (hi : a + i + 1 ≤ b) : gt (winOf s a b).shifts i = bt s.Shifts (gt s.Values (a + i)).Time (gt s.Values (a + i + 1)).Time := gt_map (by omega)
theorem win_len (s : Ser) (a b : Nat) : (winOf s a b).levels.length = b + 1 - a := map_len _ _
theorem nxt_good {s : Ser} {most : Int} {a : Nat} (ha : a < s.Values.length) : (a < nxt s most a ∧ nxt s most a ≤ s.Values.length) ∧ (∀ b, a < b → b < nxt s most a → goodW s most a b) ∧ (nxt s most a < s.Values.length → ¬ goodW s most a (nxt s most a)) := by
  unfold nxt
  rcases first_cases (nxtP s most a) (s.Values.length - (a + 1)) with ⟨h1, h2⟩ | ⟨h1, h2, h3⟩
  · rw [h1]
    refine ⟨by omega, fun b hb1 hb2 => ?_, fun h => by omega⟩
    have := h2 (b - (a + 1)) (by omega)
    unfold nxtP at this
    rw [show a + 1 + (b - (a + 1)) = b by omega] at this
    unfold goodW
    simpa using this
  · refine ⟨by omega, fun b hb1 hb2 => ?_, fun _ hg => ?_⟩
    · have := h3 (b - (a + 1)) (by omega)
      unfold nxtP at this
      rw [show a + 1 + (b - (a + 1)) = b by omega] at this
      unfold goodW
      simpa using this
    · unfold nxtP at h2
      unfold goodW at hg
      have h2' : (lastR (winOf s a (a + 1 + first (nxtP s most a) (s.Values.length - (a + 1)))) most).2 = false := h2
      exact absurd (hg.symm.trans h2') (by simp)
end Go.Proofs.C8
/- Century: what the reference computes, in plain Lean: ends of sums, and that their sums are the program's. -/
namespace Go.Proofs.C8
open Go Go.Kx

/-- the reference's end of a span: with a factor of nothing the lower one -/
def endQ (x : Span) (f c : Int) : Int := if 0 ≤ f * c then x.Lo else x.Hi
def enV (s : Ser) (f : List Int) (c : Int) (i : Nat) : Int := endQ (gt s.Values i).Levels (gt f i) c
def enX (s : Ser) (f : List Int) (c : Int) (k : Nat) : Int := endQ (gt s.Shifts k).Levels (sumX s f k) c
def enVL (s : Ser) (f : List Int) (c : Int) : List Int := (List.range s.Values.length).map (enV s f c)
def enXL (s : Ser) (f : List Int) (c : Int) : List Int := (List.range s.Shifts.length).map (enX s f c)
def enVN (s : Ser) (f : List Int) (c : Int) (n : Nat) : Int := sumN (fun i => gt f i * enV s f c i) n
def enXN (s : Ser) (f : List Int) (c : Int) (n : Nat) : Int := sumN (fun i => sumX s f i * enX s f c i) n
theorem endQ_bd {x : Span} {f c lo hi : Int} (h : lo ≤ x.Lo ∧ x.Lo ≤ x.Hi ∧ x.Hi ≤ hi) : lo ≤ endQ x f c ∧ endQ x f c ≤ hi := by
  unfold endQ
  split <;> omega
theorem endQ_lo {x : Span} {f : Int} : f * endQ x f 1 = f * endS x f false := by
  unfold endQ endS
  rw [Int.mul_one]
  by_cases h0 : f = 0
  · subst h0; rw [Int.zero_mul, Int.zero_mul]
  · by_cases h : 0 < f
    · rw [if_pos (by omega), if_neg (by simp [h])]
    · rw [if_neg (by omega), if_pos (by simp [h])]
theorem endQ_hi {x : Span} {f : Int} : f * endQ x f (-1) = f * endS x f true := by
  unfold endQ endS
  by_cases h0 : f = 0
  · subst h0; rw [Int.zero_mul, Int.zero_mul]
  · by_cases h : 0 < f
    · rw [if_neg (by omega), if_pos (by simp [h])]
    · rw [if_pos (by omega), if_neg (by simp [h])]
theorem enV_bd {s : Ser} (h : Ok s) {f : List Int} {c : Int} {i : Nat} (hi : i < s.Values.length) : -24000 ≤ enV s f c i ∧ enV s f c i ≤ 24000 := by
  have h1 := h.vl hi
  have h2 := endQ_bd (f := gt f i) (c := c) (lo := 0) (hi := 24000) h1
  unfold enV
  omega
theorem enX_bd {s : Ser} (h : Ok s) {f : List Int} {c : Int} {i : Nat} (hi : i < s.Shifts.length) : -12000 ≤ enX s f c i ∧ enX s f c i ≤ 12000 := endQ_bd (h.xl hi)
theorem sumX_bd {s : Ser} (h : Ok s) {f : List Int} (hf : facW s f) (k : Nat) : -2000000000 ≤ sumX s f k ∧ sumX s f k ≤ 2000000000 := by
  have h1 := sumP_bd hf.2 (gt s.Shifts k).Time (Nat.le_refl _)
  have h2 := h.nV
  unfold sumX
  omega
theorem enVN_bd {s : Ser} (h : Ok s) {f : List Int} (hf : facW s f) {c : Int} {n : Nat} (hn : n ≤ s.Values.length) : n * -240000000000 ≤ enVN s f c n ∧ enVN s f c n ≤ n * 240000000000 :=
  sumN_bd fun i hi => mul_bd (hf.2 i (by omega)) (enV_bd h (by omega))
theorem enXN_bd {s : Ser} (h : Ok s) {f : List Int} (hf : facW s f) {c : Int} {n : Nat} (hn : n ≤ s.Shifts.length) : n * -24000000000000 ≤ enXN s f c n ∧ enXN s f c n ≤ n * 24000000000000 :=
  sumN_bd fun i hi => mul_bd (sumX_bd h hf i) (enX_bd h (by omega))
theorem enN_lo (s : Ser) (f : List Int) : enVN s f 1 s.Values.length + enXN s f 1 s.Shifts.length = (bd s f).Lo := by
  show _ = totS s f (sumXL s f) false
  unfold enVN enXN totS totN
  congr 1
  · exact sumN_congr fun i hi => by rw [endV, gt_map hi]; exact endQ_lo
  · exact sumN_congr fun i hi => by rw [endX, gt_map hi, sumXL, gt_map hi]; exact endQ_lo
theorem enN_hi (s : Ser) (f : List Int) : enVN s f (-1) s.Values.length + enXN s f (-1) s.Shifts.length = (bd s f).Hi := by
  show _ = totS s f (sumXL s f) true
  unfold enVN enXN totS totN
  congr 1
  · exact sumN_congr fun i hi => by rw [endV, gt_map hi]; exact endQ_hi
  · exact sumN_congr fun i hi => by rw [endX, gt_map hi, sumXL, gt_map hi]; exact endQ_hi
/-- what SlopeAt hands out: its slope is the end -/
def satL (s : Ser) (b : Bool) : List Int := evenL s (endV s (momL s) b) (endX s (sumXL s (momL s)) b)
end Go.Proofs.C8
/- Century: known exactly, in plain Lean. -/
namespace Go.Proofs.C8
open Go Go.Kx

section
variable {s : Ser} {x : Rl}
variable (h : Ok s) (ha : agreeP s x.Levels x.Shifts)
include h ha
/-! ### parts -/
/-! ### slopes -/
end
end Go.Proofs.C8
/- Century: what the reference computes: weights, extremes, ranks, changes. -/
namespace Go.Proofs.C8
open Go Go.Kx

def wt1 (s : Ser) (x : Span) (i : Nat) : Int := if inT x (gt s.Values i).Time then 1 else 0
def askR (s : Ser) (x : Span) : List Int × Int × Int := if chkE s ≠ 0 then ([], 0, chkE s) else if ¬ spOk x 0 10000 then ([], 0, 1) else if wtC s x = 0 then ([], 0, 3) else (wtL s x 1, wtC s x, 0)
/-! ### extremes -/
def exQ (s : Ser) (x : Span) : Nat → Span × Span
  | 0 => (⟨1099511627776, 1099511627776⟩, ⟨-1099511627776, -1099511627776⟩)
  | n + 1 => if inT x (gt s.Values n).Time then (⟨min (exQ s x n).1.Lo (evS s n).Lo, min (exQ s x n).1.Hi (evS s n).Hi⟩, ⟨max (exQ s x n).2.Lo (evS s n).Lo, max (exQ s x n).2.Hi (evS s n).Hi⟩) else exQ s x n
/-! ### ranks -/
/-! ### changes -/
def chg1 (s : Ser) (a b : Span) (i : Nat) : Int := gt (wtL s b 1) i * wtC s a - gt (wtL s a 1) i * wtC s b
end Go.Proofs.C8
