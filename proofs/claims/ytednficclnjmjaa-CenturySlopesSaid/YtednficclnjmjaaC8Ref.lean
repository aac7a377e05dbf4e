/- Century: what the reference computes, in plain Lean: ends of sums, and that their sums are the program's. -/
import Derived.Test.YtednficclnjmjaaC8LReal
import Derived.Test.YtednficclnjmjaaC8LNar
namespace Go.Proofs.C8
open Go Go.Kx

/-- the reference's end of a span: with a factor of nothing the lower one -/
def endQ (x : Span) (f c : Int) : Int := if 0 ≤ f * c then x.Lo else x.Hi
def enV (s : Ser) (f : List Int) (c : Int) (i : Nat) : Int := endQ (gt s.Values i).Levels (gt f i) c
def enX (s : Ser) (f : List Int) (c : Int) (k : Nat) : Int := endQ (gt s.Shifts k).Levels (sumX s f k) c
def enVL (s : Ser) (f : List Int) (c : Int) : List Int := (List.range s.Values.length).map (enV s f c)
def enXL (s : Ser) (f : List Int) (c : Int) : List Int := (List.range s.Shifts.length).map (enX s f c)
def enVN (s : Ser) (f : List Int) (c : Int) (n : Nat) : Int := sumN (fun i => gt f i * enV s f c i) n
def enXN (s : Ser) (f : List Int) (c : Int) (n : Nat) : Int := sumN (fun i => sumX s f i * enX s f c i) n
theorem endQ_bd {x : Span} {f c lo hi : Int} (h : lo ≤ x.Lo ∧ x.Lo ≤ x.Hi ∧ x.Hi ≤ hi) : lo ≤ endQ x f c ∧ endQ x f c ≤ hi := by
  unfold endQ
  split <;> omega
theorem endQ_lo {x : Span} {f : Int} : f * endQ x f 1 = f * endS x f false := by
  unfold endQ endS
  rw [Int.mul_one]
  by_cases h0 : f = 0
  · subst h0; rw [Int.zero_mul, Int.zero_mul]
  · by_cases h : 0 < f
    · rw [if_pos (by omega), if_neg (by simp [h])]
    · rw [if_neg (by omega), if_pos (by simp [h])]
theorem endQ_hi {x : Span} {f : Int} : f * endQ x f (-1) = f * endS x f true := by
  unfold endQ endS
  by_cases h0 : f = 0
  · subst h0; rw [Int.zero_mul, Int.zero_mul]
  · by_cases h : 0 < f
    · rw [if_neg (by omega), if_pos (by simp [h])]
    · rw [if_pos (by omega), if_neg (by simp [h])]
theorem enV_bd {s : Ser} (h : Ok s) {f : List Int} {c : Int} {i : Nat} (hi : i < s.Values.length) : -24000 ≤ enV s f c i ∧ enV s f c i ≤ 24000 := by
  have h1 := h.vl hi
  have h2 := endQ_bd (f := gt f i) (c := c) (lo := 0) (hi := 24000) h1
  unfold enV
  omega
theorem enX_bd {s : Ser} (h : Ok s) {f : List Int} {c : Int} {i : Nat} (hi : i < s.Shifts.length) : -12000 ≤ enX s f c i ∧ enX s f c i ≤ 12000 := endQ_bd (h.xl hi)
theorem sumX_bd {s : Ser} (h : Ok s) {f : List Int} (hf : facW s f) (k : Nat) : -2000000000 ≤ sumX s f k ∧ sumX s f k ≤ 2000000000 := by
  have h1 := sumP_bd hf.2 (gt s.Shifts k).Time (Nat.le_refl _)
  have h2 := h.nV
  unfold sumX
  omega
theorem enVN_bd {s : Ser} (h : Ok s) {f : List Int} (hf : facW s f) {c : Int} {n : Nat} (hn : n ≤ s.Values.length) : n * -240000000000 ≤ enVN s f c n ∧ enVN s f c n ≤ n * 240000000000 :=
  sumN_bd fun i hi => mul_bd (hf.2 i (by omega)) (enV_bd h (by omega))
theorem enXN_bd {s : Ser} (h : Ok s) {f : List Int} (hf : facW s f) {c : Int} {n : Nat} (hn : n ≤ s.Shifts.length) : n * -24000000000000 ≤ enXN s f c n ∧ enXN s f c n ≤ n * 24000000000000 :=
  sumN_bd fun i hi => mul_bd (sumX_bd h hf i) (enX_bd h (by omega))
theorem enN_lo (s : Ser) (f : List Int) : enVN s f 1 s.Values.length + enXN s f 1 s.Shifts.length = (bd s f).Lo := by
  show _ = totS s f (sumXL s f) false
  unfold enVN enXN totS totN
  congr 1
  · exact sumN_congr fun i hi => by rw [endV, gt_map hi]; exact endQ_lo
  · exact sumN_congr fun i hi => by rw [endX, gt_map hi, sumXL, gt_map hi]; exact endQ_lo
theorem enN_hi (s : Ser) (f : List Int) : enVN s f (-1) s.Values.length + enXN s f (-1) s.Shifts.length = (bd s f).Hi := by
  show _ = totS s f (sumXL s f) true
  unfold enVN enXN totS totN
  congr 1
  · exact sumN_congr fun i hi => by rw [endV, gt_map hi]; exact endQ_hi
  · exact sumN_congr fun i hi => by rw [endX, gt_map hi, sumXL, gt_map hi]; exact endQ_hi
theorem slopeR_val {s : Ser} (h : twoVE s = 0) : slopeR s = (lowR (bd s (momL s)).Lo (momD s), lowR (bd s (momL s)).Hi (momD s), 0) := by
  rw [slopeR, if_neg (by omega), slpS_ok h, slpD, if_neg (by omega)]
  rfl
theorem slopeR_bad {s : Ser} (h : twoVE s ≠ 0) : slopeR s = (⟨0, 0⟩, ⟨0, 0⟩, twoVE s) := if_pos h
theorem trendR_val {s : Ser} (h : twoVE s = 0) : trendR s = (sureS (bd s (momL s)), 0) := by
  rw [trendR_ok h, slpS_ok h]
  rfl
/-- what SlopeAt hands out: its slope is the end -/
def satL (s : Ser) (b : Bool) : List Int := evenL s (endV s (momL s) b) (endX s (sumXL s (momL s)) b)
theorem sat_even {s : Ser} {b : Bool} (h : twoVE s = 0) : evenR s (satR s b).1 (satR s b).2.1 = (satL s b, 0) := by
  rw [satR, if_neg (by omega)]
  exact evenR_agree (twoVE_zero h).1 (end_agree (twoVE_zero h).1 _ _ b)
theorem satL_len (s : Ser) (b : Bool) : (satL s b).length = s.Values.length := evenL_len _ _ _
theorem satL_bd {s : Ser} (h : Ok s) (b : Bool) : ∀ i, i < s.Values.length → -1000000 ≤ gt (satL s b) i ∧ gt (satL s b) i ≤ 1000000 := fun i hi =>
  evenL_bd h (end_agree h _ _ b) i (by rw [evenL_len]; exact hi)
theorem sat_err (s : Ser) (b : Bool) : (satR s b).2.2 = (slopeR s).2.2 := by
  unfold satR slopeR
  split <;> rfl
theorem sat_nil {s : Ser} {b : Bool} (h : (satR s b).2.2 ≠ 0) : (satR s b).1.length = 0 ∧ (satR s b).2.1.length = 0 := by
  by_cases h2 : twoVE s = 0
  · exfalso
    rw [satR_ok h2] at h
    exact h rfl
  · rw [satR_err h2]
    exact ⟨rfl, rfl⟩
theorem sat_zero {s : Ser} {b : Bool} (h : (satR s b).2.2 = 0) : twoVE s = 0 := by
  rw [sat_err] at h
  exact (slopeR_zero h).1
theorem sat_exact {s : Ser} {b : Bool} (h : twoVE s = 0) : exactR s (satL s b) = if b = true then (slopeR s).2.1 else (slopeR s).1 := by
  rw [slopeR_val h]
  have hl := lin_eq s (momL s) (endV s (momL s) b) (endX s (sumXL s (momL s)) b)
  unfold exactR satL
  rw [exS_even, hl]
  cases b <;> rfl
theorem sat_hi {s : Ser} {i : Int} (h : twoVE s = 0) (hi : i = 1) : exactR s (satL s (decide (i = 1))) = (slopeR s).2.1 := by rw [sat_exact h, if_pos (decide_eq_true hi)]
theorem sat_lo {s : Ser} {i : Int} (h : twoVE s = 0) (hi : ¬ i = 1) : exactR s (satL s (decide (i = 1))) = (slopeR s).1 := by rw [sat_exact h, if_neg (by simp [hi])]
end Go.Proofs.C8
