/- Century: what the reference computes, in plain Lean: ends of sums, and that their sums are the program's. -/
import Derived.Test.YtednficclnjmjaaC8LReal
import Derived.Test.YtednficclnjmjaaC8LNar
namespace Go.Proofs.C8
open Go Go.Kx

/-- the reference's end of a span: with a factor of nothing the lower one -/
def endQ (x : Span) (f c : Int) : Int := if 0 ≤ f * c then x.Lo else x.Hi
def enV (s : Ser) (f : List Int) (c : Int) (i : Nat) : Int := endQ (gt s.Values i).Levels (gt f i) c
def enX (s : Ser) (f : List Int) (c : Int) (k : Nat) : Int := endQ (gt s.Shifts k).Levels (sumX s f k) c
def enVL (s : Ser) (f : List Int) (c : Int) : List Int := (List.range s.Values.length).map (enV s f c)
def enXL (s : Ser) (f : List Int) (c : Int) : List Int := (List.range s.Shifts.length).map (enX s f c)
def enVN (s : Ser) (f : List Int) (c : Int) (n : Nat) : Int := sumN (fun i => gt f i * enV s f c i) n
def enXN (s : Ser) (f : List Int) (c : Int) (n : Nat) : Int := sumN (fun i => sumX s f i * enX s f c i) n
theorem endQ_bd {x : Span} {f c lo hi : Int} (h : lo ≤ x.Lo ∧ x.Lo ≤ x.Hi ∧ x.Hi ≤ hi) : lo ≤ endQ x f c ∧ endQ x f c ≤ hi := by
  unfold endQ
  split <;> omega
theorem endQ_lo {x : Span} {f : Int} : f * endQ x f 1 = f * endS x f false := by
  unfold endQ endS
  rw [Int.mul_one]
  by_cases h0 : f = 0
  · subst h0; rw [Int.zero_mul, Int.zero_mul]
  · by_cases h : 0 < f
    · rw [if_pos (by omega), if_neg (by simp [h])]
    · rw [if_neg (by omega), if_pos (by simp [h])]
theorem endQ_hi {x : Span} {f : Int} : f * endQ x f (-1) = f * endS x f true := by
  unfold endQ endS
  by_cases h0 : f = 0
  · subst h0; rw [Int.zero_mul, Int.zero_mul]
  · by_cases h : 0 < f
    · rw [if_neg (by omega), if_pos (by simp [h])]
    · rw [if_pos (by omega), if_neg (by simp [h])]
theorem enV_bd {s : Ser} (h : Ok s) {f : List Int} {c : Int} {i : Nat} (hi : i < s.Values.length) : -24000 ≤ enV s f c i ∧ enV s f c i ≤ 24000 := by
  have h1 := h.vl hi
  have h2 := endQ_bd (f := gt f i) (c := c) (lo := 0) (hi := 24000) h1
  unfold enV
  omega
theorem enX_bd {s : Ser} (h : Ok s) {f : List Int} {c : Int} {i : Nat} (hi : i < s.Shifts.length) : -12000 ≤ enX s f c i ∧ enX s f c i ≤ 12000 := endQ_bd (h.xl hi)
theorem sumX_bd {s : Ser} (h : Ok s) {f : List Int} (hf : facW s f) (k : Nat) : -2000000000 ≤ sumX s f k ∧ sumX s f k ≤ 2000000000 := by
  have h1 := sumP_bd hf.2 (gt s.Shifts k).Time (Nat.le_refl _)
  have h2 := h.nV
  unfold sumX
  omega
theorem enVN_bd {s : Ser} (h : Ok s) {f : List Int} (hf : facW s f) {c : Int} {n : Nat} (hn : n ≤ s.Values.length) : n * -240000000000 ≤ enVN s f c n ∧ enVN s f c n ≤ n * 240000000000 :=
  sumN_bd fun i hi => mul_bd (hf.2 i (by omega)) (enV_bd h (by omega))
theorem enXN_bd {s : Ser} (h : Ok s) {f : List Int} (hf : facW s f) {c : Int} {n : Nat} (hn : n ≤ s.Shifts.length) : n * -24000000000000 ≤ enXN s f c n ∧ enXN s f c n ≤ n * 24000000000000 :=
  sumN_bd fun i hi => mul_bd (sumX_bd h hf i) (enX_bd h (by omega))
theorem enN_lo (s : Ser) (f : List Int) : enVN s f 1 s.Values.length + enXN s f 1 s.Shifts.length = (bd s f).Lo := by
  show _ = totS s f (sumXL s f) false
  unfold enVN enXN totS totN
  congr 1
  · exact sumN_congr fun i hi => by rw [endV, gt_map hi]; exact endQ_lo
  · exact sumN_congr fun i hi => by rw [endX, gt_map hi, sumXL, gt_map hi]; exact endQ_lo
theorem enN_hi (s : Ser) (f : List Int) : enVN s f (-1) s.Values.length + enXN s f (-1) s.Shifts.length = (bd s f).Hi := by
  show _ = totS s f (sumXL s f) true
  unfold enVN enXN totS totN
  congr 1
  · exact sumN_congr fun i hi => by rw [endV, gt_map hi]; exact endQ_hi
  · exact sumN_congr fun i hi => by rw [endX, gt_map hi, sumXL, gt_map hi]; exact endQ_hi
/-- what SlopeAt hands out: its slope is the end -/
def satL (s : Ser) (b : Bool) : List Int := evenL s (endV s (momL s) b) (endX s (sumXL s (momL s)) b)
end Go.Proofs.C8
