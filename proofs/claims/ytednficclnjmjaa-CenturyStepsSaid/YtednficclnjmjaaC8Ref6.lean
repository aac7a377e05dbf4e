import Derived.Test.YtednficclnjmjaaC8Ref4
import Derived.Test.YtednficclnjmjaaC8LBreak
/- Century: what the reference's chains tell is what the program's windows tell. -/
namespace Go.Proofs.C8
open Go Go.Kx

theorem chR_last {w : Win} {s t : Ser} {l : List Pr} {most : Int} (hl : w.levels.length = l.length) (h0 : 0 < l.length) (h : ∀ k, k < l.length → lastAt w most k = chN s t l most k) (hz : ¬ chBad s t l most 0) :
    (lastR w most).1 = chR s t l most ∧ ((lastR w most).2 = true ↔ ¬ (chR s t l most).Hi < (chR s t l most).Lo) := by
  have bad : ∀ k, k < l.length → (lastBad w most k ↔ chBad s t l most k) := fun k hk => by
    unfold lastBad
    rw [h k hk]
    constructor
    · exact fun hb => hb.2
    · intro hb
      refine ⟨?_, hb⟩
      rcases Nat.eq_zero_or_pos k with h1 | h1
      · subst h1; exact absurd hb hz
      · exact h1
  rcases first_cases (lastBad w most) w.levels.length with ⟨_, h2⟩ | ⟨h1, h2, h3⟩
  · have hno : ∀ j, j < l.length → ¬ chBad s t l most j := fun j hj hb => h2 j (by omega) ((bad j hj).2 hb)
    have e : chR s t l most = chN s t l most (l.length - 1) := by unfold chR; rw [first_no (fun j hj => hno j (by omega))]
    rw [lastR_ok h2, e, lastO, if_neg (by omega), hl, h _ (by omega)]
    exact ⟨rfl, fun _ => hno _ (by omega), fun _ => rfl⟩
  · have hb := (bad _ (by omega)).1 h2
    have e : chR s t l most = chN s t l most (first (lastBad w most) w.levels.length) := by
      unfold chR
      rcases Nat.lt_or_ge (first (lastBad w most) w.levels.length) (l.length - 1) with h4 | h4
      · rw [first_eq h4 (fun j hj hc => h3 j hj ((bad j (by omega)).2 hc)) hb]
      · rw [first_no (fun j hj hc => h3 j (by omega) ((bad j (by omega)).2 hc)), show l.length - 1 = first (lastBad w most) w.levels.length by omega]
    rw [lastR_bad h1 h3 h2, e, h _ (by omega)]
    exact ⟨rfl, fun hc => (by cases hc), fun hc => absurd hb hc⟩
theorem pln_dif {s t : Ser} {n : Nat} (h : n < (comL s t).length) : plnS s t (gt (prL s t) n) = difV s t n := by rw [prL_at h]; rfl
theorem prT_dif {s t : Ser} {n : Nat} (h : n < (comL s t).length) : prT s (gt (prL s t) n) = difT s t n := by rw [prL_at h]; rfl
theorem hop_up {s t : Ser} (hs : Ok s) {n : Nat} (h : n + 1 < (comL s t).length) : hopS s t (difT s t n) (difT s t (n + 1)) = difX s t n := by
  have : difT s t n < difT s t (n + 1) := difT_up hs (Nat.lt_succ_self n) h
  unfold hopS
  rw [if_neg (by omega), Int.min_eq_left (by omega), Int.max_eq_right (by omega)]
  rfl
theorem hop_down {s t : Ser} (hs : Ok s) {n : Nat} (h : n + 1 < (comL s t).length) : hopS s t (difT s t (n + 1)) (difT s t n) = ⟨-(difX s t n).Hi, -(difX s t n).Lo⟩ := by
  have : difT s t n < difT s t (n + 1) := difT_up hs (Nat.lt_succ_self n) h
  unfold hopS
  rw [if_pos (by omega), Int.min_eq_right (by omega), Int.max_eq_left (by omega), Int.zero_sub, Int.zero_sub]
  rfl
theorem ch_zero {s t : Ser} (hs : Ok s) (ht : Ok t) {l : List Pr} {most : Int} (hm : 0 ≤ most) (hp : prOk s t (gt l 0)) : ¬ chBad s t l most 0 := by
  have := pln_bd hs ht hp
  unfold chBad chN
  dsimp only
  omega
theorem pr_ok {s t : Ser} {n : Nat} (h : n < (comL s t).length) : prOk s t (gt (prL s t) n) := by
  rw [prL_at h]
  exact com_bd h
/-- the windows ahead of a time -/
theorem chA {s t : Ser} (hs : Ok s) (ht : Ok t) {time most : Int} (hm : 0 ≤ most) {l : List Pr} (hl : l.length = difF s t time) (h0 : 0 < l.length) (hat : ∀ i, i < l.length → gt l i = gt (prL s t) i) :
    (adjA s t time most).1 = chR s t l most ∧ ((adjA s t time most).2 = true ↔ ¬ (chR s t l most).Hi < (chR s t l most).Lo) := by
  obtain ⟨w1, w2, w3⟩ := winA s t time
  have hf := dif_len s t time
  refine chR_last (by rw [w1, hl]) h0 (fun k hk => ?_) (ch_zero hs ht hm (by rw [hat 0 h0]; exact pr_ok (by omega)))
  induction k with
  | zero => rw [lastAt, chN, w2 0 (by omega), hat 0 h0, pln_dif (by omega)]
  | succ k ih =>
    rw [lastAt, chN, ih (by omega), w2 _ (by omega), w3 _ (by omega), hat _ hk, hat k (by omega), pln_dif (by omega), prT_dif (by omega), prT_dif (by omega), hop_up hs (by omega), Int.max_comm, Int.min_comm]
/-- the windows behind a time, backwards -/
theorem chB {s t : Ser} (hs : Ok s) (ht : Ok t) {time most : Int} (hm : 0 ≤ most) {l : List Pr} (hl : l.length = (comL s t).length - difF s t time) (h0 : 0 < l.length) (hat : ∀ i, i < l.length → gt l i = gt (prL s t) ((comL s t).length - 1 - i)) :
    (adjB s t time most).1 = chR s t l most ∧ ((adjB s t time most).2 = true ↔ ¬ (chR s t l most).Hi < (chR s t l most).Lo) := by
  obtain ⟨w1, w2, w3⟩ := winB s t time
  refine chR_last (by rw [w1, hl]) h0 (fun k hk => ?_) (ch_zero hs ht hm (by rw [hat 0 h0]; exact pr_ok (by omega)))
  induction k with
  | zero => rw [lastAt, chN, w2 0 (by omega), hat 0 h0, pln_dif (by omega)]
  | succ k ih =>
    have hd := hop_down (t := t) hs (n := (comL s t).length - 2 - k) (by omega)
    rw [show (comL s t).length - 2 - k + 1 = (comL s t).length - 1 - k by omega] at hd
    rw [lastAt, chN, ih (by omega), w2 _ (by omega), w3 _ (by omega), hat _ hk, hat k (by omega), pln_dif (by omega), prT_dif (by omega), prT_dif (by omega), show (comL s t).length - 1 - (k + 1) = (comL s t).length - 2 - k by omega, hd, Int.max_comm, Int.min_comm]
    unfold mirS
    dsimp only
    rw [Int.zero_sub, Int.zero_sub]
/-! ### ahead and behind -/
def ahN (s t : Ser) (time : Int) : Nat → List Pr
  | 0 => []
  | n + 1 => if (gt s.Values (gt (prL s t) n).s.toNat).Time < time then ahN s t time n ++ [gt (prL s t) n] else ahN s t time n
def bhN (s t : Ser) (time : Int) : Nat → List Pr
  | 0 => []
  | n + 1 => if (gt s.Values (gt (prL s t) n).s.toNat).Time < time then bhN s t time n else [gt (prL s t) n] ++ bhN s t time n
theorem ah_len (s t : Ser) (time : Int) : ∀ n : Nat, (ahN s t time n).length + (bhN s t time n).length = n
  | 0 => rfl
  | n + 1 => by
    have := ah_len s t time n
    rw [ahN, bhN]
    split <;> simp <;> omega
theorem dif_lt {s t : Ser} (hs : Ok s) {time : Int} {n : Nat} (h : n < (comL s t).length) : (gt s.Values (gt (prL s t) n).s.toNat).Time < time ↔ n < difF s t time := by
  have e : (gt s.Values (gt (prL s t) n).s.toNat).Time = difT s t n := prT_dif h
  rw [e]
  unfold difF
  rcases first_cases (fun n => time ≤ difT s t n) (comL s t).length with ⟨h1, h2⟩ | ⟨h1, h2, h3⟩
  · rw [h1]
    have := h2 n h
    omega
  · constructor
    · intro h4
      rcases Nat.lt_or_ge n (first (fun n => time ≤ difT s t n) (comL s t).length) with h5 | h5
      · exact h5
      · rcases Nat.lt_or_eq_of_le h5 with h6 | h6
        · have := difT_up hs h6 h
          omega
        · rw [← h6] at h4
          omega
    · intro h4
      have := h3 n h4
      omega
theorem gt_app {α : Type} [Inhabited α] (L M : List α) (i : Nat) : gt (L ++ M) i = if i < L.length then gt L i else gt M (i - L.length) := by
  simp only [gt, List.getD]
  split
  · rename_i h; rw [List.getElem?_append_left h]
  · rename_i h; rw [List.getElem?_append_right (by omega)]
theorem ah_at {s t : Ser} (hs : Ok s) {time : Int} : ∀ n : Nat, n ≤ (comL s t).length → ((ahN s t time n).length = min n (difF s t time) ∧ ∀ i, i < min n (difF s t time) → gt (ahN s t time n) i = gt (prL s t) i) ∧
    ((bhN s t time n).length = n - difF s t time ∧ ∀ i, i < n - difF s t time → gt (bhN s t time n) i = gt (prL s t) (n - 1 - i))
  | 0, _ => ⟨⟨by simp [ahN], fun i hi => by omega⟩, ⟨by simp [bhN], fun i hi => by omega⟩⟩
  | n + 1, h => by
    obtain ⟨⟨h1, h2⟩, h3, h4⟩ := ah_at (t := t) hs (time := time) n (by omega)
    have hd := dif_lt (t := t) hs (time := time) (n := n) (by omega)
    rw [ahN, bhN]
    by_cases hc : (gt s.Values (gt (prL s t) n).s.toNat).Time < time
    · have hf := hd.1 hc
      rw [if_pos hc, if_pos hc]
      refine ⟨⟨by rw [List.length_append, h1]; simp; omega, fun i hi => ?_⟩, by omega, fun i hi => by omega⟩
      rw [gt_app]
      split
      · exact h2 i (by omega)
      · rw [show i - (ahN s t time n).length = 0 by omega, show i = n by omega]; rfl
    · have hf : ¬ n < difF s t time := fun hh => hc (hd.2 hh)
      rw [if_neg hc, if_neg hc]
      refine ⟨⟨by omega, fun i hi => h2 i (by omega)⟩, by rw [List.length_append, h3]; simp; omega, fun i hi => ?_⟩
      rw [gt_app]
      split
      · rename_i h5
        have h6 : i < 1 := h5
        rw [show i = 0 by omega]; rfl
      · rename_i h5
        have h6 : ¬ i < 1 := h5
        rw [show i - [gt (prL s t) n].length = i - 1 from rfl, h4 (i - 1) (by omega)]
        congr 1
        omega
end Go.Proofs.C8
/- Century: what the reference computes: parts. -/
namespace Go.Proofs.C8
open Go Go.Kx

def cutVN (s : Ser) (x : Span) : Nat → List Val
  | 0 => []
  | n + 1 => if inT x (gt s.Values n).Time then cutVN s x n ++ [gt s.Values n] else cutVN s x n
def cutXN (s : Ser) (x : Span) : Nat → List Shf
  | 0 => []
  | n + 1 => if inT x (gt s.Shifts n).Time then cutXN s x n ++ [gt s.Shifts n] else cutXN s x n
def cutS (s : Ser) (x : Span) : Ser := ⟨cutVN s x s.Values.length, cutXN s x s.Shifts.length⟩
def cutR (s : Ser) (x : Span) : Ser × Int := if chkE s ≠ 0 then (⟨[], []⟩, chkE s) else if ¬ spOk x 0 10000 then (⟨[], []⟩, 1) else (cutS s x, 0)
/-! ### narrower -/
def meetS (a b : Span) : Span := ⟨max a.Lo b.Lo, min a.Hi b.Hi⟩
def narV (s : Ser) (k : Nat) (x : Span) : List Val := s.Values.set k ⟨(gt s.Values k).Time, meetS (gt s.Values k).Levels x⟩
def narR (s : Ser) (time : Int) (x : Span) : Ser × Int := if chkE s ≠ 0 then (⟨[], []⟩, chkE s) else if idxR s time < 0 then (⟨[], []⟩, 3) else
  if (meetS (gt s.Values (idxR s time).toNat).Levels x).Hi < (meetS (gt s.Values (idxR s time).toNat).Levels x).Lo then (⟨[], []⟩, 3) else (⟨narV s (idxR s time).toNat x, s.Shifts⟩, 0)
end Go.Proofs.C8
