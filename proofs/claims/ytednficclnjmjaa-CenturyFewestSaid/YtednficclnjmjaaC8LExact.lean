import Derived.Test.YtednficclnjmjaaC8LNar
import Derived.Test.YtednficclnjmjaaC8Lin
/- Century: known exactly, in plain Lean. -/
namespace Go.Proofs.C8
open Go Go.Kx

section
variable {s : Ser} {x : Rl}
theorem told_v {i : Nat} (hi : i < s.Values.length) : gt (toldS s x).Values i = ⟨(gt s.Values i).Time, ⟨gt x.Levels i, gt x.Levels i⟩⟩ := gt_map hi
theorem told_x {i : Nat} (hi : i < s.Shifts.length) : gt (toldS s x).Shifts i = ⟨(gt s.Shifts i).Time, ⟨gt x.Shifts i, gt x.Shifts i⟩⟩ := gt_map hi
variable (h : Ok s) (ha : agreeP s x.Levels x.Shifts)
include h ha
theorem told_nar : Nar (toldS s x) s := by
  have nv : (toldS s x).Values.length = s.Values.length := map_len _ _
  have nx : (toldS s x).Shifts.length = s.Shifts.length := map_len _ _
  refine ⟨h, ⟨by rw [nv]; exact h.nV, by rw [nx]; exact h.nX, fun i hi => ?_, fun i hi => ?_⟩, nv, nx, fun i hi => ?_, fun i hi => ?_⟩
  · rw [nv] at hi
    have h1 := h.v i hi
    have h2 := ha.2.1 i hi
    unfold badV at h1 ⊢
    rw [told_v hi]
    rcases Nat.eq_zero_or_pos i with h0 | h0
    · dsimp only; omega
    · rw [told_v (i := i - 1) (by omega)]; dsimp only; omega
  · rw [nx] at hi
    have h1 := h.x i hi
    have h2 := ha.2.2 i hi
    unfold badX at h1 ⊢
    rw [told_x hi]
    rcases Nat.eq_zero_or_pos i with h0 | h0
    · dsimp only; omega
    · rw [told_x (i := i - 1) (by omega)]; dsimp only; omega
  · rw [told_v hi]; have := ha.2.1 i hi; dsimp only; omega
  · rw [told_x hi]; have := ha.2.2 i hi; dsimp only; omega
omit h ha in
theorem told_bt (a b : Int) (hab : a ≤ b) : (bt (toldS s x).Shifts a b).Lo = offN s.Shifts x.Shifts b s.Shifts.length - offN s.Shifts x.Shifts a s.Shifts.length ∧ (bt (toldS s x).Shifts a b).Hi = (bt (toldS s x).Shifts a b).Lo := by
  have nx : (toldS s x).Shifts.length = s.Shifts.length := map_len _ _
  unfold bt btLo btHi offN
  dsimp only
  rw [nx, ← sumN_sub]
  constructor
  · exact sumN_congr fun k hk => by
      rw [told_x hk]
      dsimp only
      (repeat' split) <;> omega
  · exact sumN_congr fun k hk => by rw [told_x hk]
/-! ### parts -/
omit ha in
theorem told_last {most : Int} {a b : Nat} (hb : b < s.Values.length) : ∀ i : Nat, a + i ≤ b → lastAt (winOf (toldS s x) a b) most i = ⟨offN s.Shifts x.Shifts (gt s.Values (a + i)).Time s.Shifts.length + max (mxL (evenL s x.Levels x.Shifts) a i) (gt (evenL s x.Levels x.Shifts) (a + i)) - most,
    offN s.Shifts x.Shifts (gt s.Values (a + i)).Time s.Shifts.length + min (miL (evenL s x.Levels x.Shifts) a i) (gt (evenL s x.Levels x.Shifts) (a + i))⟩
  | 0, hi => by
    simp only [lastAt, mxL, miL, Nat.add_zero]
    rw [win_at _ (by omega), Nat.add_zero, told_v (by omega), evenL_at (by omega)]
    unfold evenAt
    simp only [Span.mk.injEq]; omega
  | i + 1, hi => by
    have h1 := told_last (most := most) (a := a) hb i (by omega)
    have ht := h.vs (i := a + (i + 1)) (by omega) (by omega)
    rw [show a + (i + 1) - 1 = a + i by omega] at ht
    have hbt := told_bt (s := s) (x := x) (gt s.Values (a + i)).Time (gt s.Values (a + (i + 1))).Time (by omega)
    simp only [lastAt]
    rw [h1, win_at _ (by omega), win_xt _ (by omega), told_v (i := a + (i + 1)) (by omega), told_v (i := a + i) (by omega), show a + i + 1 = a + (i + 1) by omega, told_v (i := a + (i + 1)) (by omega)]
    simp only [mxL, miL]
    rw [hbt.2, hbt.1]
    have e : gt (evenL s x.Levels x.Shifts) (a + (i + 1)) = gt x.Levels (a + (i + 1)) - offN s.Shifts x.Shifts (gt s.Values (a + (i + 1))).Time s.Shifts.length := by rw [evenL_at (by omega)]; rfl
    simp only [Span.mk.injEq]
    omega
theorem told_nxt {most : Int} (hm : 0 ≤ most) {a : Nat} (hal : a < s.Values.length) : nxt (toldS s x) most a = ptE (evenL s x.Levels x.Shifts) most a := by
  have hN := told_nar h ha
  have h1 := nxt_good (s := toldS s x) (most := most) (a := a) (by rw [hN.nv]; exact hal)
  rw [hN.nv] at h1
  have hll := evenL_len s x.Levels x.Shifts
  have mono : ∀ (j k : Nat), j ≤ k → a + k < s.Values.length → (mxL (evenL s x.Levels x.Shifts) a j ≤ mxL (evenL s x.Levels x.Shifts) a k ∧ miL (evenL s x.Levels x.Shifts) a k ≤ miL (evenL s x.Levels x.Shifts) a j) := by
    intro j k hjk hk
    induction k with
    | zero => obtain rfl : j = 0 := by omega
              omega
    | succ k ih =>
      rcases Nat.lt_or_ge j (k + 1) with h2 | h2
      · have := ih (by omega) (by omega); simp only [mxL, miL]; omega
      · obtain rfl : j = k + 1 := by omega
        omega
  have step : ∀ j k : Nat, j < k → a + k < s.Values.length → (gt (evenL s x.Levels x.Shifts) (a + j) ≤ mxL (evenL s x.Levels x.Shifts) a k ∧ miL (evenL s x.Levels x.Shifts) a k ≤ gt (evenL s x.Levels x.Shifts) (a + j)) := fun j k hjk hk => by
    have := mono (j + 1) k hjk hk
    simp only [mxL, miL] at this
    omega
  have good : ∀ j, 0 < j → a + j < s.Values.length → (goodW (toldS s x) most a (a + j) ↔ ∀ i, i < j + 1 → ¬ ptP (evenL s x.Levels x.Shifts) most a i) := fun j hj0 hj => by
    unfold goodW
    rw [last_true, win_len, show a + j + 1 - a = j + 1 by omega]
    constructor
    · intro hg i hi
      have h2 := hg i hi
      unfold lastBad at h2
      rw [told_last h hj i (by omega)] at h2
      unfold ptP
      dsimp only at h2
      rcases Nat.eq_zero_or_pos i with h0 | h0
      · subst h0; simp only [mxL, miL, Nat.add_zero]; omega
      · omega
    · intro hg i hi
      have h2 := hg i hi
      unfold lastBad
      rw [told_last h hj i (by omega)]
      unfold ptP at h2
      dsimp only
      omega
  refine (ptE_yes (by omega) (by rw [hll]; omega) (fun j hj => ?_) ?_).symm
  · rcases Nat.eq_zero_or_pos j with h0 | h0
    · subst h0; exact ptP_zero hm
    · exact (good j h0 (by omega)).1 (h1.2.1 (a + j) (by omega) hj) j (by omega)
  · rcases Nat.lt_or_ge (nxt (toldS s x) most a) s.Values.length with h2 | h2
    · right
      have h3 := h1.2.2 h2
      obtain ⟨j, hj⟩ : ∃ j, nxt (toldS s x) most a = a + j := ⟨nxt (toldS s x) most a - a, by omega⟩
      rw [hj] at h1 h2 h3 ⊢
      rw [Nat.add_sub_cancel_left]
      apply Classical.byContradiction
      intro hn
      refine h3 ((good j (by omega) h2).2 fun i hi => ?_)
      rcases Nat.lt_succ_iff_lt_or_eq.1 hi with h4 | h4
      · rcases Nat.eq_zero_or_pos i with h0 | h0
        · subst h0; exact ptP_zero hm
        · exact (good i h0 (by omega)).1 (h1.2.1 (a + i) (by omega) (by omega)) i (by omega)
      · subst h4; exact hn
    · left; rw [hll]; omega
theorem told_parts {most : Int} (hm : 0 ≤ most) : ∀ (f a : Nat), a < s.Values.length → s.Values.length - a ≤ f → ((stpF (toldS s x) most f a).length : Int) + 1 = ptF (evenL s x.Levels x.Shifts) most (s.Values.length - a) a
  | 0, a, h1, h2 => by omega
  | f + 1, a, h1, h2 => by
    have hN := told_nar h ha
    have hll := evenL_len s x.Levels x.Shifts
    have hp := ptF_step (l := evenL s x.Levels x.Shifts) (most := most) (a := a) hm (by rw [hll]; exact h1)
    rw [hll] at hp
    have hg := ptE_gt (l := evenL s x.Levels x.Shifts) (most := most) (a := a) hm (by rw [hll]; exact h1)
    rw [hp]
    simp only [stpF]
    rw [told_nxt h ha hm h1, hN.nv]
    by_cases hn : ptE (evenL s x.Levels x.Shifts) most a < s.Values.length
    · rw [if_pos hn]
      have := told_parts hm f _ hn (by omega)
      simp only [List.length_cons]
      omega
    · rw [if_neg hn, show s.Values.length - ptE (evenL s x.Levels x.Shifts) most a = 0 by omega]
      simp [ptF]
theorem told_stp {most : Int} (h0 : (stpR (toldS s x) most).2 = 0) : (0 ≤ most ∧ most ≤ 24000) ∧ ((stpR (toldS s x) most).1.length : Int) + min 1 (s.Values.length : Int) = ptN (evenL s x.Levels x.Shifts) most := by
  have hN := told_nar h ha
  by_cases hm : 0 ≤ most ∧ most ≤ 24000
  · refine ⟨hm, ?_⟩
    rw [stpR_ok hN.ot.e hm rfl]
    show ((stpL (toldS s x) most).length : Int) + _ = _
    unfold stpL ptN
    rw [hN.nv, evenL_len]
    rcases Nat.eq_zero_or_pos s.Values.length with hz | hz
    · rw [hz]; simp [stpF, ptF]; omega
    · have := told_parts h ha hm.1 s.Values.length 0 hz (by omega)
      rw [Nat.sub_zero] at this
      omega
  · rw [stpR_arg hN.ot.e hm] at h0; cases h0
/-! ### slopes -/
end
end Go.Proofs.C8
/- Century: what the reference computes: weights, extremes, ranks, changes. -/
namespace Go.Proofs.C8
open Go Go.Kx

def wt1 (s : Ser) (x : Span) (i : Nat) : Int := if inT x (gt s.Values i).Time then 1 else 0
def askR (s : Ser) (x : Span) : List Int × Int × Int := if chkE s ≠ 0 then ([], 0, chkE s) else if ¬ spOk x 0 10000 then ([], 0, 1) else if wtC s x = 0 then ([], 0, 3) else (wtL s x 1, wtC s x, 0)
/-! ### extremes -/
def exQ (s : Ser) (x : Span) : Nat → Span × Span
  | 0 => (⟨1099511627776, 1099511627776⟩, ⟨-1099511627776, -1099511627776⟩)
  | n + 1 => if inT x (gt s.Values n).Time then (⟨min (exQ s x n).1.Lo (evS s n).Lo, min (exQ s x n).1.Hi (evS s n).Hi⟩, ⟨max (exQ s x n).2.Lo (evS s n).Lo, max (exQ s x n).2.Hi (evS s n).Hi⟩) else exQ s x n
/-! ### ranks -/
/-! ### changes -/
def chg1 (s : Ser) (a b : Span) (i : Nat) : Int := gt (wtL s b 1) i * wtC s a - gt (wtL s a 1) i * wtC s b
end Go.Proofs.C8
/- Century: what the reference computes: falls, steps, breaks. -/
namespace Go.Proofs.C8
open Go Go.Kx

/-- the span of all that is known of a part's last value, by its index -/
def runK (s : Ser) (most : Int) (a : Nat) : Nat → Span
  | 0 => ⟨(gt s.Values a).Levels.Lo - most, (gt s.Values a).Levels.Hi⟩
  | k + 1 => if k + 1 ≤ a then ⟨(gt s.Values a).Levels.Lo - most, (gt s.Values a).Levels.Hi⟩ else
    ⟨max ((runK s most a k).Lo + (bt s.Shifts (gt s.Values k).Time (gt s.Values (k + 1)).Time).Lo) ((gt s.Values (k + 1)).Levels.Lo - most), min ((runK s most a k).Hi + (bt s.Shifts (gt s.Values k).Time (gt s.Values (k + 1)).Time).Hi) (gt s.Values (k + 1)).Levels.Hi⟩
def runBad (s : Ser) (most : Int) (a k : Nat) : Prop := (runK s most a k).Hi < (runK s most a k).Lo
theorem nxt_bd {s : Ser} {most : Int} {a : Nat} (ha : a < s.Values.length) : a < nxt s most a ∧ nxt s most a ≤ s.Values.length := (nxt_good ha).1
theorem stp_more {s : Ser} {most : Int} {a : Nat} (ha : a < s.Values.length) (h : nxt s most a < s.Values.length) : stpF s most (s.Values.length - a) a = (gt s.Values (nxt s most a)).Time :: stpF s most (s.Values.length - nxt s most a) (nxt s most a) := by
  obtain ⟨g, hg⟩ : ∃ g, s.Values.length - a = g + 1 := ⟨s.Values.length - a - 1, by omega⟩
  have hb := nxt_bd (most := most) ha
  rw [hg, stpF, if_pos h, stpF_fuel s most g _ (by omega)]
theorem stp_end {s : Ser} {most : Int} {a : Nat} (ha : a < s.Values.length) (h : ¬ nxt s most a < s.Values.length) : stpF s most (s.Values.length - a) a = [] := by
  obtain ⟨g, hg⟩ : ∃ g, s.Values.length - a = g + 1 := ⟨s.Values.length - a - 1, by omega⟩
  rw [hg, stpF, if_neg h]
end Go.Proofs.C8
/- Century: what the reference computes: common times, breaks. -/
namespace Go.Proofs.C8
open Go Go.Kx

def prOf (p : A2) : Pr := ⟨p.a, p.b⟩
def prN (s t : Ser) (n : Nat) : List Pr := (comN s t n).map prOf
def prL (s t : Ser) : List Pr := (comL s t).map prOf
def prI (s t : Ser) (i k : Nat) : List Pr := prN s t i ++ (if 0 ≤ idxR t (gt s.Values i).Time ∧ idxR t (gt s.Values i).Time < k then [⟨i, idxR t (gt s.Values i).Time⟩] else [])
end Go.Proofs.C8
/- Century: what the reference computes: differences, chains of common times. -/
namespace Go.Proofs.C8
open Go Go.Kx

def plnS (s t : Ser) (x : Pr) : Span := ⟨(gt s.Values x.s.toNat).Levels.Lo - (gt t.Values x.t.toNat).Levels.Hi, (gt s.Values x.s.toNat).Levels.Hi - (gt t.Values x.t.toNat).Levels.Lo⟩
def shfS (s t : Ser) (a b : Int) : Span := ⟨(bt s.Shifts a b).Lo - (bt t.Shifts a b).Hi, (bt s.Shifts a b).Hi - (bt t.Shifts a b).Lo⟩
def prOk (s t : Ser) (x : Pr) : Prop := (0 ≤ x.s ∧ x.s < s.Values.length) ∧ (0 ≤ x.t ∧ x.t < t.Values.length)
/-- the shifts between two times, whichever is the later one -/
def hopS (s t : Ser) (a b : Int) : Span := if b < a then ⟨0 - (shfS s t (min a b) (max a b)).Hi, 0 - (shfS s t (min a b) (max a b)).Lo⟩ else shfS s t (min a b) (max a b)
def prT (s : Ser) (x : Pr) : Int := (gt s.Values x.s.toNat).Time
def chN (s t : Ser) (l : List Pr) (most : Int) : Nat → Span
  | 0 => ⟨(plnS s t (gt l 0)).Lo - most, (plnS s t (gt l 0)).Hi⟩
  | k + 1 => ⟨max ((chN s t l most k).Lo + (hopS s t (prT s (gt l k)) (prT s (gt l (k + 1)))).Lo) ((plnS s t (gt l (k + 1))).Lo - most), min ((chN s t l most k).Hi + (hopS s t (prT s (gt l k)) (prT s (gt l (k + 1)))).Hi) (plnS s t (gt l (k + 1))).Hi⟩
def chBad (s t : Ser) (l : List Pr) (most : Int) (k : Nat) : Prop := (chN s t l most k).Hi < (chN s t l most k).Lo
instance (s t : Ser) (l : List Pr) (most : Int) : DecidablePred (chBad s t l most) := fun k => by unfold chBad; exact inferInstance
def chR (s t : Ser) (l : List Pr) (most : Int) : Span := chN s t l most (first (chBad s t l most) (l.length - 1))
end Go.Proofs.C8
/- Century: what the reference's chains tell is what the program's windows tell. -/
namespace Go.Proofs.C8
open Go Go.Kx

/-! ### ahead and behind -/
def ahN (s t : Ser) (time : Int) : Nat → List Pr
  | 0 => []
  | n + 1 => if (gt s.Values (gt (prL s t) n).s.toNat).Time < time then ahN s t time n ++ [gt (prL s t) n] else ahN s t time n
def bhN (s t : Ser) (time : Int) : Nat → List Pr
  | 0 => []
  | n + 1 => if (gt s.Values (gt (prL s t) n).s.toNat).Time < time then bhN s t time n else [gt (prL s t) n] ++ bhN s t time n
end Go.Proofs.C8
/- Century: what the reference computes: parts. -/
namespace Go.Proofs.C8
open Go Go.Kx

def cutVN (s : Ser) (x : Span) : Nat → List Val
  | 0 => []
  | n + 1 => if inT x (gt s.Values n).Time then cutVN s x n ++ [gt s.Values n] else cutVN s x n
def cutXN (s : Ser) (x : Span) : Nat → List Shf
  | 0 => []
  | n + 1 => if inT x (gt s.Shifts n).Time then cutXN s x n ++ [gt s.Shifts n] else cutXN s x n
def cutS (s : Ser) (x : Span) : Ser := ⟨cutVN s x s.Values.length, cutXN s x s.Shifts.length⟩
def cutR (s : Ser) (x : Span) : Ser × Int := if chkE s ≠ 0 then (⟨[], []⟩, chkE s) else if ¬ spOk x 0 10000 then (⟨[], []⟩, 1) else (cutS s x, 0)
theorem cutR_err {s : Ser} {x : Span} (h : chkE s ≠ 0) : cutR s x = (⟨[], []⟩, chkE s) := if_pos h
theorem cutR_arg {s : Ser} {x : Span} (h : chkE s = 0) (h1 : ¬ spOk x 0 10000) : cutR s x = (⟨[], []⟩, 1) := by rw [cutR, if_neg (by omega), if_pos h1]
theorem cutR_ok {s : Ser} {x : Span} (h : chkE s = 0) (h1 : spOk x 0 10000) : cutR s x = (cutS s x, 0) := by rw [cutR, if_neg (by omega), if_neg (fun hn => hn h1)]
/-! ### narrower -/
def meetS (a b : Span) : Span := ⟨max a.Lo b.Lo, min a.Hi b.Hi⟩
def narV (s : Ser) (k : Nat) (x : Span) : List Val := s.Values.set k ⟨(gt s.Values k).Time, meetS (gt s.Values k).Levels x⟩
def narR (s : Ser) (time : Int) (x : Span) : Ser × Int := if chkE s ≠ 0 then (⟨[], []⟩, chkE s) else if idxR s time < 0 then (⟨[], []⟩, 3) else
  if (meetS (gt s.Values (idxR s time).toNat).Levels x).Hi < (meetS (gt s.Values (idxR s time).toNat).Levels x).Lo then (⟨[], []⟩, 3) else (⟨narV s (idxR s time).toNat x, s.Shifts⟩, 0)
end Go.Proofs.C8
