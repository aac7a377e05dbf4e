/- Century: what the reference computes: weights, extremes, ranks, changes. -/
import Derived.Test.YtednficclnjmjaaC8Ref
import Derived.Test.YtednficclnjmjaaC8LExact
namespace Go.Proofs.C8
open Go Go.Kx

def wt1 (s : Ser) (x : Span) (i : Nat) : Int := if inT x (gt s.Values i).Time then 1 else 0
theorem wt1_yes {s : Ser} {x : Span} {k : Nat} (h : inT x (gt s.Values k).Time) : (List.range k).map (wt1 s x) ++ [1] = (List.range (k + 1)).map (wt1 s x) := by
  rw [← map_succ, wt1, if_pos h]
theorem wt1_no {s : Ser} {x : Span} {k : Nat} (h : ¬ inT x (gt s.Values k).Time) : (List.range k).map (wt1 s x) ++ [0] = (List.range (k + 1)).map (wt1 s x) := by
  rw [← map_succ, wt1, if_neg h]
def askR (s : Ser) (x : Span) : List Int × Int × Int := if chkE s ≠ 0 then ([], 0, chkE s) else if ¬ spOk x 0 10000 then ([], 0, 1) else if wtC s x = 0 then ([], 0, 3) else (wtL s x 1, wtC s x, 0)
theorem askR_err {s : Ser} {x : Span} (h : chkE s ≠ 0) : askR s x = ([], 0, chkE s) := by rw [askR, if_pos h]
theorem askR_arg {s : Ser} {x : Span} (h : chkE s = 0) (h1 : ¬ spOk x 0 10000) : askR s x = ([], 0, 1) := by rw [askR, if_neg (by omega), if_pos h1]
theorem askR_none {s : Ser} {x : Span} (h : chkE s = 0) (h1 : spOk x 0 10000) (h2 : (wtC s x : Int) = 0) : askR s x = ([], 0, 3) := by rw [askR, if_neg (by omega), if_neg (fun hn => hn h1), if_pos (by omega)]
theorem askR_ok {s : Ser} {x : Span} (h : chkE s = 0) (h1 : spOk x 0 10000) (h2 : ¬ (wtC s x : Int) = 0) : askR s x = (wtL s x 1, (wtC s x : Int), 0) := by rw [askR, if_neg (by omega), if_neg (fun hn => hn h1), if_neg (by omega)]
theorem askR_zero {s : Ser} {x : Span} (h : (askR s x).2.2 = 0) : Ok s ∧ spOk x 0 10000 ∧ 0 < wtC s x ∧ askR s x = (wtL s x 1, (wtC s x : Int), 0) := by
  by_cases h0 : chkE s = 0
  · by_cases h1 : spOk x 0 10000
    · by_cases h2 : (wtC s x : Int) = 0
      · rw [askR_none h0 h1 h2] at h; cases h
      · exact ⟨Ok.of h0, h1, by omega, askR_ok h0 h1 h2⟩
    · rw [askR_arg h0 h1] at h; cases h
  · rw [askR_err h0] at h; exact absurd h h0
theorem mbR_bad {s : Ser} {x : Span} (h : (askR s x).2.2 ≠ 0) : mbR s x = (⟨0, 0⟩, ⟨0, 0⟩, (askR s x).2.2) := by
  by_cases h0 : chkE s = 0
  · by_cases h1 : spOk x 0 10000
    · by_cases h2 : (wtC s x : Int) = 0
      · rw [askR_none h0 h1 h2, mbR_none h0 h1 h2]
      · rw [askR_ok h0 h1 h2] at h; exact absurd rfl h
    · rw [askR_arg h0 h1, mbR_arg h0 h1]
  · rw [askR_err h0, mbR_err h0]
theorem mbR_yes {s : Ser} {x : Span} (h : (askR s x).2.2 = 0) : mbR s x = (lowR (bd s (wtL s x 1)).Lo (wtC s x), lowR (bd s (wtL s x 1)).Hi (wtC s x), 0) := by
  have ha := askR_zero h
  exact mbR_ok ha.1.e ha.2.1 (by omega)
/-! ### extremes -/
def exQ (s : Ser) (x : Span) : Nat → Span × Span
  | 0 => (⟨1099511627776, 1099511627776⟩, ⟨-1099511627776, -1099511627776⟩)
  | n + 1 => if inT x (gt s.Values n).Time then (⟨min (exQ s x n).1.Lo (evS s n).Lo, min (exQ s x n).1.Hi (evS s n).Hi⟩, ⟨max (exQ s x n).2.Lo (evS s n).Lo, max (exQ s x n).2.Hi (evS s n).Hi⟩) else exQ s x n
theorem exQ_yes {s : Ser} {x : Span} {n : Nat} (h : inT x (gt s.Values n).Time) : exQ s x (n + 1) = (⟨min (exQ s x n).1.Lo (evS s n).Lo, min (exQ s x n).1.Hi (evS s n).Hi⟩, ⟨max (exQ s x n).2.Lo (evS s n).Lo, max (exQ s x n).2.Hi (evS s n).Hi⟩) := by rw [exQ, if_pos h]
theorem exQ_no {s : Ser} {x : Span} {n : Nat} (h : ¬ inT x (gt s.Values n).Time) : exQ s x (n + 1) = exQ s x n := by rw [exQ, if_neg h]
theorem ev_bdQ {s : Ser} (h : Ok s) {i : Nat} (hi : i < s.Values.length) : -1000000 ≤ (evS s i).Lo ∧ (evS s i).Lo ≤ (evS s i).Hi ∧ (evS s i).Hi ≤ 1000000 := by
  have h1 := bt_bd h (-1) (gt s.Values i).Time (Nat.le_refl _)
  have h2 := h.vl hi
  unfold evS
  dsimp only
  omega
theorem exQ_ext {s : Ser} (h : Ok s) (x : Span) : ∀ n : Nat, n ≤ s.Values.length → ((extN s x n).2.2 = decide (0 < wtN s x n)) ∧ ((extN s x n).2.2 = true → exQ s x n = ((extN s x n).1, (extN s x n).2.1)) ∧ ((extN s x n).2.2 = false → exQ s x n = (⟨1099511627776, 1099511627776⟩, ⟨-1099511627776, -1099511627776⟩))
  | 0, _ => ⟨rfl, fun hh => (by cases hh), fun _ => rfl⟩
  | n + 1, hn => by
    obtain ⟨h1, h2, h3⟩ := exQ_ext h x n (by omega)
    have hb := ev_bdQ h (i := n) (by omega)
    by_cases hin : inT x (gt s.Values n).Time
    · rw [exQ_yes hin, wtN_yes hin]
      cases hf : (extN s x n).2.2 with
      | true =>
        rw [ext_more hin hf, h2 hf]
        exact ⟨by simp, fun _ => rfl, fun hh => (by cases hh)⟩
      | false =>
        rw [ext_one hin hf, h3 hf]
        refine ⟨by simp, fun _ => ?_, fun hh => (by cases hh)⟩
        have e1 : min (1099511627776 : Int) (evS s n).Lo = (evS s n).Lo := by omega
        have e2 : min (1099511627776 : Int) (evS s n).Hi = (evS s n).Hi := by omega
        have e3 : max (-1099511627776 : Int) (evS s n).Lo = (evS s n).Lo := by omega
        have e4 : max (-1099511627776 : Int) (evS s n).Hi = (evS s n).Hi := by omega
        rw [e1, e2, e3, e4]
    · have e1 : extN s x (n + 1) = extN s x n := by rw [extN, if_neg hin]
      rw [exQ_no hin, wtN_no hin, e1]
      exact ⟨h1, h2, h3⟩
theorem extR_badQ {s : Ser} {x : Span} (h : (askR s x).2.2 ≠ 0) : extR s x = (⟨0, 0⟩, ⟨0, 0⟩, (askR s x).2.2) := by
  by_cases h0 : chkE s = 0
  · have hq := (exQ_ext (Ok.of h0) x _ (Nat.le_refl _)).1
    by_cases h1 : spOk x 0 10000
    · by_cases h2 : (wtC s x : Int) = 0
      · rw [askR_none h0 h1 h2, extR_none h0 h1 (by rw [hq]; exact decide_eq_false (by unfold wtC at h2; omega))]
      · rw [askR_ok h0 h1 h2] at h; exact absurd rfl h
    · rw [askR_arg h0 h1, extR_arg h0 h1]
  · rw [askR_err h0, extR_err h0]
theorem extR_yesQ {s : Ser} {x : Span} (h : (askR s x).2.2 = 0) : extR s x = ((exQ s x s.Values.length).1, (exQ s x s.Values.length).2, 0) := by
  have ha := askR_zero h
  have hq := exQ_ext ha.1 x _ (Nat.le_refl _)
  have hf : (extN s x s.Values.length).2.2 = true := by rw [hq.1]; exact decide_eq_true ha.2.2.1
  rw [extR_ok ha.1.e ha.2.1 hf, hq.2.1 hf]
/-! ### ranks -/
theorem sumN_z {f : Nat → Int} : ∀ {n : Nat}, (∀ i, i < n → f i = 0) → sumN f n = 0
  | 0, _ => rfl
  | n + 1, h => by
    rw [sumN, sumN_z (fun i hi => h i (by omega)), h n (by omega)]
    rfl
theorem gap_self (s : Ser) (i : Nat) : (gap s i i).Lo = 0 ∧ (gap s i i).Hi = 0 := by
  have hz : ∀ j, j < s.Values.length → gt (gapL s.Values.length i i) j = 0 := fun j hj => by rw [gapL, gt_map hj]; omega
  have key : ∀ b, totS s (gapL s.Values.length i i) (sumXL s (gapL s.Values.length i i)) b = 0 := fun b => by
    unfold totS totN
    rw [sumN_z (fun j hj => by rw [hz j hj, Int.zero_mul]), sumN_z (fun k hk => by
      rw [sumXL, gt_map hk, sumX, sumN_z (fun j hj => by rw [hz j hj]; split <;> rfl)]
      exact Int.zero_mul _)]
    rfl
  exact ⟨key false, key true⟩
theorem rankN_lo (s : Ser) (w n : Nat) : (rankN s w (n + 1)).Lo = (rankN s w n).Lo + (if (gap s n w).Hi < 0 then 1 else 0) := by
  rw [rankN]
  split
  · rename_i h; subst h; rw [(gap_self s n).2]; simp
  · rfl
theorem rankN_hi (s : Ser) (w n : Nat) : (rankN s w (n + 1)).Hi = (rankN s w n).Hi + (if (gap s n w).Lo < 0 then 1 else 0) := by
  rw [rankN]
  split
  · rename_i h; subst h; rw [(gap_self s n).1]; simp
  · rfl
theorem rankR_yes {s : Ser} {t : Int} {k : Nat} (h : Ok s) (hk : k < s.Values.length) (ha : ∀ j, j < k → (gt s.Values j).Time ≠ t) (ht : (gt s.Values k).Time = t) : rankR s t = (rankN s k s.Values.length, 0) := by
  rw [rankR_val h, idxR_yes hk ha ht, if_neg (by omega), Int.toNat_natCast]
theorem rankR_no {s : Ser} {t : Int} (h : Ok s) (ha : ∀ j, j < s.Values.length → (gt s.Values j).Time ≠ t) : rankR s t = (⟨0, 0⟩, 3) := by
  rw [rankR_val h, idxR_no ha, if_pos (by omega)]
theorem rankR_bad {s : Ser} {t : Int} (h : chkE s ≠ 0) : rankR s t = (⟨0, 0⟩, chkE s) := by rw [rankR, if_pos h]
/-! ### changes -/
def chg1 (s : Ser) (a b : Span) (i : Nat) : Int := gt (wtL s b 1) i * wtC s a - gt (wtL s a 1) i * wtC s b
theorem chgL_eq (s : Ser) (a b : Span) : (List.range s.Values.length).map (chg1 s a b) = chgL s a b := by
  apply ext_gt
  · rw [map_len, chgL, subL, map_len, wtL_len]
  · intro j hj
    rw [map_len] at hj
    rw [gt_map hj, chgL, subL, gt_map (by rw [wtL_len]; exact hj), chg1, wtL, gt_map hj, wtL, gt_map hj, wtL, gt_map hj, wtL, gt_map hj]
    split <;> split <;> omega
end Go.Proofs.C8
