/- Century: means, changes, trends, in plain Lean. -/
import Derived.Test.YtednficclnjmjaaC8Lin
namespace Go.Proofs.C8
open Go Go.Kx

/-- factors, when k values have been looked at -/
def wtP (s : Ser) (x : Span) (c : Int) (k : Nat) : List Int := (List.range s.Values.length).map fun i => if i < k ∧ inT x (gt s.Values i).Time then c else 0
theorem wtP_len (s : Ser) (x : Span) (c : Int) (k : Nat) : (wtP s x c k).length = s.Values.length := map_len _ _
theorem wtL_len (s : Ser) (x : Span) (c : Int) : (wtL s x c).length = s.Values.length := map_len _ _
theorem wtP_zero (s : Ser) (x : Span) (c : Int) : wtP s x c 0 = List.replicate s.Values.length 0 := by
  apply ext_gt
  · simp [wtP]
  · intro j hj
    rw [wtP_len] at hj
    rw [wtP, gt_map hj, if_neg (by omega), gt_rep hj]
theorem wtP_all (s : Ser) (x : Span) (c : Int) : wtP s x c s.Values.length = wtL s x c := by
  apply ext_gt
  · simp [wtP, wtL]
  · intro j hj
    rw [wtP_len] at hj
    rw [wtP, gt_map hj, wtL, gt_map hj]
    by_cases h : inT x (gt s.Values j).Time
    · rw [if_pos ⟨hj, h⟩, if_pos h]
    · rw [if_neg (fun h2 => h h2.2), if_neg h]
theorem wtP_yes {s : Ser} {x : Span} {c : Int} {k : Nat} (h : inT x (gt s.Values k).Time) : (wtP s x c k).set k c = wtP s x c (k + 1) := by
  apply ext_gt
  · simp [wtP]
  · intro j hj
    rw [List.length_set, wtP_len] at hj
    rw [gt_set _ _ (by rw [wtP_len]; exact hj), wtP, gt_map hj, wtP, gt_map hj]
    by_cases hkj : k = j
    · subst hkj; rw [if_pos rfl, if_pos ⟨by omega, h⟩]
    · rw [if_neg hkj]
      by_cases h2 : j < k ∧ inT x (gt s.Values j).Time
      · rw [if_pos h2, if_pos ⟨by omega, h2.2⟩]
      · rw [if_neg h2, if_neg (fun h3 => h2 ⟨by omega, h3.2⟩)]
theorem wtP_same {s : Ser} {x : Span} {c : Int} : ∀ {a b : Nat}, a ≤ b → wtN s x a = wtN s x b → wtP s x c a = wtP s x c b
  | a, 0, h, _ => by obtain rfl : a = 0 := by omega
                     rfl
  | a, b + 1, h, he => by
    rcases Nat.lt_or_ge a (b + 1) with h1 | h1
    · have h2 := wtN_le s x (a := a) (b := b) (by omega)
      by_cases h3 : inT x (gt s.Values b).Time
      · rw [wtN_yes h3] at he; omega
      · rw [wtN_no h3] at he
        rw [wtP_same (a := a) (b := b) (by omega) he]
        apply ext_gt
        · simp [wtP]
        · intro j hj
          rw [wtP_len] at hj
          rw [wtP, gt_map hj, wtP, gt_map hj]
          by_cases hjb : j = b
          · subst hjb; rw [if_neg (by omega), if_neg (fun h4 => h3 h4.2)]
          · by_cases h4 : j < b ∧ inT x (gt s.Values j).Time
            · rw [if_pos h4, if_pos ⟨by omega, h4.2⟩]
            · rw [if_neg h4, if_neg (fun h5 => h4 ⟨by omega, h5.2⟩)]
    · obtain rfl : a = b + 1 := by omega
      rfl
theorem wtP_eq {s : Ser} {x : Span} {c : Int} {a b : Nat} (he : wtN s x a = wtN s x b) : wtP s x c a = wtP s x c b := by
  rcases Nat.le_total a b with h | h
  · exact wtP_same h he
  · exact (wtP_same h he.symm).symm
theorem wt_fac {s : Ser} {x : Span} {c : Int} (hc : -10000000 ≤ c ∧ c ≤ 10000000) : facW s (wtL s x c) := ⟨wtL_len s x c, fun i hi => by rw [wtL, gt_map hi]; split <;> omega⟩
theorem wtC_le (s : Ser) (x : Span) : wtC s x ≤ s.Values.length := wtN_len s x _
def mbR (s : Ser) (x : Span) : Ratio × Ratio × Int := if chkE s ≠ 0 then (⟨0, 0⟩, ⟨0, 0⟩, chkE s) else if ¬ spOk x 0 10000 then (⟨0, 0⟩, ⟨0, 0⟩, 1) else if wtC s x = 0 then (⟨0, 0⟩, ⟨0, 0⟩, 3)
  else (lowR (bd s (wtL s x 1)).Lo (wtC s x), lowR (bd s (wtL s x 1)).Hi (wtC s x), 0)
theorem mbR_err {s : Ser} {x : Span} (h : chkE s ≠ 0) : mbR s x = (⟨0, 0⟩, ⟨0, 0⟩, chkE s) := by rw [mbR, if_pos h]
theorem mbR_arg {s : Ser} {x : Span} (h : chkE s = 0) (h1 : ¬ spOk x 0 10000) : mbR s x = (⟨0, 0⟩, ⟨0, 0⟩, 1) := by rw [mbR, if_neg (by omega), if_pos h1]
theorem mbR_none {s : Ser} {x : Span} (h : chkE s = 0) (h1 : spOk x 0 10000) (h2 : (wtC s x : Int) = 0) : mbR s x = (⟨0, 0⟩, ⟨0, 0⟩, 3) := by rw [mbR, if_neg (by omega), if_neg (fun hn => hn h1), if_pos (by omega)]
theorem mbR_ok {s : Ser} {x : Span} (h : chkE s = 0) (h1 : spOk x 0 10000) (h2 : ¬ (wtC s x : Int) = 0) : mbR s x = (lowR (bd s (wtL s x 1)).Lo (wtC s x), lowR (bd s (wtL s x 1)).Hi (wtC s x), 0) := by rw [mbR, if_neg (by omega), if_neg (fun hn => hn h1), if_neg (by omega)]
theorem bd_bd {s : Ser} (h : Ok s) {f : List Int} (hf : facW s f) : (-4000000000000000000 ≤ (bd s f).Lo ∧ (bd s f).Lo ≤ 4000000000000000000) ∧ (-4000000000000000000 ≤ (bd s f).Hi ∧ (bd s f).Hi ≤ 4000000000000000000) := bdX_bd (sum_w h hf)
theorem bd_order {s : Ser} (h : Ok s) {f : List Int} (hf : facW s f) : (bd s f).Lo ≤ (bd s f).Hi := bdX_order (sum_w h hf)
/-! ### signs -/
def cmpR (x y : Int) : Int := if x < y then -1 else if y < x then 1 else 0
def sureS (b : Span) : Int := if 0 < b.Lo then 1 else if b.Hi < 0 then -1 else 0
theorem sure_sign {b : Span} (h : b.Lo ≤ b.Hi) : max 0 (cmpR b.Lo 0) + min 0 (cmpR b.Hi 0) = sureS b := by
  unfold cmpR sureS
  (repeat' split) <;> omega
/-! ### changes -/
def subL (A B : List Int) : List Int := (List.range A.length).map fun i => gt A i - gt B i
def SubI (A B : List Int) (k : Nat) (M : List Int) : Prop := M.length = A.length ∧ ∀ q, q < A.length → gt M q = if q < k then gt A q - gt B q else gt A q
theorem sub_start (A B : List Int) : SubI A B 0 A := ⟨rfl, fun q _ => by rw [if_neg (by omega)]⟩
theorem sub_at {A B M : List Int} {k : Nat} (h : SubI A B k M) (hk : k < A.length) : gt M k = gt A k := by rw [h.2 k hk, if_neg (by omega)]
theorem sub_step {A B M : List Int} {k : Nat} (h : SubI A B k M) (hk : k < A.length) : SubI A B (k + 1) (M.set k (gt M k - gt B k)) := by
  refine ⟨by simp [h.1], fun q hq => ?_⟩
  rw [gt_set _ _ (by rw [h.1]; exact hq)]
  by_cases h1 : k = q
  · subst h1; rw [if_pos rfl, if_pos (by omega), sub_at h hk]
  · rw [if_neg h1, h.2 q hq]
    by_cases h2 : q < k
    · rw [if_pos h2, if_pos (by omega)]
    · rw [if_neg h2, if_neg (by omega)]
theorem sub_end {A B M : List Int} (h : SubI A B A.length M) : M = subL A B := by
  apply ext_gt
  · simp [h.1, subL]
  · intro q hq
    rw [h.1] at hq
    rw [h.2 q hq, if_pos hq, subL, gt_map hq]
def chgL (s : Ser) (a b : Span) : List Int := subL (wtL s b (wtC s a)) (wtL s a (wtC s b))
def chgR (s : Ser) (a b : Span) : Int × Int := if chkE s ≠ 0 then (0, chkE s) else if ¬ (spOk a 0 10000 ∧ spOk b 0 10000) then (0, 1) else if wtC s a = 0 ∨ wtC s b = 0 then (0, 3) else (sureS (bd s (chgL s a b)), 0)
theorem chg_fac {s : Ser} (h : Ok s) (a b : Span) : facW s (chgL s a b) := by
  have h1 := wtC_le s a
  have h2 := wtC_le s b
  have h3 := h.nV
  refine ⟨by unfold chgL subL; rw [map_len, wtL_len], fun i hi => ?_⟩
  unfold chgL subL
  rw [gt_map (by rw [wtL_len]; exact hi), wtL, gt_map hi, wtL, gt_map hi]
  split <;> split <;> omega
theorem chgR_err {s : Ser} {a b : Span} (h : chkE s ≠ 0) : chgR s a b = (0, chkE s) := by rw [chgR, if_pos h]
theorem chgR_arg {s : Ser} {a b : Span} (h : chkE s = 0) (h1 : ¬ (spOk a 0 10000 ∧ spOk b 0 10000)) : chgR s a b = (0, 1) := by rw [chgR, if_neg (by omega), if_pos h1]
theorem chgR_none {s : Ser} {a b : Span} (h : chkE s = 0) (h1 : spOk a 0 10000 ∧ spOk b 0 10000) (h2 : (wtC s a : Int) = 0 ∨ (wtC s b : Int) = 0) : chgR s a b = (0, 3) := by rw [chgR, if_neg (by omega), if_neg (fun hn => hn h1), if_pos (by omega)]
theorem chgR_ok {s : Ser} {a b : Span} (h : chkE s = 0) (h1 : spOk a 0 10000 ∧ spOk b 0 10000) (h2 : ¬ ((wtC s a : Int) = 0 ∨ (wtC s b : Int) = 0)) : chgR s a b = (sureS (bd s (chgL s a b)), 0) := by rw [chgR, if_neg (by omega), if_neg (fun hn => hn h1), if_neg (by omega)]
/-! ### trends -/
def trendR (s : Ser) : Int × Int := if twoVE s ≠ 0 then (0, twoVE s) else (sureS (bdX (slpS s)), 0)
def satR (s : Ser) (b : Bool) : List Int × List Int × Int := if twoVE s ≠ 0 then ([], [], twoVE s) else (endV s (momL s) b, endX s (sumXL s (momL s)) b, 0)
end Go.Proofs.C8
