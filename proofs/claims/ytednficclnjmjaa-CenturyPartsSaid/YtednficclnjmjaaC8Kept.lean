import Derived.Test.YtednficclnjmjaaC8Lin
import Derived.Test.YtednficclnjmjaaC8Join
/- Century: the values that a span keeps of a series, and a series joined with itself; in plain Lean. -/
namespace Go.Proofs.C8
open Go Go.Kx

/-! ### sums over lists -/
def sumA {α : Type} [Inhabited α] (F : α → Int) (L : List α) : Int := sumN (fun k => F (gt L k)) L.length
section
variable {α : Type} [Inhabited α] {F G : α → Int} {p : α → Bool}
theorem sumA_cons (F : α → Int) (x : α) (xs : List α) : sumA F (x :: xs) = F x + sumA F xs := sumN_first _ _
theorem sumA_filter : ∀ {xs : List α}, (∀ x ∈ xs, p x = false → F x = 0) → sumA F (xs.filter p) = sumA F xs
  | [], _ => rfl
  | x :: xs, h => by
    have ih := sumA_filter (xs := xs) (fun y hy => h y (by simp [hy]))
    rw [sumA_cons]
    cases hp : p x with
    | true => rw [List.filter_cons_of_pos hp, sumA_cons, ih]
    | false => rw [List.filter_cons_of_neg (by simp [hp]), ih, h x (by simp) hp]; omega
theorem sumA_congr {xs : List α} (h : ∀ x ∈ xs, F x = G x) : sumA F xs = sumA G xs := sumN_congr fun _ hk => h _ (mem_gt0 hk)
theorem sumA_zero {xs : List α} (h : ∀ x ∈ xs, F x = 0) : sumA F xs = 0 := by
  rw [sumA_congr (G := fun _ => 0) h]; unfold sumA; rw [sumN_const]; simp
theorem filter_snoc_yes {L : List α} {k : Nat} (hk : k < L.length) (h : p (gt L k) = true) : (L.take k).filter p ++ [gt L k] = (L.take (k + 1)).filter p := by
  rw [take_snoc hk, List.filter_append, List.filter_cons_of_pos h, List.filter_nil]
theorem filter_snoc_no {L : List α} {k : Nat} (hk : k < L.length) (h : p (gt L k) = false) : (L.take k).filter p = (L.take (k + 1)).filter p := by
  rw [take_snoc hk, List.filter_append, List.filter_cons_of_neg (by simp [h]), List.filter_nil, List.append_nil]
omit [Inhabited α] in
theorem filter_twice (L : List α) (p : α → Bool) : (L.filter p).filter p = L.filter p := by
  rw [List.filter_filter]; congr 1; funext x; simp
omit [Inhabited α] in
theorem fold_same {β : Type} {f g : β → α → β} : ∀ (L : List α) (r : β), (∀ v ∈ L, ∀ r, f r v = g r v) → L.foldl f r = L.foldl g r
  | [], _, _ => rfl
  | v :: L, r, h => by rw [List.foldl_cons, List.foldl_cons, h v (by simp), fold_same L _ fun u hu => h u (by simp [hu])]
end
/-! ### the values that a span keeps -/
def keptS (s : Ser) (a : Span) : Ser := ⟨s.Values.filter (kpV a), s.Shifts.filter (kpX ⟨0, a.Hi⟩)⟩
theorem kpV_iff {x : Span} {v : Val} : kpV x v = true ↔ inT x v.Time := by unfold kpV; exact decide_eq_true_iff
theorem kpV_not {x : Span} {v : Val} : kpV x v = false ↔ ¬ inT x v.Time := by unfold kpV; exact decide_eq_false_iff_not
theorem kept_ok {s : Ser} (h : Ok s) (a : Span) : Ok (keptS s a) := by
  have h1 := okV_pair.1 h.v
  have h2 := okX_pair.1 h.x
  exact ⟨Nat.le_trans (List.length_filter_le _ _) h.nV, Nat.le_trans (List.length_filter_le _ _) h.nX, okV_pair.2 ⟨fun v hv => h1.1 v (List.mem_filter.1 hv).1, h1.2.filter _⟩, okX_pair.2 ⟨fun v hv => h2.1 v (List.mem_filter.1 hv).1, h2.2.filter _⟩⟩
def evO (xs : List Shf) (v : Val) : Span := ⟨v.Levels.Lo - (bt xs (-1) v.Time).Hi, v.Levels.Hi - (bt xs (-1) v.Time).Lo⟩
theorem evO_kept (s : Ser) {a : Span} {v : Val} (hv : inT a v.Time) : evO (keptS s a).Shifts v = evO s.Shifts v := by
  have h1 := bt_cut s (x := ⟨0, a.Hi⟩) (a := -1) (b := v.Time) (by show (0 : Int) ≤ -1 + 1; decide) hv.2
  rw [cutS_filter] at h1
  unfold evO keptS
  dsimp only at h1 ⊢
  rw [h1]
def exStep (xs : List Shf) (r : Span × Span × Bool) (v : Val) : Span × Span × Bool :=
  if r.2.2 then (⟨min r.1.Lo (evO xs v).Lo, min r.1.Hi (evO xs v).Hi⟩, ⟨max r.2.1.Lo (evO xs v).Lo, max r.2.1.Hi (evO xs v).Hi⟩, true) else (evO xs v, evO xs v, true)
theorem extN_fold (s : Ser) (x : Span) : ∀ n, n ≤ s.Values.length → extN s x n = ((s.Values.take n).filter (kpV x)).foldl (exStep s.Shifts) (⟨0, 0⟩, ⟨0, 0⟩, false)
  | 0, _ => rfl
  | n + 1, hn => by
    have ih := extN_fold s x n (by omega)
    by_cases h : inT x (gt s.Values n).Time
    · rw [← filter_snoc_yes (by omega) (kpV_iff.2 h), List.foldl_append, ← ih, extN, if_pos h]; rfl
    · rw [← filter_snoc_no (by omega) (kpV_not.2 h), ← ih, extN, if_neg h]
theorem ext_found (s : Ser) (x : Span) : ∀ n, (extN s x n).2.2 = true ↔ wtN s x n ≠ 0
  | 0 => by simp [extN, wtN]
  | n + 1 => by
    have ih := ext_found s x n
    by_cases h : inT x (gt s.Values n).Time
    · rw [extN, if_pos h, wtN_yes h]; split <;> simp
    · rw [extN, if_neg h, wtN_no h]; exact ih
theorem wtN_filter (s : Ser) (x : Span) : ∀ n, n ≤ s.Values.length → wtN s x n = ((s.Values.take n).filter (kpV x)).length
  | 0, _ => rfl
  | n + 1, hn => by
    have ih := wtN_filter s x n (by omega)
    by_cases h : inT x (gt s.Values n).Time
    · rw [← filter_snoc_yes (by omega) (kpV_iff.2 h), List.length_append, ← ih, wtN_yes h]; rfl
    · rw [← filter_snoc_no (by omega) (kpV_not.2 h), ← ih, wtN_no h]
theorem extN_kept (s : Ser) (a : Span) : extN (keptS s a) a (keptS s a).Values.length = extN s a s.Values.length := by
  rw [extN_fold _ _ _ (Nat.le_refl _), extN_fold _ _ _ (Nat.le_refl _), List.take_length, List.take_length]
  show ((s.Values.filter (kpV a)).filter (kpV a)).foldl _ _ = _
  rw [filter_twice]
  refine fold_same _ _ fun v hv r => ?_
  have h1 := kpV_iff.1 (List.mem_filter.1 hv).2
  unfold exStep
  rw [evO_kept s h1]
theorem wtC_kept (s : Ser) (a : Span) : wtC (keptS s a) a = wtC s a := by
  unfold wtC
  rw [wtN_filter _ _ _ (Nat.le_refl _), wtN_filter _ _ _ (Nat.le_refl _), List.take_length, List.take_length]
  show ((s.Values.filter (kpV a)).filter (kpV a)).length = _
  rw [filter_twice]
/-! ### the sums of a mean, over lists -/
def wOf (x : Span) (v : Val) : Int := if inT x v.Time then 1 else 0
def gOf (V : List Val) (x : Span) (y : Shf) : Int := - sumA (fun v => if y.Time ≤ v.Time then wOf x v else 0) V
def totA (x : Span) (most : Bool) (v : Val) : Int := wOf x v * endS v.Levels (wOf x v) most
def totB (V : List Val) (x : Span) (most : Bool) (y : Shf) : Int := gOf V x y * endS y.Levels (gOf V x y) most
theorem gt_wtL {s : Ser} {x : Span} {i : Nat} (hi : i < s.Values.length) : gt (wtL s x 1) i = wOf x (gt s.Values i) := by rw [wtL, gt_map hi]; rfl
theorem gt_sumXL {s : Ser} {x : Span} {k : Nat} (hk : k < s.Shifts.length) : gt (sumXL s (wtL s x 1)) k = gOf s.Values x (gt s.Shifts k) := by
  rw [sumXL, gt_map hk]
  unfold sumX gOf sumA
  congr 1
  exact sumN_congr fun i hi => by rw [gt_wtL hi]
theorem tot_list (s : Ser) (x : Span) (most : Bool) : totS s (wtL s x 1) (sumXL s (wtL s x 1)) most = sumA (totA x most) s.Values + sumA (totB s.Values x most) s.Shifts := by
  unfold totS totN sumA
  congr 1
  · exact sumN_congr fun i hi => by rw [endV, gt_map hi, gt_wtL hi]; rfl
  · exact sumN_congr fun k hk => by rw [endX, gt_map hk, gt_sumXL hk]; rfl
theorem wOf_no {x : Span} {v : Val} (h : ¬ inT x v.Time) : wOf x v = 0 := if_neg h
theorem tot_kept {s : Ser} (h : Ok s) (a : Span) (most : Bool) : totS (keptS s a) (wtL (keptS s a) a 1) (sumXL (keptS s a) (wtL (keptS s a) a 1)) most = totS s (wtL s a 1) (sumXL s (wtL s a 1)) most := by
  rw [tot_list, tot_list]
  have e1 : sumA (totA a most) (keptS s a).Values = sumA (totA a most) s.Values := sumA_filter fun v _ hv => by
    unfold totA; rw [wOf_no (kpV_not.1 hv), Int.zero_mul]
  have e2 : ∀ y, gOf (keptS s a).Values a y = gOf s.Values a y := fun y => by
    unfold gOf
    congr 1
    exact sumA_filter fun v _ hv => by rw [wOf_no (kpV_not.1 hv)]; split <;> rfl
  have e3 : sumA (totB (keptS s a).Values a most) (keptS s a).Shifts = sumA (totB s.Values a most) (keptS s a).Shifts := sumA_congr fun y _ => by unfold totB; rw [e2]
  have e4 : sumA (totB s.Values a most) (keptS s a).Shifts = sumA (totB s.Values a most) s.Shifts := sumA_filter fun y hy hv => by
    have h0 := (okX_pair.1 h.x).1 y hy
    have h1 : ¬ inT ⟨0, a.Hi⟩ y.Time := by simpa [kpX] using hv
    unfold rngX at h0
    unfold inT at h1
    dsimp only at h1
    have hz : gOf s.Values a y = 0 := by
      unfold gOf
      rw [sumA_zero fun v _ => ?_]; rfl
      by_cases hyv : y.Time ≤ v.Time
      · rw [if_pos hyv, wOf_no (fun hi => by unfold inT at hi; omega)]
      · rw [if_neg hyv]
    unfold totB; rw [hz, Int.zero_mul]
  rw [e1, e3, e4]
theorem bd_kept {s : Ser} (h : Ok s) (a : Span) : bd (keptS s a) (wtL (keptS s a) a 1) = bd s (wtL s a 1) := by
  unfold bd bdS; rw [tot_kept h, tot_kept h]
theorem ext_kept {s : Ser} (h : Ok s) (a : Span) : extR (keptS s a) a = extR s a := by
  unfold extR; rw [(kept_ok h a).e, h.e, extN_kept]
theorem mb_kept {s : Ser} (h : Ok s) (a : Span) : mbR (keptS s a) a = mbR s a := by
  unfold mbR; rw [(kept_ok h a).e, h.e, wtC_kept, bd_kept h]
/-! ### both answer together -/
theorem ext_bad {s : Ser} {x : Span} (h : (extR s x).2.2 ≠ 0) : (extR s x).2.2 = (mbR s x).2.2 := by
  have hf := ext_found s x s.Values.length
  unfold extR mbR at *
  by_cases h1 : chkE s ≠ 0
  · rw [if_pos h1, if_pos h1]
  · rw [if_neg h1] at h ⊢
    rw [if_neg h1]
    by_cases h2 : ¬ spOk x 0 10000
    · rw [if_pos h2, if_pos h2]
    · rw [if_neg h2] at h ⊢
      rw [if_neg h2]
      by_cases h3 : (extN s x s.Values.length).2.2 = true
      · rw [if_pos h3] at h; exact absurd rfl h
      · rw [if_neg h3]
        have h4 : wtC s x = 0 := by
          unfold wtC; exact Classical.byContradiction fun hn => h3 (hf.2 hn)
        rw [if_pos h4]
theorem ext_good {s : Ser} {x : Span} (h : (extR s x).2.2 = 0) : chkE s = 0 ∧ spOk x 0 10000 ∧ (mbR s x).2.2 = 0 := by
  have hf := ext_found s x s.Values.length
  unfold extR at h
  by_cases h1 : chkE s ≠ 0
  · rw [if_pos h1] at h; exact absurd h h1
  · rw [if_neg h1] at h
    by_cases h2 : ¬ spOk x 0 10000
    · rw [if_pos h2] at h; cases h
    · rw [if_neg h2] at h
      by_cases h3 : (extN s x s.Values.length).2.2 = true
      · have h4 : ¬ wtC s x = 0 := hf.1 h3
        have h5 : spOk x 0 10000 := Classical.byContradiction h2
        refine ⟨by omega, h5, ?_⟩
        unfold mbR; rw [if_neg h1, if_neg h2, if_neg h4]
      · rw [if_neg h3] at h; cases h
/-! ### nothing cut, nothing new -/
theorem cut_all {s : Ser} (h : Ok s) : cutR s ⟨0, 10000⟩ = (s, 0) := by
  rw [cutR_ok h.e (by unfold spOk; decide), cutS_filter]
  have h1 := (okV_pair.1 h.v).1
  have h2 := (okX_pair.1 h.x).1
  rw [List.filter_eq_self.2 fun v hv => by have := h1 v hv; unfold rngV at this; exact kpV_iff.2 ⟨this.1.1, this.1.2⟩,
    List.filter_eq_self.2 fun v hv => by have := h2 v hv; unfold rngX at this; unfold kpX; exact decide_eq_true ⟨this.1.1, this.1.2⟩]
theorem cut_front {s : Ser} {a : Span} (h : chkE s = 0) (ha : spOk a 0 10000) : cutR s ⟨0, a.Hi⟩ = (⟨s.Values.filter (kpV ⟨0, a.Hi⟩), s.Shifts.filter (kpX ⟨0, a.Hi⟩)⟩, 0) := by
  rw [cutR_ok h (by unfold spOk at ha ⊢; dsimp only; omega), cutS_filter]
theorem kept_front (s : Ser) {a : Span} (ha : spOk a 0 10000) : (s.Values.filter (kpV ⟨0, a.Hi⟩)).filter (kpV a) = s.Values.filter (kpV a) := by
  rw [List.filter_filter]
  refine List.filter_congr fun v _ => ?_
  by_cases h : inT a v.Time
  · have h2 : inT ⟨0, a.Hi⟩ v.Time := by unfold spOk at ha; unfold inT at h ⊢; dsimp only; omega
    rw [kpV_iff.2 h, kpV_iff.2 h2]; rfl
  · rw [kpV_not.2 h]; rfl
theorem two_self (s : Ser) : twoE s s = chkE s := by unfold twoE; split <;> rfl
theorem join_self {s : Ser} (h : Ok s) : joinR s s = (s, 0) := by
  have h1 := mrg_self h.up
  have h2 : ¬ emptyV (mrg s.Values s.Values) := by
    rw [h1, emptyV_mem]; rintro ⟨v, hv, hl⟩; have := h.fine v hv; omega
  rw [joinR_ok (by rw [two_self]; exact h.e) rfl h2 (by rw [h1]; have := h.nV; omega), h1]
theorem join_swap {s t : Ser} (h : (joinR s t).2 = 0) : joinR t s = joinR s t := by
  by_cases h1 : twoE s t = 0
  · obtain ⟨a1, a2⟩ := twoE_zero h1
    have hs := Ok.of a1
    have ht := Ok.of a2
    have h1' : twoE t s = 0 := by unfold twoE; rw [if_neg (fun hn => hn a2), a1]
    by_cases h2 : s.Shifts = t.Shifts
    · have hc := mrg_comm hs.up ht.up
      by_cases h3 : emptyV (mrg s.Values t.Values)
      · rw [joinR_em h1 h2 h3] at h; cases h
      · by_cases h4 : 200 < (mrg s.Values t.Values).length
        · rw [joinR_big h1 h2 h3 h4] at h; cases h
        · rw [joinR_ok h1 h2 h3 h4, joinR_ok h1' h2.symm (hc ▸ h3) (hc ▸ h4), hc, h2]
    · rw [joinR_sh h1 h2] at h; cases h
  · rw [joinR_err h1] at h; exact absurd h h1
theorem bad_both {s : Ser} (h : chkE s ≠ 0) : (cutR s ⟨0, 10000⟩).2 = chkE s ∧ (joinR s s).2 = chkE s := by
  constructor
  · rw [cutR_err h]
  · rw [joinR_err (by rw [two_self]; exact h), two_self]
end Go.Proofs.C8
