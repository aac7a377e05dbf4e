import Derived.Test.YtmnipmbgdbdjeaaC2LK
import Derived.Test.YtmnipmbgdbdjeaaC2LN
/- Clocks: what the statements lean on, fifth part: contradictions, drops, backwards; in plain Lean. -/
namespace Go.Proofs.C2
open Go Go.Kx

theorem prs_val {d : Drum} {m : List Mark} : ((prsR d m).2 = 0 ∨ (prsR d m).2 = 3) → Ok d m ∧ (prsR d m).1 = pairL d m := by
  intro h
  by_cases hc : chkE d m = 0
  · refine ⟨Ok.of hc, ?_⟩
    by_cases hn : (pairL d m).length = 0
    · rw [prsR_none hc hn, List.length_eq_zero_iff.1 hn]
    · rw [prsR_ok hc hn]
  · rw [prsR_bad hc] at h
    have := chkE_cases d m
    exfalso; (try dsimp only at h); omega
theorem prs_none0 {d : Drum} {m : List Mark} (h : (prsR d m).2 ≠ 0) : (prsR d m).1.length = 0 := by
  by_cases hc : chkE d m = 0
  · by_cases hn : (pairL d m).length = 0
    · rw [prsR_none hc hn]; rfl
    · rw [prsR_ok hc hn] at h; exact absurd rfl h
  · rw [prsR_bad hc]; rfl
theorem prs_err {d : Drum} {m : List Mark} (h : Ok d m) : (prsR d m).2 = 0 ∨ (prsR d m).2 = 3 := by
  by_cases hn : (pairL d m).length = 0
  · rw [prsR_none h.e hn]; exact .inr rfl
  · rw [prsR_ok h.e hn]; exact .inl rfl
theorem wo_ok {d : Drum} {m : List Mark} (h : Ok d m) (l : List Int) : (feasR d (woN m l m.length)).2 = 0 ∧ ((feasR d (woN m l m.length)).1 = true ↔ ∀ p, p ∈ pairL d m → ∃ i, i ∈ p ∧ i ∈ l) := by
  have hk : Ok d (woN m l m.length) := ok_sub h (fun x hx => by obtain ⟨i, h1, _, rfl⟩ := mem_wo.1 hx; exact gt_mem h1) (by have := woN_len m l m.length; have := h.n; omega)
  have h1 := feas_of hk
  refine ⟨h1.1, h1.2.trans ?_⟩
  rw [sel_ok (P := fun i => ¬ i ∈ l) (m := m) (fun x => mem_wo)]
  exact ⟨fun h2 p hp => by obtain ⟨i, h3, h4⟩ := h2 p hp; exact ⟨i, h3, Decidable.of_not_not h4⟩, fun h2 p hp => by obtain ⟨i, h3, h4⟩ := h2 p hp; exact ⟨i, h3, fun h5 => h5 h4⟩⟩
theorem pick_ok {d : Drum} {m : List Mark} (h : Ok d m) {l : List Int} (hl : l.length ≤ 64) : (feasR d (pickN m l l.length)).2 = 0 ∧ ((feasR d (pickN m l l.length)).1 = true ↔ ∀ p, p ∈ pairL d m → ∃ i, i ∈ p ∧ ¬ i ∈ l) := by
  have hk : Ok d (pickN m l l.length) := ok_sub h (fun x hx => by obtain ⟨i, h1, _, rfl⟩ := mem_pick2.1 hx; exact gt_mem h1) (by have := pickN_len m l l.length; omega)
  have h1 := feas_of hk
  exact ⟨h1.1, h1.2.trans (sel_ok (P := fun i => i ∈ l) (m := m) (fun x => mem_pick2))⟩
/-! ### drops -/
theorem drp_no {d : Drum} {m : List Mark} (h : (drpR d m).2 ≠ 0) : (drpR d m).1.length = 0 := by
  by_cases h0 : chkE d m = 0
  · by_cases h1 : 12 < m.length
    · rw [drpR_big h0 h1]; rfl
    · by_cases h2 : okD d []
      · rw [drpR_ok h0 h1 h2] at h; exact absurd rfl h
      · rw [drpR_time h0 h1 h2]; rfl
  · rw [drpR_bad h0]; rfl
theorem drp_zero {d : Drum} {m : List Mark} (h : (drpR d m).2 = 0) : Ok d m ∧ m.length ≤ 12 ∧ okD d [] ∧ (drpR d m).1 = drpL (pairL d m) m.length := by
  by_cases h0 : chkE d m = 0
  · by_cases h1 : 12 < m.length
    · rw [drpR_big h0 h1] at h; cases h
    · by_cases h2 : okD d []
      · exact ⟨Ok.of h0, by omega, h2, by rw [drpR_ok h0 h1 h2]⟩
      · rw [drpR_time h0 h1 h2] at h; cases h
  · rw [drpR_bad h0] at h; exact absurd h h0
theorem least {P : Nat → Prop} : ∀ n, P n → ∃ s, s ≤ n ∧ P s ∧ ∀ j, j < s → ¬ P j := by
  intro n
  induction n using Nat.strongRecOn with
  | _ n ih =>
    intro hn
    by_cases h : ∃ j, j < n ∧ P j
    · obtain ⟨j, h1, h2⟩ := h
      obtain ⟨s, h3, h4⟩ := ih j h1 h2
      exact ⟨s, by omega, h4⟩
    · exact ⟨n, Nat.le_refl _, hn, fun j h1 h2 => h ⟨j, h1, h2⟩⟩
def cntI (l : List Int) : Nat → Int
  | 0 => 0
  | n + 1 => if (n : Int) ∈ l then cntI l n + 1 else cntI l n
theorem cntI_bd (l : List Int) : ∀ n : Nat, 0 ≤ cntI l n ∧ cntI l n ≤ n
  | 0 => by simp [cntI]
  | n + 1 => by have := cntI_bd l n; rw [cntI]; split <;> omega
def inL (l : List Int) (n : Nat) : List Int := ((List.range n).map (fun (i : Nat) => (i : Int))).filter (fun i => decide (i ∈ l))
theorem inL_len (l : List Int) : ∀ n, ((inL l n).length : Int) = cntI l n
  | 0 => rfl
  | n + 1 => by
    have ih := inL_len l n
    have e : inL l (n + 1) = inL l n ++ if (n : Int) ∈ l then [(n : Int)] else [] := by
      unfold inL; rw [List.range_succ, List.map_append, List.filter_append]
      by_cases h : (n : Int) ∈ l <;> simp [h]
    rw [e, cntI, List.length_append]
    split <;> simp <;> omega
theorem inL_mem {l : List Int} {n : Nat} {i : Int} : i ∈ inL l n ↔ (0 ≤ i ∧ i < (n : Int)) ∧ i ∈ l := by
  unfold inL
  rw [List.mem_filter, List.mem_map]
  constructor
  · rintro ⟨⟨j, hj, rfl⟩, h⟩
    rw [List.mem_range] at hj
    exact ⟨by omega, of_decide_eq_true h⟩
  · rintro ⟨h1, h2⟩
    exact ⟨⟨i.toNat, by rw [List.mem_range]; omega, by omega⟩, decide_eq_true h2⟩
theorem inL_up (l : List Int) (n : Nat) : (inL l n).Pairwise (· < ·) := by
  unfold inL
  refine List.Pairwise.filter _ ?_
  rw [List.pairwise_map]
  exact List.pairwise_lt_range.imp fun hab => by omega
/-- all that the statement of drops asks for -/
theorem drp_all {d : Drum} {m : List Mark} (h : (drpR d m).2 = 0) :
    (0 < (drpR d m).1.length ∧ ((prsR d m).2 = 0 ∨ (prsR d m).2 = 3)) ∧
    (∀ i, i < (drpR d m).1.length → (gt (drpR d m).1 i).length = (gt (drpR d m).1 0).length ∧ (feasR d (woN m (gt (drpR d m).1 i) m.length)).2 = 0 ∧ (feasR d (woN m (gt (drpR d m).1 i) m.length)).1 = true ∧
      ∀ k, k < (prsR d m).1.length → ¬ ∀ j, j < (gt (prsR d m).1 k).length → ¬ gt (gt (prsR d m).1 k) j ∈ gt (drpR d m).1 i) ∧
    ∀ l : List Int, (feasR d (woN m l m.length)).2 = 0 ∧ ((feasR d (woN m l m.length)).1 = true → ((gt (drpR d m).1 0).length : Int) ≤ cntI l m.length) := by
  obtain ⟨hok, hl, h0, e⟩ := drp_zero h
  obtain ⟨s, hs, hne, hmin⟩ := least (P := fun s => drpN (pairL d m) m.length s ≠ []) m.length (drp_fullD h0)
  have hL : (drpR d m).1 = drpN (pairL d m) m.length s := by rw [e]; exact drpL_eq hs (fun j hj => Classical.byContradiction fun hn => hmin j hj hn) hne
  have hp := prs_val (prs_err hok)
  have hpos : 0 < (drpR d m).1.length := by rw [hL]; exact List.length_pos_iff.2 hne
  have hin : ∀ i, i < (drpR d m).1.length → (gt (drpR d m).1 i).length = s ∧ hitB (pairL d m) (gt (drpR d m).1 i) = true := fun i hi => by
    have h1 : gt (drpR d m).1 i ∈ drpN (pairL d m) m.length s := by rw [← hL]; exact gt_mem hi
    unfold drpN at h1
    rw [List.mem_filter, sets_iff] at h1
    exact ⟨h1.1.1, h1.2⟩
  refine ⟨⟨hpos, prs_err hok⟩, fun i hi => ⟨by rw [(hin i hi).1, (hin 0 hpos).1], (wo_ok hok _).1, (wo_ok hok _).2.2 (hit_iff.1 (hin i hi).2), fun k hk hall => ?_⟩, fun l => ⟨(wo_ok hok l).1, fun hf => ?_⟩⟩
  · rw [hp.2] at hk hall
    obtain ⟨v, hv, hv2⟩ := hit_iff.1 (hin i hi).2 _ (gt_mem hk)
    obtain ⟨j, hj, he⟩ := mem_gt hv
    exact hall j hj (by rw [he]; exact hv2)
  · have h1 := (wo_ok hok l).2.1 hf
    have hle : s ≤ (inL l m.length).length := by
      rcases Nat.lt_or_ge (inL l m.length).length s with h2 | h2
      · refine absurd ?_ (hmin _ h2)
        have h3 : inL l m.length ∈ drpN (pairL d m) m.length (inL l m.length).length := by
          unfold drpN
          rw [List.mem_filter]
          refine ⟨sets_iff.2 ⟨rfl, inL_up _ _, fun i hi => (inL_mem.1 hi).1⟩, hit_iff.2 fun p hpp => ?_⟩
          obtain ⟨i, h4, h5⟩ := h1 p hpp
          exact ⟨i, h4, inL_mem.2 ⟨pair_idx hpp h4, h5⟩⟩
        intro hn; rw [hn] at h3; exact absurd h3 (List.not_mem_nil)
      · exact h2
    rw [(hin 0 hpos).1, ← inL_len]; omega
theorem drp_idx {d : Drum} {m : List Mark} (h : (drpR d m).2 = 0) {i : Nat} (hi : i < (drpR d m).1.length) : (gt (drpR d m).1 i).length ≤ 12 := by
  obtain ⟨hok, hl, h0, e⟩ := drp_zero h
  obtain ⟨s, hs, hne, hmin⟩ := least (P := fun s => drpN (pairL d m) m.length s ≠ []) m.length (drp_fullD h0)
  have hL : (drpR d m).1 = drpN (pairL d m) m.length s := by rw [e]; exact drpL_eq hs (fun j hj => Classical.byContradiction fun hn => hmin j hj hn) hne
  have h1 : gt (drpR d m).1 i ∈ drpN (pairL d m) m.length s := by rw [← hL]; exact gt_mem hi
  unfold drpN at h1
  rw [List.mem_filter, sets_iff] at h1
  omega
/-! ### minimal contradictions -/
theorem min_rest {d : Drum} {m : List Mark} (h : Ok d m) {p : List Int} (hp : p ∈ pairL d m) {j : Nat} (hj : j < p.length) : (feasR d (pickN m (p.take j ++ p.drop (j + 1)) (p.take j ++ p.drop (j + 1)).length)).2 = 0 ∧ (feasR d (pickN m (p.take j ++ p.drop (j + 1)) (p.take j ++ p.drop (j + 1)).length)).1 = true := by
  have h2 := pair_two hp
  have hl : (p.take j ++ p.drop (j + 1)).length ≤ 64 := by simp; omega
  have h1 := pick_ok h hl
  refine ⟨h1.1, h1.2.2 fun q hq => ?_⟩
  by_cases h0 : okD d []
  · have key : ∀ r : List Int, (r = [] ∨ ∃ i : Nat, i < m.length ∧ okD d [gt m i] ∧ r = [(i : Int)]) → ∃ i, i ∈ q ∧ ¬ i ∈ r := by
      intro r hr
      rcases hr with rfl | ⟨i, hi, hoi, rfl⟩
      · obtain ⟨v, hv⟩ := List.exists_mem_of_ne_nil q (pair_ne h0 hq); exact ⟨v, hv, List.not_mem_nil⟩
      · rcases (mem_pair h0).1 hq with ⟨k, hk, hnk, rfl⟩ | ⟨a, b, ha, hb, ⟨hab, _⟩, rfl⟩
        · refine ⟨(k : Int), by simp, fun hm => ?_⟩
          have : (k : Int) = (i : Int) := List.mem_singleton.1 hm
          obtain rfl : k = i := by omega
          exact hnk hoi
        · by_cases hai : a = i
          · subst hai; exact ⟨(b : Int), by simp, fun hm => by have := List.mem_singleton.1 hm; omega⟩
          · exact ⟨(a : Int), by simp, fun hm => by have := List.mem_singleton.1 hm; omega⟩
    apply key
    rcases (mem_pair h0).1 hp with ⟨k, hk, hnk, rfl⟩ | ⟨a, b, ha, hb, ⟨hab, h3, h4, h5⟩, rfl⟩
    · obtain rfl : j = 0 := by simp at hj; omega
      exact .inl rfl
    · rcases (show j = 0 ∨ j = 1 by simp at hj; omega) with rfl | rfl
      · exact .inr ⟨b, hb, h4, rfl⟩
      · exact .inr ⟨a, ha, h3, rfl⟩
  · rw [pair_none h0] at hp
    rw [List.mem_singleton.1 hp] at hj
    exact absurd hj (Nat.not_lt_zero _)
theorem min_two {d : Drum} {m : List Mark} {i : Nat} (h : (prsR d m).2 = 0 ∨ (prsR d m).2 = 3) (hi : i < (prsR d m).1.length) : gt (prsR d m).1 i ∈ pairL d m ∧ (gt (prsR d m).1 i).length ≤ 2 := by
  have hp := prs_val h
  have h1 : gt (prsR d m).1 i ∈ pairL d m := by rw [← hp.2]; exact gt_mem hi
  exact ⟨h1, pair_two h1⟩
theorem min_end {d : Drum} {m : List Mark} {l : List Int} (h : (prsR d m).2 = 0 ∨ (prsR d m).2 = 3) (hl : l.length ≤ 64) : (feasR d (pickN m l l.length)).2 = 0 ∧ ((feasR d (pickN m l l.length)).1 = true ↔ ¬ ∃ i, i < (prsR d m).1.length ∧ ∀ j, j < (gt (prsR d m).1 i).length → gt (gt (prsR d m).1 i) j ∈ l) := by
  have hp := prs_val h
  have h1 := pick_ok hp.1 hl
  refine ⟨h1.1, h1.2.trans ?_⟩
  rw [hp.2]
  constructor
  · rintro h2 ⟨i, hi, hall⟩
    obtain ⟨v, hv, hv2⟩ := h2 _ (gt_mem hi)
    obtain ⟨j, hj, he⟩ := mem_gt hv
    exact hv2 (by rw [← he]; exact hall j hj)
  · intro h2 p hpp
    obtain ⟨i, hi, rfl⟩ := mem_gt hpp
    apply Classical.byContradiction
    intro hn
    exact h2 ⟨i, hi, fun j hj => Decidable.of_not_not fun hv => hn ⟨_, gt_mem hj, hv⟩⟩
theorem and_step {p l : List Int} {ab : Bool} {k : Nat} [Decidable (gt p k ∈ l)] (h : ab = true) (hab : ab = true ↔ ∀ n, n < k → gt p n ∈ l) : decide (gt p k ∈ l) = true ↔ ∀ n, n < k + 1 → gt p n ∈ l := by
  rw [decide_eq_true_iff]
  exact ⟨fun h1 n hn => by rcases Nat.lt_succ_iff_lt_or_eq.1 hn with h2 | h2; exact hab.1 h n h2; subst h2; exact h1, fun h1 => h1 k (by omega)⟩
theorem and_step2 {p l : List Int} {ab : Bool} {k : Nat} (h : ab = false) (hab : ab = true ↔ ∀ n, n < k → gt p n ∈ l) : false = true ↔ ∀ n, n < k + 1 → gt p n ∈ l :=
  ⟨fun h1 => (by cases h1), fun h1 => by rw [hab.2 (fun n hn => h1 n (by omega))] at h; cases h⟩
theorem and_step3 {p l : List Int} {ab : Bool} {k : Nat} (h : ab = true) (hk : gt p k ∈ l) (hab : ab = true ↔ ∀ n, n < k → gt p n ∈ l) : true = true ↔ ∀ n, n < k + 1 → gt p n ∈ l :=
  ⟨fun _ n hn => by rcases Nat.lt_succ_iff_lt_or_eq.1 hn with h2 | h2; exact hab.1 h n h2; subst h2; exact hk, fun _ => rfl⟩
theorem and_step4 {p l : List Int} {k : Nat} (hk : ¬ gt p k ∈ l) : false = true ↔ ∀ n, n < k + 1 → gt p n ∈ l := ⟨fun h1 => (by cases h1), fun h1 => absurd (h1 k (by omega)) hk⟩
theorem or_step {Q : Nat → Prop} {wb : Bool} {i : Nat} (h : wb = true) (hwb : wb = true ↔ ∃ j, j < i ∧ Q j) : true = true ↔ ∃ j, j < i + 1 ∧ Q j :=
  ⟨fun _ => by obtain ⟨j, h1, h2⟩ := hwb.1 h; exact ⟨j, by omega, h2⟩, fun _ => rfl⟩
theorem or_step2 {Q : Nat → Prop} {wb ab : Bool} {i : Nat} (h : wb = false) (hwb : wb = true ↔ ∃ j, j < i ∧ Q j) (hab : ab = true ↔ Q i) : ab = true ↔ ∃ j, j < i + 1 ∧ Q j :=
  ⟨fun h1 => ⟨i, by omega, hab.1 h1⟩, fun ⟨j, h1, h2⟩ => by
    rcases Nat.lt_succ_iff_lt_or_eq.1 h1 with h3 | h3
    · rw [hwb.2 ⟨j, h3, h2⟩] at h; cases h
    · subst h3; exact hab.2 h2⟩
theorem min_fin {E : Prop} {f wb : Bool} (h1 : f = true ↔ ¬ E) (h2 : wb = true ↔ E) : f = !wb := by
  cases f <;> cases wb <;> simp_all
/-! ### backwards -/
theorem turned_keep {d : Drum} {m : List Mark} (h : Ok d m) {l : List Int} : keepE (turnD d) (turnM d m) (backL l) = 0 ↔ keepE d m l = 0 := by
  rw [keepE_iff h, keepE_iff (turn_ok h)]; exact turn_keep
theorem turned_err {d : Drum} {m : List Mark} (h : Ok d m) : (earR (turnD d) (turnM d m)).2 = (latR d m).2 ∧ (latR d m).1 = backL (earR (turnD d) (turnM d m)).1 ∧ (∀ i, i < (earR (turnD d) (turnM d m)).1.length → 0 ≤ gt (earR (turnD d) (turnM d m)).1 i ∧ gt (earR (turnD d) (turnM d m)).1 i ≤ 400) ∧ (earR (turnD d) (turnM d m)).1.length ≤ 1000 := by
  have ht := turn_ok h
  have o1 := open_nil h; have o2 := open_nil ht
  by_cases ho : okD d m
  · have ho2 := (turn_okD h.dr).2 ho
    rw [if_pos ho] at o1; rw [if_pos ho2] at o2
    rw [earR_ok o2, latR_ok o1]
    have hk := los_keep ht.dr ho2
    have hd := ht.dr.1.1.2
    refine ⟨rfl, turn_lat h.dr ho, fun i hi => ?_, ?_⟩
    · have h1 := hk.1
      have h2 : i < (losL (setD (turnD d) (turnM d m))).length := hi
      have h3 := ((atS_iff (turnM d m) i _).1 (hk.2.1 i (by omega))).1
      exact h3
    · have h1 := hk.1
      show (losL (setD (turnD d) (turnM d m))).length ≤ 1000
      omega
  · have ho2 : ¬ okD (turnD d) (turnM d m) := fun h2 => ho ((turn_okD h.dr).1 h2)
    rw [if_neg ho] at o1; rw [if_neg ho2] at o2
    rw [earR_bad (by rw [o2]; decide), latR_bad (by rw [o1]; decide), o1, o2]
    exact ⟨rfl, rfl, fun i hi => absurd hi (Nat.not_lt_zero _), by simp⟩
end Go.Proofs.C2
