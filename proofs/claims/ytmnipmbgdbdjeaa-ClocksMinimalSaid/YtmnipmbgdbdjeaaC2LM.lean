import Derived.Test.YtmnipmbgdbdjeaaC2LK
import Derived.Test.YtmnipmbgdbdjeaaC2LN
/- Clocks: what the statements lean on, fifth part: contradictions, drops, backwards; in plain Lean. -/
namespace Go.Proofs.C2
open Go Go.Kx

theorem prs_val {d : Drum} {m : List Mark} : ((prsR d m).2 = 0 ∨ (prsR d m).2 = 3) → Ok d m ∧ (prsR d m).1 = pairL d m := by
  intro h
  by_cases hc : chkE d m = 0
  · refine ⟨Ok.of hc, ?_⟩
    by_cases hn : (pairL d m).length = 0
    · rw [prsR_none hc hn, List.length_eq_zero_iff.1 hn]
    · rw [prsR_ok hc hn]
  · rw [prsR_bad hc] at h
    have := chkE_cases d m
    exfalso; (try dsimp only at h); omega
theorem prs_none0 {d : Drum} {m : List Mark} (h : (prsR d m).2 ≠ 0) : (prsR d m).1.length = 0 := by
  by_cases hc : chkE d m = 0
  · by_cases hn : (pairL d m).length = 0
    · rw [prsR_none hc hn]; rfl
    · rw [prsR_ok hc hn] at h; exact absurd rfl h
  · rw [prsR_bad hc]; rfl
theorem pick_ok {d : Drum} {m : List Mark} (h : Ok d m) {l : List Int} (hl : l.length ≤ 64) : (feasR d (pickN m l l.length)).2 = 0 ∧ ((feasR d (pickN m l l.length)).1 = true ↔ ∀ p, p ∈ pairL d m → ∃ i, i ∈ p ∧ ¬ i ∈ l) := by
  have hk : Ok d (pickN m l l.length) := ok_sub h (fun x hx => by obtain ⟨i, h1, _, rfl⟩ := mem_pick2.1 hx; exact gt_mem h1) (by have := pickN_len m l l.length; omega)
  have h1 := feas_of hk
  exact ⟨h1.1, h1.2.trans (sel_ok (P := fun i => i ∈ l) (m := m) (fun x => mem_pick2))⟩
/-! ### drops -/
def cntI (l : List Int) : Nat → Int
  | 0 => 0
  | n + 1 => if (n : Int) ∈ l then cntI l n + 1 else cntI l n
def inL (l : List Int) (n : Nat) : List Int := ((List.range n).map (fun (i : Nat) => (i : Int))).filter (fun i => decide (i ∈ l))
/-! ### minimal contradictions -/
theorem min_rest {d : Drum} {m : List Mark} (h : Ok d m) {p : List Int} (hp : p ∈ pairL d m) {j : Nat} (hj : j < p.length) : (feasR d (pickN m (p.take j ++ p.drop (j + 1)) (p.take j ++ p.drop (j + 1)).length)).2 = 0 ∧ (feasR d (pickN m (p.take j ++ p.drop (j + 1)) (p.take j ++ p.drop (j + 1)).length)).1 = true := by
  have h2 := pair_two hp
  have hl : (p.take j ++ p.drop (j + 1)).length ≤ 64 := by simp; omega
  have h1 := pick_ok h hl
  refine ⟨h1.1, h1.2.2 fun q hq => ?_⟩
  by_cases h0 : okD d []
  · have key : ∀ r : List Int, (r = [] ∨ ∃ i : Nat, i < m.length ∧ okD d [gt m i] ∧ r = [(i : Int)]) → ∃ i, i ∈ q ∧ ¬ i ∈ r := by
      intro r hr
      rcases hr with rfl | ⟨i, hi, hoi, rfl⟩
      · obtain ⟨v, hv⟩ := List.exists_mem_of_ne_nil q (pair_ne h0 hq); exact ⟨v, hv, List.not_mem_nil⟩
      · rcases (mem_pair h0).1 hq with ⟨k, hk, hnk, rfl⟩ | ⟨a, b, ha, hb, ⟨hab, _⟩, rfl⟩
        · refine ⟨(k : Int), by simp, fun hm => ?_⟩
          have : (k : Int) = (i : Int) := List.mem_singleton.1 hm
          obtain rfl : k = i := by omega
          exact hnk hoi
        · by_cases hai : a = i
          · subst hai; exact ⟨(b : Int), by simp, fun hm => by have := List.mem_singleton.1 hm; omega⟩
          · exact ⟨(a : Int), by simp, fun hm => by have := List.mem_singleton.1 hm; omega⟩
    apply key
    rcases (mem_pair h0).1 hp with ⟨k, hk, hnk, rfl⟩ | ⟨a, b, ha, hb, ⟨hab, h3, h4, h5⟩, rfl⟩
    · obtain rfl : j = 0 := by simp at hj; omega
      exact .inl rfl
    · rcases (show j = 0 ∨ j = 1 by simp at hj; omega) with rfl | rfl
      · exact .inr ⟨b, hb, h4, rfl⟩
      · exact .inr ⟨a, ha, h3, rfl⟩
  · rw [pair_none h0] at hp
    rw [List.mem_singleton.1 hp] at hj
    exact absurd hj (Nat.not_lt_zero _)
theorem min_two {d : Drum} {m : List Mark} {i : Nat} (h : (prsR d m).2 = 0 ∨ (prsR d m).2 = 3) (hi : i < (prsR d m).1.length) : gt (prsR d m).1 i ∈ pairL d m ∧ (gt (prsR d m).1 i).length ≤ 2 := by
  have hp := prs_val h
  have h1 : gt (prsR d m).1 i ∈ pairL d m := by rw [← hp.2]; exact gt_mem hi
  exact ⟨h1, pair_two h1⟩
theorem min_end {d : Drum} {m : List Mark} {l : List Int} (h : (prsR d m).2 = 0 ∨ (prsR d m).2 = 3) (hl : l.length ≤ 64) : (feasR d (pickN m l l.length)).2 = 0 ∧ ((feasR d (pickN m l l.length)).1 = true ↔ ¬ ∃ i, i < (prsR d m).1.length ∧ ∀ j, j < (gt (prsR d m).1 i).length → gt (gt (prsR d m).1 i) j ∈ l) := by
  have hp := prs_val h
  have h1 := pick_ok hp.1 hl
  refine ⟨h1.1, h1.2.trans ?_⟩
  rw [hp.2]
  constructor
  · rintro h2 ⟨i, hi, hall⟩
    obtain ⟨v, hv, hv2⟩ := h2 _ (gt_mem hi)
    obtain ⟨j, hj, he⟩ := mem_gt hv
    exact hv2 (by rw [← he]; exact hall j hj)
  · intro h2 p hpp
    obtain ⟨i, hi, rfl⟩ := mem_gt hpp
    apply Classical.byContradiction
    intro hn
    exact h2 ⟨i, hi, fun j hj => Decidable.of_not_not fun hv => hn ⟨_, gt_mem hj, hv⟩⟩
theorem and_step {p l : List Int} {ab : Bool} {k : Nat} [Decidable (gt p k ∈ l)] (h : ab = true) (hab : ab = true ↔ ∀ n, n < k → gt p n ∈ l) : decide (gt p k ∈ l) = true ↔ ∀ n, n < k + 1 → gt p n ∈ l := by
  rw [decide_eq_true_iff]
  exact ⟨fun h1 n hn => by rcases Nat.lt_succ_iff_lt_or_eq.1 hn with h2 | h2; exact hab.1 h n h2; subst h2; exact h1, fun h1 => h1 k (by omega)⟩
theorem and_step2 {p l : List Int} {ab : Bool} {k : Nat} (h : ab = false) (hab : ab = true ↔ ∀ n, n < k → gt p n ∈ l) : false = true ↔ ∀ n, n < k + 1 → gt p n ∈ l :=
  ⟨fun h1 => (by cases h1), fun h1 => by rw [hab.2 (fun n hn => h1 n (by omega))] at h; cases h⟩
theorem and_step3 {p l : List Int} {ab : Bool} {k : Nat} (h : ab = true) (hk : gt p k ∈ l) (hab : ab = true ↔ ∀ n, n < k → gt p n ∈ l) : true = true ↔ ∀ n, n < k + 1 → gt p n ∈ l :=
  ⟨fun _ n hn => by rcases Nat.lt_succ_iff_lt_or_eq.1 hn with h2 | h2; exact hab.1 h n h2; subst h2; exact hk, fun _ => rfl⟩
theorem and_step4 {p l : List Int} {k : Nat} (hk : ¬ gt p k ∈ l) : false = true ↔ ∀ n, n < k + 1 → gt p n ∈ l := ⟨fun h1 => (by cases h1), fun h1 => absurd (h1 k (by omega)) hk⟩
theorem or_step {Q : Nat → Prop} {wb : Bool} {i : Nat} (h : wb = true) (hwb : wb = true ↔ ∃ j, j < i ∧ Q j) : true = true ↔ ∃ j, j < i + 1 ∧ Q j :=
  ⟨fun _ => by obtain ⟨j, h1, h2⟩ := hwb.1 h; exact ⟨j, by omega, h2⟩, fun _ => rfl⟩
theorem or_step2 {Q : Nat → Prop} {wb ab : Bool} {i : Nat} (h : wb = false) (hwb : wb = true ↔ ∃ j, j < i ∧ Q j) (hab : ab = true ↔ Q i) : ab = true ↔ ∃ j, j < i + 1 ∧ Q j :=
  ⟨fun h1 => ⟨i, by omega, hab.1 h1⟩, fun ⟨j, h1, h2⟩ => by
    rcases Nat.lt_succ_iff_lt_or_eq.1 h1 with h3 | h3
    · rw [hwb.2 ⟨j, h3, h2⟩] at h; cases h
    · subst h3; exact hab.2 h2⟩
theorem min_fin {E : Prop} {f wb : Bool} (h1 : f = true ↔ ¬ E) (h2 : wb = true ↔ E) : f = !wb := by
  cases f <;> cases wb <;> simp_all
/-! ### backwards -/
end Go.Proofs.C2
