/- Stations: shortest ways: they exist, and are told alike by both texts: no stations' code in sight. -/
import Derived.Test.YtcpecjgppbiplaaS5Sea
namespace Go.Proofs.S5
open Go Go.Kx

/-! ### walks -/
def wlen (f : Nat → Nat → Int) : Nat → List Nat → Int
  | _, [] => 0
  | i, k :: l => f i k + wlen f k l
def wend : Nat → List Nat → Nat
  | i, [] => i
  | _, k :: l => wend k l
theorem wlen_append (f : Nat → Nat → Int) : ∀ (l l' : List Nat) (i : Nat), wlen f i (l ++ l') = wlen f i l + wlen f (wend i l) l'
  | [], l', i => by simp [wlen, wend]
  | k :: l, l', i => by
    rw [List.cons_append, wlen, wlen, wlen_append f l l' k, wend]; omega
theorem wend_append : ∀ (l l' : List Nat) (i : Nat), wend i (l ++ l') = wend (wend i l) l'
  | [], _, _ => rfl
  | k :: l, l', i => by rw [List.cons_append, wend, wend, wend_append l l' k]
/-- each tight bound is the length of a walk -/
theorem allS_walk {n : Nat} {f : Nat → Nat → Int} (h : Met n f) : ∀ k, k ≤ n → ∀ i j, i < n → j < n → ∃ l : List Nat, (∀ x ∈ l, x < n) ∧ wend i l = j ∧ wlen f i l = allS n f k i j
  | 0, _, i, j, _, hj => ⟨[j], by simpa using hj, rfl, by simp [wlen, allS]⟩
  | k + 1, hk, i, j, hi, hj => by
    have h1 := (allS_tri h k (by omega)).1
    obtain ⟨h4, _⟩ := layS_eq h1 (show k < n by omega) n (Nat.le_refl _)
    have e : allS n f (k + 1) i j = min (allS n f k i j) (allS n f k i k + allS n f k k j) := by rw [allS, h4 i j hi hj, if_pos hi]
    rw [e]
    rcases Int.le_total (allS n f k i j) (allS n f k i k + allS n f k k j) with h5 | h5
    · obtain ⟨l, a, b, c⟩ := allS_walk h k (by omega) i j hi hj
      exact ⟨l, a, b, by rw [c]; omega⟩
    · obtain ⟨l, a, b, c⟩ := allS_walk h k (by omega) i k hi (by omega)
      obtain ⟨l', a', b', c'⟩ := allS_walk h k (by omega) k j (by omega) hj
      refine ⟨l ++ l', ?_, ?_, ?_⟩
      · intro x hx
        rcases List.mem_append.1 hx with h6 | h6
        · exact a x h6
        · exact a' x h6
      · rw [wend_append, b, b']
      · rw [wlen_append, b, c, c']; omega
theorem wend_lt {n : Nat} : ∀ (p : List Nat) (i : Nat), i < n → (∀ x ∈ p, x < n) → wend i p < n
  | [], _, hi, _ => hi
  | k :: p, _, _, hp => wend_lt p k (hp k (List.mem_cons_self ..)) (fun x hx => hp x (List.mem_cons_of_mem _ hx))
section
variable {w : Wind} {l : List Station} (h : windedE w l = 0)
include h
/-- no walk is shorter than the tight bound -/
theorem walk_ge : ∀ (p : List Nat) (i : Nat), i < l.length → (∀ x ∈ p, x < l.length) → tightM w l i (wend i p) ≤ wlen (boundM w l) i p
  | [], i, hi, _ => by rw [wend, wlen, tight_zero h hi]; exact Int.le_refl _
  | k :: p, i, hi, hp => by
    have hk : k < l.length := hp k (List.mem_cons_self ..)
    have hp' : ∀ x ∈ p, x < l.length := fun x hx => hp x (List.mem_cons_of_mem _ hx)
    have he : wend k p < l.length := wend_lt p k hk hp'
    have h1 := walk_ge p k hk hp'
    have h2 := tight_tri h hi he hk
    have h3 := tight_le h hi hk
    rw [wend, wlen]; omega
/-- a walk that is as long as the tight bound gives a way -/
theorem reach_of_walk {b : Nat} (hb : b < l.length) : ∀ (p : List Nat) (i : Nat), i < l.length → (∀ x ∈ p, x < l.length) → wend i p = b → wlen (boundM w l) i p = tightM w l i b → ∃ m, reachS w l b m i = true
  | [], i, _, _, he, _ => ⟨0, reach0 he⟩
  | k :: p, i, hi, hp, he, hl => by
    have hk : k < l.length := hp k (List.mem_cons_self ..)
    have hp' : ∀ x ∈ p, x < l.length := fun x hx => hp x (List.mem_cons_of_mem _ hx)
    rw [wend] at he
    rw [wlen] at hl
    have h1 := walk_ge h p k hk hp'
    rw [he] at h1
    have h2 := tight_tri h hi hb hk
    have h3 := tight_le h hi hk
    obtain ⟨m, hm⟩ := reach_of_walk hb p k hk hp' he (by omega)
    by_cases e : i = k
    · subst e; exact ⟨m, hm⟩
    · exact ⟨m + 1, reach_yes hk ⟨e, by omega⟩ hm⟩
theorem reach_ex {b i : Nat} (hb : b < l.length) (hi : i < l.length) : ∃ m, reachS w l b m i = true := by
  obtain ⟨p, h1, h2, h3⟩ := allS_walk (boundM_met h) l.length (Nat.le_refl _) i b hi hb
  exact reach_of_walk h hb p i hi h1 h2 h3
end

/-! ### the fewest further elements -/
theorem least_of {p : Nat → Bool} : ∀ {n : Nat}, p n = true → ∃ m, m ≤ n ∧ p m = true ∧ ∀ j, j < m → p j = false
  | n, hn => by
    induction n using Nat.strongRecOn with
    | _ n ih =>
      by_cases hx : ∃ j, j < n ∧ p j = true
      · obtain ⟨j, hj, hp⟩ := hx
        obtain ⟨m, h1, h2⟩ := ih j hj hp
        exact ⟨m, by omega, h2⟩
      · refine ⟨n, Nat.le_refl _, hn, fun j hj => ?_⟩
        cases hpj : p j with
        | false => rfl
        | true => exact absurd ⟨j, hj, hpj⟩ hx
def IsHop (w : Wind) (l : List Station) (b i m : Nat) : Prop := reachS w l b m i = true ∧ ∀ j, j < m → reachS w l b j i = false
theorem IsHop.uniq {w : Wind} {l : List Station} {b i m m' : Nat} (h : IsHop w l b i m) (h' : IsHop w l b i m') : m = m' := by
  rcases Nat.lt_trichotomy m m' with h1 | h1 | h1
  · have := h'.2 m h1; rw [h.1] at this; cases this
  · exact h1
  · have := h.2 m' h1; rw [h'.1] at this; cases this
/-- the next one of a shortest way has one further element less -/
theorem IsHop.next {w : Wind} {l : List Station} {b i m : Nat} (h : IsHop w l b i (m + 1)) : ∃ k, k < l.length ∧ edgeM w l b i k ∧ IsHop w l b k m := by
  have h1 := h.1
  unfold reachS at h1
  rw [List.any_eq_true] at h1
  obtain ⟨k, hk, h2⟩ := h1
  simp only [Bool.and_eq_true, decide_eq_true_eq] at h2
  have hk' := List.mem_range.1 hk
  refine ⟨k, hk', h2.1, h2.2, fun j hj => ?_⟩
  cases hr : reachS w l b j k with
  | false => rfl
  | true => have := h.2 (j + 1) (by omega); rw [reach_yes hk' h2.1 hr] at this; cases this
theorem hop_chain {w : Wind} {l : List Station} {b : Nat} : ∀ (m i : Nat), i < l.length → IsHop w l b i m → ∃ L : List Nat, L.length = m + 1 ∧ L.Nodup ∧ (∀ x ∈ L, x < l.length ∧ ∃ j, j ≤ m ∧ IsHop w l b x j)
  | 0, i, hi, h => ⟨[i], rfl, by simp, fun x hx => by simp at hx; subst hx; exact ⟨hi, 0, Nat.le_refl _, h⟩⟩
  | m + 1, i, hi, h => by
    obtain ⟨k, hk, _, hh⟩ := h.next
    obtain ⟨L, h1, h2, h3⟩ := hop_chain m k hk hh
    refine ⟨i :: L, by simp [h1], List.nodup_cons.2 ⟨fun hm => ?_, h2⟩, ?_⟩
    · obtain ⟨_, j, hj, hj'⟩ := h3 i hm
      have := h.uniq hj'; omega
    · intro x hx
      cases hx with
      | head => exact ⟨hi, m + 1, Nat.le_refl _, h⟩
      | tail _ hx => obtain ⟨a, j, hj, hj'⟩ := h3 x hx; exact ⟨a, j, by omega, hj'⟩
theorem hop_lt {w : Wind} {l : List Station} {b m i : Nat} (hi : i < l.length) (h : IsHop w l b i m) : m < l.length := by
  obtain ⟨L, h1, h2, h3⟩ := hop_chain m i hi h
  have h4 : L ⊆ List.range l.length := fun x hx => List.mem_range.2 (h3 x hx).1
  have := List.Nodup.length_le_of_subset h2 h4
  simp only [List.length_range] at this
  omega
theorem hop_ex {w : Wind} {l : List Station} (h : windedE w l = 0) {b i : Nat} (hb : b < l.length) (hi : i < l.length) : ∃ m, m < l.length ∧ IsHop w l b i m := by
  obtain ⟨n, hn⟩ := reach_ex h hb hi
  obtain ⟨m, _, h2, h3⟩ := least_of (p := fun m => reachS w l b m i) hn
  exact ⟨m, hop_lt hi ⟨h2, h3⟩, h2, h3⟩
def hS (w : Wind) (l : List Station) (b i : Nat) : Nat := (leastM w l i b l.length 0).getD 0
theorem hS_eq {w : Wind} {l : List Station} {b i m : Nat} (hm : m < l.length) (h : IsHop w l b i m) : hS w l b i = m := by
  have := leastM_skip (w := w) (l := l) (a := i) (b := b) m (l.length - m) 0 (fun j _ h2 => h.2 j (by omega))
  rw [show l.length - m + m = l.length by omega, show l.length - m = (l.length - m - 1) + 1 by omega, leastM, Nat.zero_add, if_pos h.1] at this
  rw [hS, this]; rfl
theorem hS_hop {w : Wind} {l : List Station} (h : windedE w l = 0) {b i : Nat} (hb : b < l.length) (hi : i < l.length) : hS w l b i < l.length ∧ IsHop w l b i (hS w l b i) := by
  obtain ⟨m, hm, hh⟩ := hop_ex h hb hi
  rw [hS_eq hm hh]; exact ⟨hm, hh⟩
theorem hop_zero {w : Wind} {l : List Station} {b i : Nat} (h : IsHop w l b i 0) : i = b := by
  have := h.1; unfold reachS at this; simpa using this
theorem hop_self (w : Wind) (l : List Station) (b : Nat) : IsHop w l b b 0 := ⟨reach0 rfl, fun _ hj => absurd hj (Nat.not_lt_zero _)⟩
theorem wayL_hop {w : Wind} {l : List Station} (h : windedE w l = 0) {a b : Nat} (ha : a < l.length) (hb : b < l.length) : wayL w l a b = ((a : Int) :: pathS w l b (hS w l b a) a, 0) := by
  obtain ⟨h1, h2⟩ := hS_hop h hb ha
  exact wayL_yes h1 h2.2 h2.1
/-- what the reference looks for is what the search finds -/
theorem hop_cond {w : Wind} {l : List Station} (h : windedE w l = 0) {b i k m : Nat} (hb : b < l.length) (hi : i < l.length) (hk : k < l.length) (hm : hS w l b i = m + 1) :
    (edgeM w l b i k ∧ reachS w l b m k = true) ↔ (edgeM w l b i k ∧ hS w l b k + 1 = hS w l b i) := by
  obtain ⟨h1, h2⟩ := hS_hop h hb hi
  obtain ⟨h3, h4⟩ := hS_hop h hb hk
  rw [hm] at h2
  constructor
  · rintro ⟨he, hr⟩
    refine ⟨he, ?_⟩
    have h5 : hS w l b k ≤ m := by
      rcases Nat.lt_or_ge m (hS w l b k) with h6 | h6
      · have := h4.2 m h6; rw [hr] at this; cases this
      · exact h6
    have h7 : ¬ hS w l b k < m := fun h8 => by
      have := h2.2 (hS w l b k + 1) (by omega)
      rw [reach_yes hk he h4.1] at this; cases this
    omega
  · rintro ⟨he, hr⟩
    have : hS w l b k = m := by omega
    exact ⟨he, this ▸ h4.1⟩
theorem hop_first {w : Wind} {l : List Station} (h : windedE w l = 0) {b i : Nat} (hb : b < l.length) (hi : i < l.length) (hne : i ≠ b) :
    ∃ m K, hS w l b i = m + 1 ∧ K < l.length ∧ hS w l b K = m ∧ edgeM w l b i K ∧ (∀ j, j < K → ¬ (edgeM w l b i j ∧ hS w l b j + 1 = hS w l b i)) ∧ (∀ W : List Int, (W ++ [(K : Int)]) ++ pathS w l b m K = W ++ pathS w l b (m + 1) i) := by
  obtain ⟨h1, h2⟩ := hS_hop h hb hi
  cases hm : hS w l b i with
  | zero => rw [hm] at h2; exact absurd (hop_zero h2) hne
  | succ m =>
    rw [hm] at h2
    obtain ⟨k, hk, he, hh⟩ := h2.next
    obtain ⟨K, hK1, hK2, hK3⟩ := least_of (p := fun k => decide (edgeM w l b i k) && reachS w l b m k) (n := k) (by simp [he, hh.1])
    simp only [Bool.and_eq_true, decide_eq_true_eq] at hK2
    have hKl : K < l.length := by omega
    have hc := (hop_cond h hb hi hKl hm).1 hK2
    refine ⟨m, K, rfl, hKl, by omega, hK2.1, fun j hj hx => ?_, fun W => path_step hKl (fun j hj hx => ?_) hK2.1 hK2.2 W⟩
    · rw [← hm] at hx
      have := (hop_cond h hb hi (show j < l.length by omega) hm).2 hx
      have h6 := hK3 j hj
      simp [this.1, this.2] at h6
    · have h6 := hK3 j hj
      simp [hx.1, hx.2] at h6

/-! ### the reference's way of counting: rounds over all pairs -/
def Cnt (w : Wind) (l : List Station) (b i : Nat) (x : Int) : Prop := ∃ m : Nat, x = m ∧ reachS w l b m i = true
/-- counts that are reached -/
def HA (w : Wind) (l : List Station) (b : Nat) (L : List Int) : Prop := L.length = l.length ∧ ∀ i, i < l.length → 0 ≤ gt L i ∧ gt L i ≤ l.length + 1 ∧ (gt L i ≤ l.length → Cnt w l b i (gt L i))
/-- ways of at most r further elements are counted -/
def HC (w : Wind) (l : List Station) (b r : Nat) (L : List Int) : Prop := ∀ i, i < l.length → ∀ m : Nat, m ≤ r → reachS w l b m i = true → gt L i ≤ m
def HD (w : Wind) (l : List Station) (b r i k : Nat) (L : List Int) : Prop :=
  (∀ x, x < i → x < l.length → ∀ m : Nat, m ≤ r + 1 → reachS w l b m x = true → gt L x ≤ m) ∧ (i ≠ b → ∀ y, y < k → y < l.length → edgeM w l b i y → ∀ m : Nat, m ≤ r → reachS w l b m y = true → gt L i ≤ m + 1)
theorem HA.start {w : Wind} {l : List Station} {b : Nat} (hb : b < l.length) {L : List Int} (hl : L.length = l.length) (h : ∀ i, i < l.length → gt L i = l.length + 1) : HA w l b (L.set b 0) ∧ HC w l b 0 (L.set b 0) := by
  have hbl : b < L.length := by omega
  refine ⟨⟨by simp [hl], fun i hi => ?_⟩, fun i hi m hm hr => ?_⟩
  · rw [gt_set hbl]
    by_cases e : b = i
    · subst e; rw [if_pos rfl]; exact ⟨by omega, by omega, fun _ => ⟨0, rfl, reach0 rfl⟩⟩
    · rw [if_neg e, h i hi]; exact ⟨by omega, by omega, fun hx => by omega⟩
  · have : m = 0 := by omega
    subst this
    have hib : i = b := (by unfold reachS at hr; simpa using hr)
    subst hib
    rw [gt_set hbl, if_pos rfl]; omega
theorem HD.zero {w : Wind} {l : List Station} {b r : Nat} {L : List Int} : HD w l b r 0 0 L := ⟨fun _ hx => absurd hx (Nat.not_lt_zero _), fun _ _ hy => absurd hy (Nat.not_lt_zero _)⟩
theorem HD.row {w : Wind} {l : List Station} {b r i k : Nat} {L : List Int} (h : HD w l b r i k L) (hc : HC w l b r L) (_hb : b < l.length) (hi : i < l.length) (hk : l.length ≤ k) : HD w l b r (i + 1) 0 L := by
  refine ⟨fun x hx hxl m hm hr => ?_, fun _ y hy => absurd hy (Nat.not_lt_zero _)⟩
  by_cases e : x = i
  · subst e
    by_cases eb : x = b
    · have := hc x hxl 0 (Nat.zero_le _) (reach0 eb); omega
    · cases m with
      | zero => exact hc x hxl 0 (Nat.zero_le _) hr
      | succ m =>
        unfold reachS at hr
        rw [List.any_eq_true] at hr
        obtain ⟨y, hy, h2⟩ := hr
        simp only [Bool.and_eq_true, decide_eq_true_eq] at h2
        have hyl := List.mem_range.1 hy
        have := h.2 eb y (by omega) hyl h2.1 m (by omega) h2.2
        omega
  · exact h.1 x (by omega) hxl m hm hr
theorem HD.fin {w : Wind} {l : List Station} {b r i : Nat} {L : List Int} (h : HD w l b r i 0 L) (hi : l.length ≤ i) : HC w l b (r + 1) L := fun x hx m hm hr => h.1 x (by omega) hx m hm hr
theorem HD.skip {w : Wind} {l : List Station} {b r i k : Nat} {L : List Int} (h : HD w l b r i k L) (hn : ¬ (i ≠ b ∧ edgeM w l b i k)) : HD w l b r i (k + 1) L :=
  ⟨h.1, fun hib y hy hyl he m hm hr => by
    by_cases e : y = k
    · subst e; exact absurd ⟨hib, he⟩ hn
    · exact h.2 hib y (by omega) hyl he m hm hr⟩
theorem hop_step {w : Wind} {l : List Station} {b r i k : Nat} {L : List Int} {v : Int} (ha : HA w l b L) (hc : HC w l b r L) (hd : HD w l b r i k L) (hi : i < l.length) (hk : k < l.length) (hib : i ≠ b) (he : edgeM w l b i k)
    (hv : v = min (gt L i) (1 + gt L k)) : HA w l b (L.set i v) ∧ HC w l b r (L.set i v) ∧ HD w l b r i (k + 1) (L.set i v) := by
  have hil : i < L.length := by rw [ha.1]; exact hi
  have hai := ha.2 i hi
  have hak := ha.2 k hk
  have hle : v ≤ gt L i := by omega
  have hval : ∀ x, gt (L.set i v) x = if i = x then v else gt L x := fun x => gt_set hil
  have hdown : ∀ x, gt (L.set i v) x ≤ gt L x := fun x => by
    rw [hval]; split
    · rename_i e; subst e; exact hle
    · exact Int.le_refl _
  refine ⟨⟨by simp [ha.1], fun x hx => ?_⟩, fun x hx m hm hr => Int.le_trans (hdown x) (hc x hx m hm hr), fun x hx hxl m hm hr => Int.le_trans (hdown x) (hd.1 x hx hxl m hm hr), fun _ y hy hyl hey m hm hr => ?_⟩
  · rw [hval]
    by_cases e : i = x
    · subst e
      rw [if_pos rfl]
      refine ⟨by omega, by omega, fun hx2 => ?_⟩
      rcases Int.le_total (gt L i) (1 + gt L k) with h1 | h1
      · obtain ⟨m, h2, h3⟩ := hai.2.2 (by omega)
        exact ⟨m, by omega, h3⟩
      · obtain ⟨m, h2, h3⟩ := hak.2.2 (by omega)
        exact ⟨m + 1, by omega, reach_yes hk he h3⟩
    · rw [if_neg e]; exact ha.2 x hx
  · by_cases e : y = k
    · subst e
      have h1 := hc y hk m hm hr
      rw [hval, if_pos rfl]; omega
    · exact Int.le_trans (hdown i) (hd.2 hib y (by omega) hyl hey m hm hr)
def hopsL (w : Wind) (l : List Station) (b : Nat) : List Int := (List.range l.length).map fun i => (hS w l b i : Int)
theorem hops_end {w : Wind} {l : List Station} (h : windedE w l = 0) {b : Nat} (hb : b < l.length) {L : List Int} (ha : HA w l b L) (hc : HC w l b l.length L) : L = hopsL w l b := by
  refine ext_gt (by simp [hopsL, ha.1]) fun i hi => ?_
  rw [ha.1] at hi
  rw [hopsL, gt_map _ hi]
  obtain ⟨h1, h2⟩ := hS_hop h hb hi
  have h3 := hc i hi (hS w l b i) (by omega) h2.1
  obtain ⟨m, h4, h5⟩ := (ha.2 i hi).2.2 (by omega)
  have h6 : ¬ m < hS w l b i := fun hx => by have := h2.2 m hx; rw [h5] at this; cases this
  omega
end Go.Proofs.S5
