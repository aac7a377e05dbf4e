/- Stations: lengths of ways, in plain Lean: no stations' code in sight. -/
import Derived.Test.YtcpecjgppbiplaaS5Mix2
namespace Go.Proofs.S5
open Go Go.Kx

def stopAt (way : List Int) (i : Nat) : Nat := (gt way i).toNat
def stepR (w : Wind) (l : List Station) (way : List Int) (i : Nat) : Int × Int := withinR w (gt l (stopAt way (i - 1))) (gt l (stopAt way i))
def longAt (w : Wind) (l : List Station) (way : List Int) (i : Nat) : Prop := (0 ≤ gt way i ∧ gt way i < l.length) ∧ (0 < i → (stepR w l way i).2 = 0)
instance (w : Wind) (l : List Station) (way : List Int) (i : Nat) : Decidable (longAt w l way i) := by unfold longAt; exact inferInstance
def longN (w : Wind) (l : List Station) (way : List Int) : Nat → Int
  | 0 => 0
  | i + 1 => if i = 0 then 0 else longN w l way i + (stepR w l way i).1
def longOk (w : Wind) (l : List Station) (way : List Int) : Prop := ∀ i, i < way.length → longAt w l way i
instance (w : Wind) (l : List Station) (way : List Int) : Decidable (longOk w l way) := by unfold longOk; exact inferInstance
def longR (w : Wind) (l : List Station) (way : List Int) : Int × Bool := if longOk w l way then (longN w l way way.length, decide (0 < way.length)) else (0, false)
theorem longN_bd (w : Wind) (l : List Station) (way : List Int) : ∀ i, 0 ≤ longN w l way i ∧ longN w l way i ≤ 1000000000 * i
  | 0 => by simp [longN]
  | i + 1 => by
    have h1 := longN_bd w l way i
    have h2 := withinR_bd w (gt l (stopAt way (i - 1))) (gt l (stopAt way i))
    rw [longN]
    unfold stepR
    split <;> omega
theorem longR_bad {w : Wind} {l : List Station} {way : List Int} {i : Nat} (hi : i < way.length) (h : ¬ longAt w l way i) : longR w l way = (0, false) := by
  unfold longR; rw [if_neg (fun hh => h (hh i hi))]
theorem longR_ok {w : Wind} {l : List Station} {way : List Int} (h : longOk w l way) : longR w l way = (longN w l way way.length, decide (0 < way.length)) := by unfold longR; rw [if_pos h]

/-- a way as a list of places, and as numbers -/
def nums (p : List Nat) : List Int := p.map (fun x : Nat => (x : Int))
theorem nums_len (p : List Nat) : (nums p).length = p.length := by simp [nums]
theorem nums_at {p : List Nat} {i : Nat} (hi : i < p.length) : gt (nums p) i = (gt p i : Nat) := by
  simp [nums, gt, List.getD, List.getElem?_map, List.getElem?_eq_getElem hi]
theorem stop_nums {p : List Nat} {i : Nat} (hi : i < p.length) : stopAt (nums p) i = gt p i := by unfold stopAt; rw [nums_at hi]; simp
section
variable {w : Wind} {l : List Station} (h : windedE w l = 0)
include h
theorem long_nums {p : List Nat} (hp : ∀ x ∈ p, x < l.length) : longOk w l (nums p) := fun i hi => by
  rw [nums_len] at hi
  have hx : ∀ j, j < p.length → gt p j < l.length := fun j hj => hp _ (by
    have := gt_eq hj
    exact List.mem_of_getElem? this)
  refine ⟨by rw [nums_at hi]; have := hx i hi; omega, fun h0 => ?_⟩
  unfold stepR
  rw [stop_nums hi, stop_nums (by omega), withinR_in h (hx _ (by omega)) (hx i hi)]
/-- the length of a way is that of the walk -/
theorem longN_walk : ∀ (p : List Nat) (i : Nat) (m : Nat), (∀ x ∈ i :: p, x < l.length) → m ≤ p.length → longN w l (nums (i :: p)) (m + 1) = wlen (boundM w l) i (p.take m)
  | p, i, 0, _, _ => by simp [longN, wlen]
  | p, i, m + 1, hp, hm => by
    have ih := longN_walk p i m hp (by omega)
    rw [longN, if_neg (by omega), ih]
    have hx : ∀ j, j < (i :: p).length → gt (i :: p) j < l.length := fun j hj => hp _ (List.mem_of_getElem? (gt_eq hj))
    have h1 : m + 1 < (i :: p).length := by simp; omega
    have h2 : m < (i :: p).length := by simp; omega
    unfold stepR
    rw [stop_nums h1, stop_nums (show m + 1 - 1 < (i :: p).length by omega), Nat.add_sub_cancel, withinR_in h (hx m h2) (hx (m + 1) h1)]
    have h3 : m < p.length := by omega
    have h4 : gt (i :: p) (m + 1) = p[m] := by simp [gt, List.getD, List.getElem?_eq_getElem h3]
    have h5 : gt (i :: p) m = wend i (p.take m) := by
      clear h1 h2 ih hm hx h4 hp
      induction m generalizing i p with
      | zero => simp [gt, wend]
      | succ m ihm =>
        cases p with
        | nil => simp at h3
        | cons k p =>
          rw [List.take_succ_cons, wend, ← ihm p k (by simpa using h3)]
          simp [gt]
    rw [List.take_succ_eq_append_getElem h3, wlen_append, h4, h5]
    simp [wlen]
theorem longR_walk {p : List Nat} {i : Nat} (hp : ∀ x ∈ i :: p, x < l.length) : longR w l (nums (i :: p)) = (wlen (boundM w l) i p, true) := by
  rw [longR_ok (long_nums h hp)]
  have := longN_walk h p i p.length hp (Nat.le_refl _)
  rw [List.take_length] at this
  rw [nums_len, List.length_cons, this]
  simp
/-- no way, whoever found it, is shorter -/
theorem long_ge {way : List Int} (hok : (longR w l way).2 = true) : 0 < way.length ∧ (0 ≤ gt way 0 ∧ gt way 0 < l.length) ∧ (0 ≤ gt way (way.length - 1) ∧ gt way (way.length - 1) < l.length) ∧
    tightM w l (stopAt way 0) (stopAt way (way.length - 1)) ≤ (longR w l way).1 := by
  unfold longR at hok ⊢
  by_cases hl : longOk w l way
  · rw [if_pos hl] at hok ⊢
    have hpos : 0 < way.length := by simpa using hok
    have h0 := (hl 0 hpos).1
    have h1 := (hl (way.length - 1) (by omega)).1
    refine ⟨hpos, h0, h1, ?_⟩
    have key : ∀ m, m < way.length → tightM w l (stopAt way 0) (stopAt way m) ≤ longN w l way (m + 1) := by
      intro m
      induction m with
      | zero =>
        intro _
        have : stopAt way 0 < l.length := by unfold stopAt; omega
        rw [tight_zero h this]; simp [longN]
      | succ m ih =>
        intro hm
        have a := ih (by omega)
        have b0 := (hl m (by omega)).1
        have b1 := (hl (m + 1) hm).1
        have c0 : stopAt way 0 < l.length := by unfold stopAt; omega
        have c1 : stopAt way m < l.length := by unfold stopAt; omega
        have c2 : stopAt way (m + 1) < l.length := by unfold stopAt; omega
        have e1 := tight_tri h c0 c2 c1
        have e2 := tight_le h c1 c2
        have e3 : (stepR w l way (m + 1)).1 = boundM w l (stopAt way m) (stopAt way (m + 1)) := by
          unfold stepR; rw [Nat.add_sub_cancel, withinR_in h c1 c2]
        rw [longN, if_neg (by omega), e3]
        omega
    have := key (way.length - 1) (by omega)
    rwa [show way.length - 1 + 1 = way.length by omega] at this
  · rw [if_neg hl] at hok; cases hok

/-! ### the way that is told -/
def pathN (w : Wind) (l : List Station) (b : Nat) : Nat → Nat → List Nat
  | 0, _ => []
  | m + 1, i => hopK w l b m i :: pathN w l b m (hopK w l b m i)
omit h in
theorem path_nums (b : Nat) : ∀ (m i : Nat), pathS w l b m i = nums (pathN w l b m i)
  | 0, _ => rfl
  | m + 1, i => by rw [pathS, pathN, nums, List.map_cons, path_nums b m]; rfl
theorem path_walk {b : Nat} (hb : b < l.length) : ∀ (m i : Nat), i < l.length → reachS w l b m i = true →
    (∀ x ∈ pathN w l b m i, x < l.length) ∧ wend i (pathN w l b m i) = b ∧ wlen (boundM w l) i (pathN w l b m i) = tightM w l i b ∧ (pathN w l b m i).length = m
  | 0, i, hi, hr => by
    have hib : i = b := by unfold reachS at hr; simpa using hr
    subst hib
    simp [pathN, wend, wlen, tight_zero h hi]
  | m + 1, i, hi, hr => by
    have hr' := hr
    unfold reachS at hr'
    rw [List.any_eq_true] at hr'
    obtain ⟨k, hk, h2⟩ := hr'
    have hkl := List.mem_range.1 hk
    obtain ⟨K, hK1, hK2, hK3⟩ := least_of (p := fun k => decide (edgeM w l b i k) && reachS w l b m k) h2
    have hKl : K < l.length := by omega
    have hhop : hopK w l b m i = K := firstK_eq (Nat.zero_le _) (by omega) (fun j _ hj => hK3 j hj) hK2
    simp only [Bool.and_eq_true, decide_eq_true_eq] at hK2
    obtain ⟨a1, a2, a3, a4⟩ := path_walk hb m K hKl hK2.2
    rw [pathN, hhop]
    refine ⟨fun x hx => ?_, by rw [wend]; exact a2, by rw [wlen, a3]; exact hK2.1.2, by simp [a4]⟩
    cases hx with
    | head => exact hKl
    | tail _ hx => exact a1 x hx
/-- each part of a shortest walk is a shortest one -/
theorem walk_parts {b : Nat} : ∀ (p : List Nat) (i : Nat), i < l.length → (∀ x ∈ p, x < l.length) → wend i p = b → wlen (boundM w l) i p = tightM w l i b → ∀ m, m ≤ p.length →
    wlen (boundM w l) i (p.take m) = tightM w l i (wend i (p.take m)) ∧ wlen (boundM w l) (wend i (p.take m)) (p.drop m) = tightM w l (wend i (p.take m)) b := by
  intro p i hi hp he hl m hm
  have h0 : p = p.take m ++ p.drop m := (List.take_append_drop m p).symm
  have hA : ∀ x ∈ p.take m, x < l.length := fun x hx => hp x (List.mem_of_mem_take hx)
  have hB : ∀ x ∈ p.drop m, x < l.length := fun x hx => hp x (List.mem_of_mem_drop hx)
  have h1 := walk_ge h (p.take m) i hi hA
  have hv := wend_lt (p.take m) i hi hA
  have h2 := walk_ge h (p.drop m) (wend i (p.take m)) hv hB
  have h3 : wlen (boundM w l) i p = wlen (boundM w l) i (p.take m) + wlen (boundM w l) (wend i (p.take m)) (p.drop m) := by
    conv => lhs; rw [h0]
    exact wlen_append _ _ _ _
  have h4 : wend (wend i (p.take m)) (p.drop m) = b := by rw [← wend_append, ← h0]; exact he
  rw [h4] at h2
  have hb : b < l.length := by rw [← he]; exact wend_lt p i hi hp
  have h5 := tight_tri h hi hb hv
  omega
theorem way_spec {a b : Int} (hc : (wayR w l a b).2 = 0) : ∃ (na nb : Nat) (p : List Nat), a = na ∧ b = nb ∧ na < l.length ∧ nb < l.length ∧ (wayR w l a b).1 = nums (na :: p) ∧ (∀ x ∈ p, x < l.length) ∧ wend na p = nb ∧
    wlen (boundM w l) na p = tightM w l na nb ∧ p.length < l.length := by
  by_cases hr : (0 ≤ a ∧ a ≤ (l.length : Int) - 1) ∧ (0 ≤ b ∧ b ≤ (l.length : Int) - 1)
  · have ha : a = (a.toNat : Nat) := by omega
    have hb : b = (b.toNat : Nat) := by omega
    have h1 : a.toNat < l.length := by omega
    have h2 : b.toNat < l.length := by omega
    obtain ⟨h3, h4⟩ := hS_hop h h2 h1
    obtain ⟨q1, q2, q3, q4⟩ := path_walk h h2 (hS w l b.toNat a.toNat) a.toNat h1 h4.1
    refine ⟨a.toNat, b.toNat, pathN w l b.toNat (hS w l b.toNat a.toNat) a.toNat, ha, hb, h1, h2, ?_, q1, q2, q3, by omega⟩
    rw [wayR_ok h ha hb h1 h2, wayL_hop h h1 h2, path_nums]; rfl
  · rw [wayR_arg h hr] at hc; cases hc
omit h in
theorem wayR_len {a b : Int} (hc : ¬ windedE w l = 0 ∨ ¬ (wayR w l a b).2 = 0) : (wayR w l a b).1.length = 0 := by
  by_cases h0 : windedE w l = 0
  · rcases hc with hc | hc
    · exact absurd h0 hc
    · by_cases hr : (0 ≤ a ∧ a ≤ (l.length : Int) - 1) ∧ (0 ≤ b ∧ b ≤ (l.length : Int) - 1)
      · exfalso
        have h1 : a.toNat < l.length := by omega
        have h2 : b.toNat < l.length := by omega
        rw [wayR_ok h0 (show a = (a.toNat : Nat) by omega) (show b = (b.toNat : Nat) by omega) h1 h2, wayL_hop h0 h1 h2] at hc
        exact hc rfl
      · rw [wayR_arg h0 hr]; rfl
  · rw [wayR_err h0]; rfl
theorem prefix_long {na nb : Nat} {p : List Nat} (hn : na < l.length) (hp : ∀ x ∈ p, x < l.length) (he : wend na p = nb) (hl : wlen (boundM w l) na p = tightM w l na nb) {i : Nat} (hi : i ≤ p.length) :
    longR w l ((nums (na :: p)).take (i + 1)) = (tightM w l na (wend na (p.take i)), true) := by
  have h1 : (nums (na :: p)).take (i + 1) = nums (na :: p.take i) := by simp [nums, List.map_take]
  rw [h1, longR_walk h (fun x hx => ?_), (walk_parts h p na hn hp he hl i hi).1]
  cases hx with
  | head => exact hn
  | tail _ hx => exact hp x (List.mem_of_mem_take hx)
omit h in
theorem wend_at {na : Nat} : ∀ {p : List Nat} {i : Nat}, i ≤ p.length → gt (na :: p) i = wend na (p.take i)
  | _, 0, _ => by simp [gt, wend]
  | [], i + 1, hi => by simp at hi
  | k :: p, i + 1, hi => by
    rw [List.take_succ_cons, wend, ← wend_at (na := k) (p := p) (i := i) (by simpa using hi)]
    simp [gt]
omit h in
theorem drop_at {na : Nat} : ∀ {p : List Nat} {i : Nat}, i ≤ p.length → (na :: p).drop i = wend na (p.take i) :: p.drop i
  | _, 0, _ => by simp [wend]
  | [], i + 1, hi => by simp at hi
  | k :: p, i + 1, hi => by
    rw [List.drop_succ_cons, drop_at (na := k) (p := p) (i := i) (by simpa using hi), List.take_succ_cons, wend, List.drop_succ_cons]
theorem suffix_long {na nb : Nat} {p : List Nat} (hn : na < l.length) (hp : ∀ x ∈ p, x < l.length) (he : wend na p = nb) (hl : wlen (boundM w l) na p = tightM w l na nb) {i : Nat} (hi : i ≤ p.length) :
    longR w l ((nums (na :: p)).drop i) = (tightM w l (wend na (p.take i)) nb, true) := by
  have h1 : (nums (na :: p)).drop i = nums (wend na (p.take i) :: p.drop i) := by rw [← drop_at hi]; simp [nums, List.map_drop]
  rw [h1, longR_walk h (fun x hx => ?_), (walk_parts h p na hn hp he hl i hi).2]
  cases hx with
  | head => exact wend_lt _ _ hn (fun y hy => hp y (List.mem_of_mem_take hy))
  | tail _ hx => exact hp x (List.mem_of_mem_drop hx)
end
end Go.Proofs.S5
