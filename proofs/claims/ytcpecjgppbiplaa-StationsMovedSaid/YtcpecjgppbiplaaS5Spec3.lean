/- Stations: ways, heights, levels: what they are, in plain Lean. -/
import Derived.Test.YtcpecjgppbiplaaS5Spec2
import Derived.Test.YtcpecjgppbiplaaKxM
namespace Go.Proofs.S5
open Go Go.Kx

/-! ### ways -/
def edgeM (w : Wind) (l : List Station) (b i k : Nat) : Prop := i ≠ k ∧ boundM w l i k + tightM w l k b = tightM w l i b
instance (w : Wind) (l : List Station) (b i k : Nat) : Decidable (edgeM w l b i k) := by unfold edgeM; exact inferInstance
def reachS (w : Wind) (l : List Station) (b : Nat) : Nat → Nat → Bool
  | 0, i => decide (i = b)
  | m + 1, i => (List.range l.length).any fun k => decide (edgeM w l b i k) && reachS w l b m k
theorem gt_regB {w : Wind} {l : List Station} {a b : Nat} (ha : a < 32) (hb : b < 32) : gt (regB w l) (0 + a * 32 + b * 1) = tightM w l a b := by
  rw [show 0 + a * 32 + b * 1 = a * 32 + b by omega]; exact (regB_mat w l).2 a b ha hb
theorem edge_iff {w : Wind} {l : List Station} {b i k : Nat} (hl : l.length ≤ 32) (hi : i < l.length) (hk : k < l.length) (hb : b < l.length) :
    (boundS w (gt l i) (gt l k) + gt (regB w l) (0 + k * 32 + b * 1) = gt (regB w l) (0 + i * 32 + b * 1)) ↔ boundM w l i k + tightM w l k b = tightM w l i b := by
  rw [gt_regB (by omega) (by omega), gt_regB (by omega) (by omega), boundM, if_pos ⟨hi, hk⟩]
def AtRow (w : Wind) (l : List Station) (b j : Nat) (L : List Bool) : Prop := L.length = l.length ∧ ∀ i, i < l.length → gt L i = reachS w l b j i
theorem gt_repB (n k : Nat) : gt (List.replicate n false) k = false := by
  unfold gt
  rw [List.getD_eq_getElem?_getD, List.getElem?_replicate]
  split <;> rfl
theorem atRow_start {w : Wind} {l : List Station} {b : Nat} (hb : b < l.length) : AtRow w l b 0 ((List.replicate l.length false).set b true) := by
  refine ⟨by simp, fun i hi => ?_⟩
  rw [gt_set (by simpa using hb), gt_repB]
  unfold reachS
  by_cases e : b = i
  · subst e; simp
  · rw [if_neg e]; simp [Ne.symm e]
/-- a row whose first i places have been done -/
def Half (w : Wind) (l : List Station) (b j i : Nat) (L : List Bool) : Prop := L.length = l.length ∧ ∀ x, x < l.length → gt L x = (decide (x < i) && reachS w l b (j + 1) x)
def Part (w : Wind) (l : List Station) (b j i k : Nat) (L : List Bool) : Prop := L.length = l.length ∧ (∀ x, x < l.length → x ≠ i → gt L x = (decide (x < i) && reachS w l b (j + 1) x)) ∧
  gt L i = (List.range k).any fun k => decide (edgeM w l b i k) && reachS w l b j k
theorem half_zero (w : Wind) (l : List Station) (b j : Nat) : Half w l b j 0 (List.replicate l.length false) := ⟨by simp, fun x hx => by rw [gt_repB]; simp⟩
theorem half_part {w : Wind} {l : List Station} {b j i : Nat} {L : List Bool} (h : Half w l b j i L) (hi : i < l.length) : Part w l b j i 0 L := ⟨h.1, fun x hx _ => h.2 x hx, by rw [h.2 i hi]; simp⟩
theorem part_half {w : Wind} {l : List Station} {b j i k : Nat} {L : List Bool} (h : Part w l b j i k L) (hk : k = l.length) : Half w l b j (i + 1) L := by
  subst hk
  refine ⟨h.1, fun x hx => ?_⟩
  by_cases e : x = i
  · subst e; rw [h.2.2]; simp [reachS]
  · rw [h.2.1 x hx e]
    by_cases e2 : x < i
    · rw [decide_eq_true e2, decide_eq_true (show x < i + 1 by omega)]
    · rw [decide_eq_false e2, decide_eq_false (show ¬ x < i + 1 by omega)]
theorem half_end {w : Wind} {l : List Station} {b j i : Nat} {L : List Bool} (h : Half w l b j i L) (hi : i = l.length) : AtRow w l b (j + 1) L := by
  subst hi; exact ⟨h.1, fun x hx => by rw [h.2 x hx, decide_eq_true hx]; rfl⟩
theorem part_yes {w : Wind} {l : List Station} {b j i k : Nat} {L : List Bool} (h : Part w l b j i k L) (hi : i < l.length) (he : edgeM w l b i k) (hr : reachS w l b j k = true) : Part w l b j i (k + 1) (L.set i true) := by
  refine ⟨by rw [List.length_set]; exact h.1, fun x hx hne => ?_, ?_⟩
  · rw [gt_set (by rw [h.1]; exact hi), if_neg (Ne.symm hne)]; exact h.2.1 x hx hne
  · rw [gt_set (by rw [h.1]; exact hi), if_pos rfl, List.range_succ, List.any_append]; simp [he, hr]
theorem part_no {w : Wind} {l : List Station} {b j i k : Nat} {L : List Bool} (h : Part w l b j i k L) (he : ¬ (edgeM w l b i k ∧ reachS w l b j k = true)) : Part w l b j i (k + 1) L := by
  refine ⟨h.1, h.2.1, ?_⟩
  rw [h.2.2, List.range_succ, List.any_append]
  have : (decide (edgeM w l b i k) && reachS w l b j k) = false := by
    cases hr : reachS w l b j k with
    | false => simp
    | true => simp only [Bool.and_true, decide_eq_false_iff_not]; exact fun h2 => he ⟨h2, hr⟩
  simp [this]

theorem reach0 {w : Wind} {l : List Station} {b i : Nat} (h : i = b) : reachS w l b 0 i = true := decide_eq_true h
theorem reach0n {w : Wind} {l : List Station} {b i : Nat} (h : i ≠ b) : reachS w l b 0 i = false := decide_eq_false h
/-- the first number below n of which p is true -/
def firstK (p : Nat → Bool) : Nat → Nat → Nat
  | 0, _ => 0
  | n + 1, i => if p i then i else firstK p n (i + 1)
theorem firstK_eq {p : Nat → Bool} : ∀ {n i k : Nat}, i ≤ k → k < i + n → (∀ j, i ≤ j → j < k → p j = false) → p k = true → firstK p n i = k
  | 0, i, k, h1, h2, _, _ => by omega
  | n + 1, i, k, h1, h2, h3, h4 => by
    rw [firstK]
    by_cases e : i = k
    · subst e; rw [if_pos h4]
    · rw [if_neg (by simp [h3 i (Nat.le_refl _) (by omega)])]
      exact firstK_eq (by omega) (by omega) (fun j hj => h3 j (by omega)) h4
def hopK (w : Wind) (l : List Station) (b m i : Nat) : Nat := firstK (fun k => decide (edgeM w l b i k) && reachS w l b m k) l.length 0
/-- the first way with m further elements -/
def pathS (w : Wind) (l : List Station) (b : Nat) : Nat → Nat → List Int
  | 0, _ => []
  | m + 1, i => (hopK w l b m i : Int) :: pathS w l b m (hopK w l b m i)
theorem reach_yes {w : Wind} {l : List Station} {b m i k : Nat} (hk : k < l.length) (he : edgeM w l b i k) (hr : reachS w l b m k = true) : reachS w l b (m + 1) i = true := by
  unfold reachS; rw [List.any_eq_true]; exact ⟨k, List.mem_range.2 hk, by simp [he, hr]⟩
theorem reach_no {w : Wind} {l : List Station} {b m i : Nat} (h : ∀ k, k < l.length → ¬ (edgeM w l b i k ∧ reachS w l b m k = true)) : reachS w l b (m + 1) i = false := by
  unfold reachS
  rw [List.any_eq_false]
  intro k hk
  have := h k (List.mem_range.1 hk)
  simpa using this
theorem path_step {w : Wind} {l : List Station} {b m i k : Nat} (hk : k < l.length) (hno : ∀ j, j < k → ¬ (edgeM w l b i j ∧ reachS w l b m j = true)) (he : edgeM w l b i k) (hr : reachS w l b m k = true) (W : List Int) :
    (W ++ [(k : Int)]) ++ pathS w l b m k = W ++ pathS w l b (m + 1) i := by
  have : hopK w l b m i = k := firstK_eq (Nat.zero_le _) (by omega) (fun j _ hj => by have := hno j hj; simpa using this) (by simp [he, hr])
  rw [pathS, this]; simp
/-- the least number of further elements with which a way leads there -/
def leastM (w : Wind) (l : List Station) (a b : Nat) : Nat → Nat → Option Nat
  | 0, _ => none
  | n + 1, m => if reachS w l b m a then some m else leastM w l a b n (m + 1)
theorem leastM_skip {w : Wind} {l : List Station} {a b : Nat} : ∀ (k n m : Nat), (∀ j, m ≤ j → j < m + k → reachS w l b j a = false) → leastM w l a b (n + k) m = leastM w l a b n (m + k)
  | 0, n, m, _ => rfl
  | k + 1, n, m, h => by
    rw [show n + (k + 1) = (n + k) + 1 by omega, leastM, if_neg (by simp [h m (Nat.le_refl _) (by omega)])]
    rw [leastM_skip k n (m + 1) (fun j h1 h2 => h j (by omega) (by omega)), show m + 1 + k = m + (k + 1) by omega]
def wayL (w : Wind) (l : List Station) (a b : Nat) : List Int × Int := match leastM w l a b l.length 0 with
  | some m => ((a : Int) :: pathS w l b m a, 0)
  | none => ([], 3)
theorem wayL_yes {w : Wind} {l : List Station} {a b m : Nat} (hm : m < l.length) (h : ∀ j, j < m → reachS w l b j a = false) (hr : reachS w l b m a = true) : wayL w l a b = ((a : Int) :: pathS w l b m a, 0) := by
  have := leastM_skip (w := w) (l := l) (a := a) (b := b) m (l.length - m) 0 (fun j _ h2 => h j (by omega))
  rw [show l.length - m + m = l.length by omega, show l.length - m = (l.length - m - 1) + 1 by omega, leastM, Nat.zero_add, if_pos hr] at this
  rw [wayL, this]
theorem wayL_no {w : Wind} {l : List Station} {a b : Nat} (h : ∀ j, j < l.length → reachS w l b j a = false) : wayL w l a b = ([], 3) := by
  have := leastM_skip (w := w) (l := l) (a := a) (b := b) l.length 0 0 (fun j _ h2 => h j (by omega))
  rw [Nat.zero_add, leastM] at this
  rw [wayL, this]
def wayR (w : Wind) (l : List Station) (a b : Int) : List Int × Int :=
  if windedE w l ≠ 0 then ([], windedE w l) else if (0 ≤ a ∧ a ≤ (l.length : Int) - 1) ∧ (0 ≤ b ∧ b ≤ (l.length : Int) - 1) then wayL w l a.toNat b.toNat else ([], 1)

/-- what the searching closure finds around it -/
structure WEnv (w : Wind) (l : List Station) (b lo : Nat) {S : Type} (HS : S → List Ent) (I Ix : Nat → Mem → S → Prop) (Ok : Prop) (P0 : List Int) (pb py prr pf pr : Addr) (m : Mem) : Prop where
  reg : At m pr (regS w l)
  ok : windedE w l = 0
  hb : b < l.length
  cb : At m pb (b : Int)
  cy : Cells m py [.func (.yield lo) #[] #[]]
  cr : Cells m prr [.pointer (some pr)]
  cf : Cells m pf [.func (.func 101) #[] [.pointer (some pb), .pointer (some py), .pointer (some prr), .pointer (some pf)].toArray]
  yield : Ok → ∀ m1 s args, m.le m1 → (∃ v, args = #[v] ∧ Sl m1 v P0) → I 0 m1 s → YieldOk Try.prog lo args m1 (HS s) (fun m' H' => m1.le m' ∧ ∃ s', H' = HS s' ∧ I 1 m' s') (fun m' H' => m1.le m' ∧ ∃ s', H' = HS s' ∧ Ix 1 m' s')
  once : ∀ i m' s, ¬ I (i + 1) m' s
  mono : ∀ i m1 m2 s, m1.le m2 → I i m1 s → I i m2 s
theorem WEnv.up {w : Wind} {l : List Station} {b lo : Nat} {S : Type} {HS : S → List Ent} {I Ix : Nat → Mem → S → Prop} {Ok : Prop} {P0 : List Int} {pb py prr pf pr : Addr} {m m2 : Mem} (h : WEnv w l b lo HS I Ix Ok P0 pb py prr pf pr m) (hm : m.le m2) : WEnv w l b lo HS I Ix Ok P0 pb py prr pf pr m2 :=
  ⟨h.reg.mono hm, h.ok, h.hb, h.cb.mono hm, h.cy.mono hm, h.cr.mono hm, h.cf.mono hm, fun ho m1 s args hle => h.yield ho m1 s args (Mem.le_trans hm hle), h.once, h.mono⟩
def From101 (more : Nat) : Prop := ∀ {w : Wind} {l : List Station} {b lo : Nat} {S : Type} {HS : S → List Ent} {I Ix : Nat → Mem → S → Prop} {Ok : Prop} {P0 : List Int} {pb py prr pf pr : Addr} (m : Mem), WEnv w l b lo HS I Ix Ok P0 pb py prr pf pr m →
  ∀ (cur : Nat) (vw : Value) (W : List Int) (s : S) (im : Int), cur < l.length → Sl m vw W → (0 < W.length ∧ gt W (W.length - 1) = cur) → W.length + more ≤ 64 → (reachS w l b more cur = true → Ok ∧ W ++ pathS w l b more cur = P0) → I 0 m s → im = more →
  Mut Try.prog 101 [vw, .int .i64 im, .pointer (some pb), .pointer (some py), .pointer (some prr), .pointer (some pf)].toArray m (HS s)
    (fun m' Es v => (reachS w l b more cur = false ∧ v = .bool true ∧ Es = HS s ∧ m' = m) ∨ (reachS w l b more cur = true ∧ v = .bool false ∧ ∃ s', Es = HS s' ∧ Ix 1 m' s'))

theorem pathS_len {w : Wind} {l : List Station} {b : Nat} : ∀ (m i : Nat), (pathS w l b m i).length = m
  | 0, _ => rfl
  | m + 1, i => by rw [pathS, List.length_cons, pathS_len m]
theorem row_regB {w : Wind} {l : List Station} {i : Nat} (hl : l.length ≤ 32) (hi : i < l.length) : [] ++ ((regB w l).drop (0 + i * 32)).take l.length = (List.range l.length).map fun k => tightM w l i k := by
  rw [List.nil_append]
  have hlen := (regB_mat w l).1
  apply ext_gt (by simp [hlen]; omega)
  intro j hj
  simp only [List.length_take, List.length_drop] at hj
  rw [gt_map _ (by omega), ← gt_regB (w := w) (l := l) (a := i) (b := j) (by omega) (by omega)]
  unfold gt
  rw [List.getD_eq_getElem?_getD, List.getD_eq_getElem?_getD, List.getElem?_take_of_lt (by omega), List.getElem?_drop]
  congr 2; omega

/-! ### levels of levels at the sea -/
theorem seaS_mono {h a b : Int} (hh : 0 ≤ h) (_ha : 0 ≤ a) (hab : a < b) : seaS a h < seaS b h := by
  unfold seaS
  have h1 : a * h ≤ b * h := Int.mul_le_mul_of_nonneg_right (by omega) hh
  have h2 : a * h / 8000 ≤ b * h / 8000 := Int.ediv_le_ediv (by omega) h1
  omega
theorem seaS_le {h a b : Int} (hh : 0 ≤ h) (ha : 0 ≤ a) (hab : a ≤ b) : seaS a h ≤ seaS b h := by
  rcases Int.lt_or_eq_of_le hab with h1 | h1
  · exact Int.le_of_lt (seaS_mono hh ha h1)
  · subst h1; exact Int.le_refl _
/-- the least level from k on, n of them, with the level at the sea, or -1 -/
def findSea (level h : Int) : Nat → Nat → Int
  | 0, _ => -1
  | n + 1, k => if seaS k h = level then k else findSea level h n (k + 1)
theorem findSea_skip {level h : Int} : ∀ (j n k : Nat), (∀ i, k ≤ i → i < k + j → seaS (i : Int) h ≠ level) → findSea level h (n + j) k = findSea level h n (k + j)
  | 0, n, k, _ => rfl
  | j + 1, n, k, hh => by
    rw [show n + (j + 1) = (n + j) + 1 by omega, findSea, if_neg (hh k (Nat.le_refl _) (by omega)), findSea_skip j n (k + 1) (fun i h1 h2 => hh i (by omega) (by omega)), show k + 1 + j = k + (j + 1) by omega]
theorem findSea_yes {level h : Int} {k : Nat} (hk : k ≤ 12000) (hno : ∀ i, i < k → seaS (i : Int) h ≠ level) (hy : seaS k h = level) : findSea level h 12001 0 = k := by
  have := findSea_skip (level := level) (h := h) k (12001 - k) 0 (fun i _ h2 => hno i (by omega))
  rw [show 12001 - k + k = 12001 by omega, Nat.zero_add, show 12001 - k = (12000 - k) + 1 by omega] at this
  rw [this]
  unfold findSea
  rw [if_pos hy]
theorem findSea_no {level h : Int} (hno : ∀ i : Nat, i ≤ 12000 → seaS (i : Int) h ≠ level) : findSea level h 12001 0 = -1 := by
  have := findSea_skip (level := level) (h := h) 12001 0 0 (fun i _ h2 => hno i (by omega))
  rw [Nat.zero_add] at this
  rw [this]; rfl
def landsR (level h : Int) : Span × Int :=
  if (0 ≤ level ∧ level ≤ 18000) ∧ (0 ≤ h ∧ h ≤ 4000) then (if findSea level h 12001 0 = -1 then (⟨0, 0⟩, 3) else (⟨findSea level h 12001 0, findSea level h 12001 0⟩, 0)) else (⟨0, 0⟩, 1)
attribute [irreducible] findSea
theorem landsR_arg {level h : Int} (hh : ¬ ((0 ≤ level ∧ level ≤ 18000) ∧ (0 ≤ h ∧ h ≤ 4000))) : landsR level h = (⟨0, 0⟩, 1) := by unfold landsR; rw [if_neg hh]
theorem landsR_yes {level h : Int} {k : Nat} (h1 : 0 ≤ level ∧ level ≤ 18000) (h2 : 0 ≤ h ∧ h ≤ 4000) (hk : k ≤ 12000) (hno : ∀ i, i < k → seaS (i : Int) h ≠ level) (hy : seaS k h = level) : landsR level h = (⟨k, k⟩, 0) := by
  unfold landsR; rw [if_pos ⟨h1, h2⟩, findSea_yes hk hno hy, if_neg (by omega)]
theorem landsR_no {level h : Int} (h1 : 0 ≤ level ∧ level ≤ 18000) (h2 : 0 ≤ h ∧ h ≤ 4000) (hno : ∀ i : Nat, i ≤ 12000 → seaS (i : Int) h ≠ level) : landsR level h = (⟨0, 0⟩, 3) := by
  unfold landsR; rw [if_pos ⟨h1, h2⟩, findSea_no hno, if_pos rfl]

/-! ### speeds -/
theorem gcd_rem {x y : Int} (_hx : 0 ≤ x) (_hy : 0 < y) : Int.gcd y (x % y) = Int.gcd x y := by
  rw [Int.gcd_comm x y]
  have : x % y = x - y * (x / y) := by have := Int.mul_ediv_add_emod x y; omega
  rw [this, Int.gcd_sub_mul_left_right]
def speedS (a b : Station) (ticks : Int) : Ratio := ⟨distS a b / Int.gcd (distS a b) ticks, ticks / Int.gcd (distS a b) ticks⟩
def speedR (a b : Station) (ticks : Int) : Ratio × Int := if twoE a b ≠ 0 then (⟨0, 0⟩, twoE a b) else if 1 ≤ ticks ∧ ticks ≤ 400 then (speedS a b ticks, 0) else (⟨0, 0⟩, 1)

/-! ### heights in a week -/
/-- the last heights that hold in a week: the first n of them -/
def heightN (s : Station) (week : Int) : Nat → Span
  | 0 => (gt s.Heights 0).Metres
  | n + 1 => if (gt s.Heights n).Week ≤ week then (gt s.Heights n).Metres else heightN s week n
def heightS (s : Station) (week : Int) : Span := heightN s week s.Heights.length
theorem agg2 {a b a' b' : Int} (h1 : a = a') (h2 : b = b') : Value.agg [.int .i64 a, .int .i64 b].toArray = .agg [.int .i64 a', .int .i64 b'].toArray := by rw [h1, h2]
theorem gcd_zero {x : Int} (h : 0 ≤ x) : ((Int.gcd x 0 : Nat) : Int) = x := by rw [Int.gcd_zero_right]; omega
theorem gcd_pos {x y : Int} (h : 0 < y) : 0 < ((Int.gcd x y : Nat) : Int) := by
  have : 0 < Int.gcd x y := Int.gcd_pos_of_ne_zero_right x (by omega)
  omega
theorem emod_bd {x y : Int} (hy : 0 < y) : 0 ≤ x % y ∧ x % y < y := ⟨Int.emod_nonneg x (by omega), Int.emod_lt_of_pos x hy⟩
def cmpI (x y : Int) : Int := if x < y then -1 else if y < x then 1 else 0
/-- the first height that does not come before a week, and whether it is of that week -/
def Sorted (L : List Height) : Prop := ∀ i, 0 < i → i < L.length → (gt L (i - 1)).Week < (gt L i).Week
theorem sorted_lt {L : List Height} (h : Sorted L) : ∀ {i j : Nat}, i < j → j < L.length → (gt L i).Week < (gt L j).Week
  | i, 0, h1, _ => by omega
  | i, j + 1, h1, h2 => by
    have h3 := h (j + 1) (by omega) h2
    rw [Nat.add_sub_cancel] at h3
    rcases Nat.lt_succ_iff_lt_or_eq.1 h1 with h4 | h4
    · have := sorted_lt h h4 (by omega); omega
    · subst h4; exact h3
def lowN (L : List Height) (week : Int) : Nat → Nat → Nat
  | 0, i => i
  | n + 1, i => if (gt L i).Week < week then lowN L week n (i + 1) else i
def lowS (L : List Height) (week : Int) : Nat := lowN L week L.length 0
theorem lowN_eq {L : List Height} {week : Int} : ∀ {n i k : Nat}, i ≤ k → k ≤ i + n → (∀ j, i ≤ j → j < k → (gt L j).Week < week) → (k < i + n → week ≤ (gt L k).Week) → lowN L week n i = k
  | 0, i, k, h1, h2, _, _ => by rw [lowN]; omega
  | n + 1, i, k, h1, h2, h3, h4 => by
    rw [lowN]
    by_cases e : i = k
    · subst e; rw [if_neg (by have := h4 (by omega); omega)]
    · rw [if_pos (h3 i (Nat.le_refl _) (by omega))]
      exact lowN_eq (by omega) (by omega) (fun j hj => h3 j (by omega)) (fun hk => h4 (by omega))
theorem lowS_eq {L : List Height} {week : Int} {k : Nat} (hk : k ≤ L.length) (h1 : ∀ j, j < k → (gt L j).Week < week) (h2 : k < L.length → week ≤ (gt L k).Week) : lowS L week = k :=
  lowN_eq (Nat.zero_le _) (by omega) (fun j _ hj => h1 j hj) (fun h => h2 (by omega))
theorem cmpI_neg {x y : Int} : cmpI x y < 0 ↔ x < y := by unfold cmpI; split <;> (try split) <;> omega
theorem cmpI_zero {x y : Int} : cmpI x y = 0 ↔ x = y := by unfold cmpI; split <;> (try split) <;> omega
theorem lowN_spec {L : List Height} {week : Int} : ∀ (n i : Nat), i ≤ lowN L week n i ∧ lowN L week n i ≤ i + n ∧ (∀ j, i ≤ j → j < lowN L week n i → (gt L j).Week < week) ∧ (lowN L week n i < i + n → week ≤ (gt L (lowN L week n i)).Week)
  | 0, i => by rw [lowN]; exact ⟨Nat.le_refl _, Nat.le_refl _, fun j h1 h2 => by omega, fun h => by omega⟩
  | n + 1, i => by
    rw [lowN]
    split
    · rename_i h
      obtain ⟨h1, h2, h3, h4⟩ := lowN_spec (L := L) (week := week) n (i + 1)
      refine ⟨by omega, by omega, fun j h5 h6 => ?_, fun h5 => h4 (by omega)⟩
      rcases Nat.lt_or_ge i j with h7 | h7
      · exact h3 j (by omega) h6
      · have : j = i := by omega
        subst this; exact h
    · rename_i h
      exact ⟨Nat.le_refl _, by omega, fun j h1 h2 => by omega, fun _ => by omega⟩
theorem lowS_spec {L : List Height} {week : Int} {k : Nat} (h : lowS L week = k) : k ≤ L.length ∧ (∀ j, j < k → (gt L j).Week < week) ∧ (k < L.length → week ≤ (gt L k).Week) := by
  obtain ⟨_, h2, h3, h4⟩ := lowN_spec (L := L) (week := week) L.length 0
  unfold lowS at h
  rw [h] at h2 h3 h4
  exact ⟨by omega, fun j hj => h3 j (Nat.zero_le _) hj, fun hk => h4 (by omega)⟩
theorem highOk_sorted {L : List Height} (h : highOk L) : Sorted L := fun i h1 h2 => (h.2 i h2).2.1 h1
theorem heightN_eq {s : Station} {week : Int} {k : Nat} (hy : (gt s.Heights k).Week ≤ week) : ∀ n, k < n → (∀ j, k < j → j < n → week < (gt s.Heights j).Week) → heightN s week n = (gt s.Heights k).Metres
  | 0, h, _ => by omega
  | n + 1, h, hno => by
    rw [heightN]
    by_cases e : k = n
    · subst e; rw [if_pos hy]
    · rw [if_neg (by have := hno n (by omega) (by omega); omega)]
      exact heightN_eq hy n (by omega) (fun j h1 h2 => hno j h1 (by omega))
theorem heightS_same {s : Station} {week : Int} {k : Nat} (hs : highOk s.Heights) (hk : k < s.Heights.length) (hw : (gt s.Heights k).Week = week) : heightS s week = (gt s.Heights k).Metres :=
  heightN_eq (by omega) _ hk (fun j h1 h2 => by have := sorted_lt (highOk_sorted hs) h1 h2; omega)
theorem heightS_below {s : Station} {week : Int} {k : Nat} (hs : highOk s.Heights) (h0 : 0 < k) (hk : k ≤ s.Heights.length) (h1 : (gt s.Heights (k - 1)).Week < week) (h2 : k < s.Heights.length → week < (gt s.Heights k).Week) : heightS s week = (gt s.Heights (k - 1)).Metres :=
  heightN_eq (by omega) _ (by omega) (fun j h3 h4 => by
    have h5 := h2 (by omega)
    rcases Nat.lt_or_ge k j with h6 | h6
    · have := sorted_lt (highOk_sorted hs) h6 h4; omega
    · have : j = k := by omega
      subst this; exact h5)
theorem heightN_ok {s : Station} {week : Int} (hs : highOk s.Heights) : ∀ n, n ≤ s.Heights.length → spanOk (heightN s week n)
  | 0, _ => by have h1 := hs.1; have := hs.2 0 (by omega); unfold heightAt at this; rw [heightN]; unfold spanOk; omega
  | n + 1, h => by
    rw [heightN]
    split
    · have := hs.2 n (by omega); unfold heightAt at this; unfold spanOk; omega
    · exact heightN_ok hs n (by omega)
theorem heightS_ok {s : Station} {week : Int} (hs : highOk s.Heights) : spanOk (heightS s week) := heightN_ok hs _ (Nat.le_refl _)
def lvOk (list : List Int) (i : Nat) : Prop := 0 ≤ gt list i ∧ gt list i ≤ 12000
instance (list : List Int) (i : Nat) : Decidable (lvOk list i) := by unfold lvOk; exact inferInstance
def levelsE (w : Wind) (l : List Station) (week : Int) (list : List Int) : Int :=
  if windedE w l ≠ 0 then windedE w l else if (0 ≤ week ∧ week ≤ 10000) ∧ list.length = l.length then (if ∀ i, i < l.length → lvOk list i then 0 else 1) else 1
def seaAt (l : List Station) (week : Int) (list : List Int) (i : Nat) : Span := seasS (gt list i) (heightS (gt l i) week)
def seasL (l : List Station) (week : Int) (list : List Int) : List Span := (List.range l.length).map (seaAt l week list)
def levelsL (w : Wind) (l : List Station) (week : Int) (list : List Int) : List Span := if levelsE w l week list = 0 then seasL l week list else []
theorem levelsE_zero {w : Wind} {l : List Station} {week : Int} {list : List Int} (h : levelsE w l week list = 0) : windedE w l = 0 ∧ (0 ≤ week ∧ week ≤ 10000) ∧ list.length = l.length ∧ ∀ i, i < l.length → lvOk list i := by
  unfold levelsE at h
  split at h
  · rename_i h1; exact absurd h h1
  · rename_i h1
    split at h
    · rename_i h2
      split at h
      · rename_i h3; exact ⟨Decidable.of_not_not h1, h2.1, h2.2, h3⟩
      · cases h
    · cases h
theorem levelsE_err {w : Wind} {l : List Station} {week : Int} {list : List Int} (h : ¬ windedE w l = 0) : levelsE w l week list = windedE w l := by unfold levelsE; rw [if_pos h]
theorem levelsE_arg {w : Wind} {l : List Station} {week : Int} {list : List Int} (h : windedE w l = 0) (h2 : ¬ ((0 ≤ week ∧ week ≤ 10000) ∧ list.length = l.length)) : levelsE w l week list = 1 := by unfold levelsE; rw [if_neg (by simp [h]), if_neg h2]
theorem levelsE_bad {w : Wind} {l : List Station} {week : Int} {list : List Int} {i : Nat} (h : windedE w l = 0) (hi : i < l.length) (hb : ¬ lvOk list i) : levelsE w l week list = 1 := by
  unfold levelsE
  rw [if_neg (by simp [h])]
  split
  · rw [if_neg (fun hh => hb (hh i hi))]
  · rfl
theorem levelsE_ok {w : Wind} {l : List Station} {week : Int} {list : List Int} (h : windedE w l = 0) (h1 : 0 ≤ week ∧ week ≤ 10000) (h2 : list.length = l.length) (h3 : ∀ i, i < l.length → lvOk list i) : levelsE w l week list = 0 := by
  unfold levelsE; rw [if_neg (by simp [h]), if_pos ⟨h1, h2⟩, if_pos h3]
/-! ### two that are apart -/
def apartP (w : Wind) (l : List Station) (S : List Span) (i k : Nat) : Prop := tightM w l i k < max ((gt S k).Lo - (gt S i).Hi) ((gt S i).Lo - (gt S k).Hi)
instance (w : Wind) (l : List Station) (S : List Span) (i k : Nat) : Decidable (apartP w l S i k) := by unfold apartP; exact inferInstance
def findK (p : Nat → Bool) : Nat → Nat → Option Nat
  | 0, _ => none
  | n + 1, k => if p k then some k else findK p n (k + 1)
def findI (p : Nat → Nat → Bool) (N : Nat) : Nat → Nat → Option (Nat × Nat)
  | 0, _ => none
  | n + 1, i => match findK (p i) (N - (i + 1)) (i + 1) with
    | some k => some (i, k)
    | none => findI p N n (i + 1)
theorem findK_yes {p : Nat → Bool} : ∀ {n i k : Nat}, i ≤ k → k < i + n → (∀ j, i ≤ j → j < k → p j = false) → p k = true → findK p n i = some k
  | 0, i, k, h1, h2, _, _ => by omega
  | n + 1, i, k, h1, h2, h3, h4 => by
    rw [findK]
    by_cases e : i = k
    · subst e; rw [if_pos h4]
    · rw [if_neg (by simp [h3 i (Nat.le_refl _) (by omega)])]
      exact findK_yes (by omega) (by omega) (fun j hj => h3 j (by omega)) h4
theorem findK_no {p : Nat → Bool} : ∀ {n i : Nat}, (∀ j, i ≤ j → j < i + n → p j = false) → findK p n i = none
  | 0, i, _ => rfl
  | n + 1, i, h => by
    rw [findK, if_neg (by simp [h i (Nat.le_refl _) (by omega)])]
    exact findK_no (fun j h1 h2 => h j (by omega) (by omega))
theorem findI_yes {p : Nat → Nat → Bool} {N : Nat} : ∀ {n i a b : Nat}, i ≤ a → a < i + n → a < b → b < N → (∀ j k, i ≤ j → j < a → j < k → k < N → p j k = false) → (∀ k, a < k → k < b → p a k = false) → p a b = true → findI p N n i = some (a, b)
  | 0, i, a, b, h1, h2, _, _, _, _, _ => by omega
  | n + 1, i, a, b, h1, h2, h3, h4, h5, h6, h7 => by
    rw [findI]
    by_cases e : i = a
    · subst e; rw [findK_yes (p := p i) (k := b) (by omega) (by omega) (fun j hj => h6 j (by omega)) h7]
    · rw [findK_no (p := p i) (fun j h8 h9 => h5 i j (Nat.le_refl _) (by omega) (by omega) (by omega))]
      exact findI_yes (by omega) (by omega) h3 h4 (fun j k h8 => h5 j k (by omega)) h6 h7
theorem findI_no {p : Nat → Nat → Bool} {N : Nat} : ∀ {n i : Nat}, (∀ j k, i ≤ j → j < i + n → j < k → k < N → p j k = false) → findI p N n i = none
  | 0, i, _ => rfl
  | n + 1, i, h => by
    rw [findI, findK_no (p := p i) (fun j h8 h9 => h i j (Nat.le_refl _) (by omega) (by omega) (by omega))]
    exact findI_no (fun j k h1 h2 => h j k (by omega) (by omega))
def apartR (w : Wind) (l : List Station) (week : Int) (list : List Int) : List Int × Int :=
  if levelsE w l week list ≠ 0 then ([], levelsE w l week list) else match findI (fun i k => decide (apartP w l (seasL l week list) i k)) l.length l.length 0 with
    | some (i, k) => ([(i : Int), (k : Int)], 0)
    | none => ([], 3)
theorem apartR_err {w : Wind} {l : List Station} {week : Int} {list : List Int} (h : ¬ levelsE w l week list = 0) : apartR w l week list = ([], levelsE w l week list) := by unfold apartR; rw [if_pos h]
theorem apartR_yes {w : Wind} {l : List Station} {week : Int} {list : List Int} {i k : Nat} (h : levelsE w l week list = 0) (hi : i < k) (hk : k < l.length) (h1 : ∀ j x, j < i → j < x → x < l.length → ¬ apartP w l (seasL l week list) j x) (h2 : ∀ x, i < x → x < k → ¬ apartP w l (seasL l week list) i x) (h3 : apartP w l (seasL l week list) i k) : apartR w l week list = ([(i : Int), (k : Int)], 0) := by
  unfold apartR
  rw [if_neg (by simp [h]), findI_yes (a := i) (b := k) (Nat.zero_le _) (by omega) hi hk (fun j x _ h4 h5 h6 => decide_eq_false (h1 j x h4 h5 h6)) (fun x h4 h5 => decide_eq_false (h2 x h4 h5)) (decide_eq_true h3)]
theorem apartR_no {w : Wind} {l : List Station} {week : Int} {list : List Int} (h : levelsE w l week list = 0) (h1 : ∀ j x, j < l.length → j < x → x < l.length → ¬ apartP w l (seasL l week list) j x) : apartR w l week list = ([], 3) := by
  unfold apartR
  rw [if_neg (by simp [h]), findI_no (fun j x _ h4 h5 h6 => decide_eq_false (h1 j x (by omega) h5 h6))]
theorem seasL_bd {w : Wind} {l : List Station} {week : Int} {list : List Int} (h : levelsE w l week list = 0) {i : Nat} (hi : i < l.length) :
    (0 ≤ (gt (seasL l week list) i).Lo ∧ (gt (seasL l week list) i).Lo ≤ 100000) ∧ (0 ≤ (gt (seasL l week list) i).Hi ∧ (gt (seasL l week list) i).Hi ≤ 100000) := by
  have hz := levelsE_zero h
  have h1 := hz.2.2.2 i hi
  have h2 := heightS_ok (week := week) (checkS_placed (windedE_zero hz.1).1 hi).2
  unfold lvOk at h1
  have h3 := h2.1
  have h4 := h2.2
  have h5 := sea_mul (l := gt list i) (h := (heightS (gt l i) week).Lo) (by omega) (by omega)
  have h6 := sea_mul (l := gt list i) (h := (heightS (gt l i) week).Hi) (by omega) (by omega)
  rw [seasL, gt_map _ hi, seaAt, seasS]
  unfold seaS
  dsimp only
  omega
theorem len1 {α : Type} : ∀ {l : List α}, l.length = 1 → ∃ x, l = [x]
  | [x], _ => ⟨x, rfl⟩
theorem wayR_err {w : Wind} {l : List Station} {a b : Int} (h : windedE w l ≠ 0) : wayR w l a b = ([], windedE w l) := by unfold wayR; rw [if_pos h]
theorem wayR_arg {w : Wind} {l : List Station} {a b : Int} (h : windedE w l = 0) (h2 : ¬ ((0 ≤ a ∧ a ≤ (l.length : Int) - 1) ∧ (0 ≤ b ∧ b ≤ (l.length : Int) - 1))) : wayR w l a b = ([], 1) := by
  unfold wayR; rw [if_neg (by simp [h]), if_neg h2]
theorem wayR_ok {w : Wind} {l : List Station} {a b : Int} {na nb : Nat} (h : windedE w l = 0) (ha : a = na) (hb : b = nb) (h1 : na < l.length) (h2 : nb < l.length) : wayR w l a b = wayL w l na nb := by
  subst ha; subst hb
  unfold wayR; rw [if_neg (by simp [h]), if_pos (by omega)]; rfl
end Go.Proofs.S5
