import Derived.Test.YtooomcigmleneaaGreatT10Forg
/- Top, clocks: lists and numbers, in plain Lean. -/
namespace Go.Proofs.T10
open Go Go.Kx

/-! ### the first of some numbers; sums -/
def fstF (p : Nat → Prop) [DecidablePred p] : Nat → Nat → Nat
  | 0, k => k
  | f + 1, k => if p k then k else fstF p f (k + 1)
def first (p : Nat → Prop) [DecidablePred p] (n : Nat) : Nat := fstF p n 0
theorem fstF_eq {p : Nat → Prop} [DecidablePred p] : ∀ {f a k : Nat}, a ≤ k → k < a + f → (∀ j, a ≤ j → j < k → ¬ p j) → p k → fstF p f a = k
  | 0, a, k, h1, h2, _, _ => by omega
  | f + 1, a, k, h1, h2, h, hp => by
    unfold fstF
    rcases Nat.lt_or_ge a k with h3 | h3
    · rw [if_neg (h a (Nat.le_refl _) h3)]
      exact fstF_eq h3 (by omega) (fun j hj => h j (by omega)) hp
    · have : a = k := by omega
      subst this
      rw [if_pos hp]
theorem fstF_no {p : Nat → Prop} [DecidablePred p] : ∀ {f a : Nat}, (∀ j, a ≤ j → j < a + f → ¬ p j) → fstF p f a = a + f
  | 0, a, _ => rfl
  | f + 1, a, h => by
    unfold fstF
    rw [if_neg (h a (Nat.le_refl _) (by omega)), fstF_no (fun j h1 h2 => h j (by omega) (by omega))]
    omega
theorem first_eq {p : Nat → Prop} [DecidablePred p] {n k : Nat} (hk : k < n) (h : ∀ j, j < k → ¬ p j) (hp : p k) : first p n = k :=
  fstF_eq (Nat.zero_le _) (by omega) (fun j _ hj => h j hj) hp
theorem first_no {p : Nat → Prop} [DecidablePred p] {n : Nat} (h : ∀ j, j < n → ¬ p j) : first p n = n := by
  have := fstF_no (p := p) (f := n) (a := 0) (fun j _ hj => h j (by omega))
  simpa [first] using this
theorem first_cases (p : Nat → Prop) [DecidablePred p] (n : Nat) : (first p n = n ∧ ∀ j, j < n → ¬ p j) ∨ (first p n < n ∧ p (first p n) ∧ ∀ j, j < first p n → ¬ p j) := by
  by_cases h : ∀ j, j < n → ¬ p j
  · exact .inl ⟨first_no h, h⟩
  · right
    have : ∃ k, k < n ∧ p k ∧ ∀ j, j < k → ¬ p j := by
      have hex : ∃ j, j < n ∧ p j := by
        by_cases he : ∃ j, j < n ∧ p j
        · exact he
        · exact absurd (fun j hj hp => he ⟨j, hj, hp⟩) h
      obtain ⟨j0, hj0⟩ := hex
      have key : ∀ b, (∃ j, j ≤ b ∧ j < n ∧ p j) → ∃ k, k < n ∧ p k ∧ ∀ j, j < k → ¬ p j := by
        intro b
        induction b with
        | zero => rintro ⟨j, h1, h2, h3⟩; obtain rfl : j = 0 := by omega
                  exact ⟨0, h2, h3, fun i hi => absurd hi (Nat.not_lt_zero _)⟩
        | succ b ih =>
          rintro ⟨j, h1, h2, h3⟩
          by_cases hb : ∃ j, j ≤ b ∧ j < n ∧ p j
          · exact ih hb
          · have hj : j = b + 1 := by
              rcases Nat.lt_or_ge b j with h4 | h4
              · omega
              · exact absurd ⟨j, h4, h2, h3⟩ hb
            subst hj
            exact ⟨b + 1, h2, h3, fun i hi hp => hb ⟨i, by omega, by omega, hp⟩⟩
      exact key j0 ⟨j0, Nat.le_refl _, hj0⟩
    obtain ⟨k, hk, hp, hm⟩ := this
    have := first_eq hk hm hp
    exact ⟨by omega, by rw [this]; exact hp, by rw [this]; exact hm⟩

def sumN (f : Nat → Int) : Nat → Int
  | 0 => 0
  | n + 1 => sumN f n + f n
theorem map_succ {α : Type} (f : Nat → α) (n : Nat) : (List.range n).map f ++ [f n] = (List.range (n + 1)).map f := by rw [List.range_succ]; simp
theorem map_len {α : Type} (f : Nat → α) (n : Nat) : ((List.range n).map f).length = n := by simp
theorem gt_map {α : Type} [Inhabited α] {f : Nat → α} {n i : Nat} (h : i < n) : gt ((List.range n).map f) i = f i := by
  have : ((List.range n).map f)[i]? = some (f i) := by rw [List.getElem?_map, List.getElem?_range h]; rfl
  simp [gt, this]

theorem gt_set {α : Type} [Inhabited α] (L : List α) {a b : Nat} (x : α) (hb : b < L.length) : gt (L.set a x) b = if a = b then x else gt L b := by
  simp only [gt, List.getD, List.getElem?_set]
  split
  · subst_vars; simp [hb]
  · rfl
theorem map_gt {α : Type} [Inhabited α] (L : List α) : (List.range L.length).map (gt L) = L := by
  refine ext_gt (by simp) fun j hj => ?_
  rw [gt_map (by simpa using hj)]
theorem map_congr {α : Type} {f g : Nat → α} {n : Nat} (h : ∀ i, i < n → f i = g i) : (List.range n).map f = (List.range n).map g := by
  apply List.map_congr_left
  intro a ha
  exact h a (by simpa using ha)
theorem eq_map {α : Type} [Inhabited α] {L : List α} {f : Nat → α} {n : Nat} (hl : L.length = n) (h : ∀ i, i < n → gt L i = f i) : L = (List.range n).map f := by
  subst hl
  rw [← map_congr h, map_gt]
theorem rep_map {α : Type} (x : α) (n : Nat) : List.replicate n x = (List.range n).map fun _ => x := by
  rw [List.map_const', List.length_range]
/-! ### the place of the first one, or -1 -/
def idxF (p : Nat → Prop) [DecidablePred p] (n : Nat) : Int := if first p n < n then (first p n : Int) else -1
theorem idxF_yes {p : Nat → Prop} [DecidablePred p] {n k : Nat} (hk : k < n) (h : ∀ j, j < k → ¬ p j) (hp : p k) : idxF p n = (k : Int) := by
  have := first_eq hk h hp
  rw [idxF, if_pos (by omega), this]
theorem idxF_no {p : Nat → Prop} [DecidablePred p] {n : Nat} (h : ∀ j, j < n → ¬ p j) : idxF p n = -1 := by
  have := first_no h
  rw [idxF, if_neg (by omega)]
theorem idxF_neg {p : Nat → Prop} [DecidablePred p] {n : Nat} (h : idxF p n < 0) : ∀ j, j < n → ¬ p j := by
  rcases first_cases p n with h1 | h1
  · exact h1.2
  · rw [idxF, if_pos h1.1] at h; omega
theorem idxF_nn (p : Nat → Prop) [DecidablePred p] (n : Nat) : 0 ≤ idxF p n ↔ ¬ ∀ i, i < n → ¬ p i := by
  rcases first_cases p n with h1 | h1
  · rw [idxF_no h1.2]; exact ⟨fun h => absurd h (by omega), fun h => absurd h1.2 h⟩
  · rw [idxF, if_pos h1.1]; exact ⟨fun _ h => h _ h1.1 h1.2.1, fun _ => by omega⟩
theorem idxF_first {p : Nat → Prop} [DecidablePred p] {n : Nat} (h : 0 ≤ idxF p n) : idxF p n = (first p n : Int) ∧ first p n < n := by
  rcases first_cases p n with h1 | h1
  · rw [idxF_no h1.2] at h; omega
  · rw [idxF, if_pos h1.1]; exact ⟨rfl, h1.1⟩
end Go.Proofs.T10
/- Top, clocks: the settled bounds of a chain, in plain Lean. -/
namespace Go.Proofs.T10
open Go Go.Kx

def meet (a b : Span) : Span := ⟨max a.Lo b.Lo, min a.Hi b.Hi⟩
theorem meet_lo (a b : Span) : (meet a b).Lo = max a.Lo b.Lo := rfl
theorem meet_hi (a b : Span) : (meet a b).Hi = min a.Hi b.Hi := rfl
theorem span_eq {a b : Span} (h1 : a.Lo = b.Lo) (h2 : a.Hi = b.Hi) : a = b := by cases a; cases b; simp_all
def fw (g a : Nat → Span) : Nat → Span
  | 0 => a 0
  | k + 1 => meet (a (k + 1)) ⟨(fw g a k).Lo + (g k).Lo, (fw g a k).Hi + (g k).Hi⟩
def bw (g f : Nat → Span) (n : Nat) : Nat → Span
  | 0 => f n
  | j + 1 => meet (f (n - (j + 1))) ⟨(bw g f n j).Lo - (g (n - (j + 1))).Hi, (bw g f n j).Hi - (g (n - (j + 1))).Lo⟩
def st (g a : Nat → Span) (n i : Nat) : Span := bw g (fw g a) n (n - i)

theorem fw_lo (g a : Nat → Span) (k : Nat) : (fw g a (k + 1)).Lo = max (a (k + 1)).Lo ((fw g a k).Lo + (g k).Lo) := rfl
theorem fw_hi (g a : Nat → Span) (k : Nat) : (fw g a (k + 1)).Hi = min (a (k + 1)).Hi ((fw g a k).Hi + (g k).Hi) := rfl
theorem st_last (g a : Nat → Span) (n : Nat) : st g a n n = fw g a n := by unfold st; rw [Nat.sub_self]; rfl
theorem st_lo (g a : Nat → Span) {n i : Nat} (h : i < n) : (st g a n i).Lo = max (fw g a i).Lo ((st g a n (i + 1)).Lo - (g i).Hi) := by
  unfold st
  rw [show n - i = (n - (i + 1)) + 1 by omega, bw, show n - (n - (i + 1) + 1) = i by omega]; rfl
theorem st_hi (g a : Nat → Span) {n i : Nat} (h : i < n) : (st g a n i).Hi = min (fw g a i).Hi ((st g a n (i + 1)).Hi - (g i).Lo) := by
  unfold st
  rw [show n - i = (n - (i + 1)) + 1 by omega, bw, show n - (n - (i + 1) + 1) = i by omega]; rfl
theorem fw_in (g a : Nat → Span) : ∀ k, (a k).Lo ≤ (fw g a k).Lo ∧ (fw g a k).Hi ≤ (a k).Hi
  | 0 => ⟨Int.le_refl _, Int.le_refl _⟩
  | k + 1 => by rw [fw_lo, fw_hi]; omega
theorem st_fw (g a : Nat → Span) {n i : Nat} (h : i ≤ n) : (fw g a i).Lo ≤ (st g a n i).Lo ∧ (st g a n i).Hi ≤ (fw g a i).Hi := by
  rcases Nat.lt_or_ge i n with h1 | h1
  · rw [st_lo g a h1, st_hi g a h1]; omega
  · obtain rfl : i = n := by omega
    rw [st_last]; omega
theorem st_in (g a : Nat → Span) {n i : Nat} (h : i ≤ n) : (a i).Lo ≤ (st g a n i).Lo ∧ (st g a n i).Hi ≤ (a i).Hi := by
  have h1 := fw_in g a i
  have h2 := st_fw g a h
  omega
def GapOk (g : Nat → Span) (n : Nat) : Prop := ∀ i, i < n → (g i).Lo ≤ (g i).Hi
theorem st_fix {g : Nat → Span} {n : Nat} (hg : GapOk g n) (a : Nat → Span) {i : Nat} (h : i < n) :
    ((st g a n i).Lo + (g i).Lo ≤ (st g a n (i + 1)).Lo ∧ (st g a n (i + 1)).Lo ≤ (st g a n i).Lo + (g i).Hi) ∧ ((st g a n i).Hi + (g i).Lo ≤ (st g a n (i + 1)).Hi ∧ (st g a n (i + 1)).Hi ≤ (st g a n i).Hi + (g i).Hi) := by
  have h1 := st_fw g a (n := n) (i := i + 1) (by omega)
  have h2 := hg i h
  rw [fw_lo, fw_hi] at h1
  rw [st_lo g a h, st_hi g a h]
  omega
def Rd (g a : Nat → Span) (n : Nat) (x : Nat → Int) : Prop := (∀ i, i ≤ n → (a i).Lo ≤ x i ∧ x i ≤ (a i).Hi) ∧ ∀ i, i < n → (g i).Lo ≤ x (i + 1) - x i ∧ x (i + 1) - x i ≤ (g i).Hi
theorem hi_fw {g a : Nat → Span} {n : Nat} {x : Nat → Int} (ha : ∀ i, i ≤ n → x i ≤ (a i).Hi) (hx : ∀ i, i < n → (g i).Lo ≤ x (i + 1) - x i ∧ x (i + 1) - x i ≤ (g i).Hi) : ∀ k, k ≤ n → x k ≤ (fw g a k).Hi
  | 0, h => ha 0 h
  | k + 1, h => by have h1 := hi_fw ha hx k (by omega); have h2 := ha (k + 1) h; have h3 := hx k h; rw [fw_hi]; omega
theorem hi_st {g a : Nat → Span} {n : Nat} {x : Nat → Int} (ha : ∀ i, i ≤ n → x i ≤ (a i).Hi) (hx : ∀ i, i < n → (g i).Lo ≤ x (i + 1) - x i ∧ x (i + 1) - x i ≤ (g i).Hi) {i : Nat} (hi : i ≤ n) : x i ≤ (st g a n i).Hi := by
  have key : ∀ j i, i + j = n → x i ≤ (st g a n i).Hi := by
    intro j
    induction j with
    | zero => intro i h; obtain rfl : i = n := by omega
              rw [st_last]; exact hi_fw ha hx i (Nat.le_refl _)
    | succ j ih => intro i h
                   have h1 := ih (i + 1) (by omega); have h2 := hi_fw ha hx i (by omega); have h3 := hx i (by omega)
                   rw [st_hi g a (by omega)]; omega
  exact key (n - i) i (by omega)
theorem lo_fw {g a : Nat → Span} {n : Nat} {x : Nat → Int} (ha : ∀ i, i ≤ n → (a i).Lo ≤ x i) (hx : ∀ i, i < n → (g i).Lo ≤ x (i + 1) - x i ∧ x (i + 1) - x i ≤ (g i).Hi) : ∀ k, k ≤ n → (fw g a k).Lo ≤ x k
  | 0, h => ha 0 h
  | k + 1, h => by have h1 := lo_fw ha hx k (by omega); have h2 := ha (k + 1) h; have h3 := hx k h; rw [fw_lo]; omega
theorem lo_st {g a : Nat → Span} {n : Nat} {x : Nat → Int} (ha : ∀ i, i ≤ n → (a i).Lo ≤ x i) (hx : ∀ i, i < n → (g i).Lo ≤ x (i + 1) - x i ∧ x (i + 1) - x i ≤ (g i).Hi) {i : Nat} (hi : i ≤ n) : (st g a n i).Lo ≤ x i := by
  have key : ∀ j i, i + j = n → (st g a n i).Lo ≤ x i := by
    intro j
    induction j with
    | zero => intro i h; obtain rfl : i = n := by omega
              rw [st_last]; exact lo_fw ha hx i (Nat.le_refl _)
    | succ j ih => intro i h
                   have h1 := ih (i + 1) (by omega); have h2 := lo_fw ha hx i (by omega); have h3 := hx i (by omega)
                   rw [st_lo g a (by omega)]; omega
  exact key (n - i) i (by omega)
theorem Rd.st {g a : Nat → Span} {n : Nat} {x : Nat → Int} (h : Rd g a n x) {i : Nat} (hi : i ≤ n) : (T10.st g a n i).Lo ≤ x i ∧ x i ≤ (T10.st g a n i).Hi :=
  ⟨lo_st (fun i hi => (h.1 i hi).1) h.2 hi, hi_st (fun i hi => (h.1 i hi).2) h.2 hi⟩
def okP (g a : Nat → Span) (n : Nat) : Prop := ∀ i, i < n + 1 → (st g a n i).Lo ≤ (st g a n i).Hi
instance (g a : Nat → Span) (n : Nat) : Decidable (okP g a n) := by unfold okP; exact inferInstance
theorem Rd.ok {g a : Nat → Span} {n : Nat} {x : Nat → Int} (h : Rd g a n x) : okP g a n := fun i hi => by have := h.st (i := i) (by omega); omega
theorem fw_st {g : Nat → Span} {n : Nat} (hg : GapOk g n) (a : Nat → Span) : ∀ k, k ≤ n → fw g (st g a n) k = st g a n k
  | 0, _ => rfl
  | k + 1, h => by
    have h1 := fw_st hg a k (by omega)
    have h2 := st_fix hg a (i := k) (by omega)
    refine span_eq ?_ ?_
    · rw [fw_lo, h1]; omega
    · rw [fw_hi, h1]; omega
theorem st_st {g : Nat → Span} {n : Nat} (hg : GapOk g n) (a : Nat → Span) {i : Nat} (hi : i ≤ n) : st g (st g a n) n i = st g a n i := by
  have key : ∀ j i, i + j = n → st g (st g a n) n i = st g a n i := by
    intro j
    induction j with
    | zero => intro i h; obtain rfl : i = n := by omega
              rw [st_last, fw_st hg a i (Nat.le_refl _)]
    | succ j ih =>
      intro i h
      have h1 := ih (i + 1) (by omega)
      have h2 := fw_st hg a i (by omega)
      have h3 := st_fix hg a (i := i) (by omega)
      refine span_eq ?_ ?_
      · rw [st_lo g _ (by omega), h1, h2]; omega
      · rw [st_hi g _ (by omega), h1, h2]; omega
  exact key (n - i) i (by omega)
theorem fw_congr {g h a b : Nat → Span} : ∀ {k : Nat}, (∀ i, i < k → g i = h i) → (∀ i, i ≤ k → a i = b i) → fw g a k = fw h b k
  | 0, _, hab => hab 0 (Nat.le_refl _)
  | k + 1, hgh, hab => by rw [fw, fw, fw_congr (fun i hi => hgh i (by omega)) (fun i hi => hab i (by omega)), hab (k + 1) (Nat.le_refl _), hgh k (by omega)]
theorem st_congr {g h a b : Nat → Span} {n : Nat} (hgh : ∀ i, i < n → g i = h i) (hab : ∀ i, i ≤ n → a i = b i) {i : Nat} (hi : i ≤ n) : st g a n i = st h b n i := by
  have key : ∀ j i, i + j = n → st g a n i = st h b n i := by
    intro j
    induction j with
    | zero => intro i h; obtain rfl : i = n := by omega
              rw [st_last, st_last, fw_congr hgh hab]
    | succ j ih =>
      intro i h'
      have h1 := ih (i + 1) (by omega)
      have h2 := fw_congr (k := i) (fun q hq => hgh q (by omega)) (fun q hq => hab q (by omega))
      have h3 := hgh i (by omega)
      refine span_eq ?_ ?_
      · rw [st_lo g _ (by omega), st_lo h _ (by omega), h1, h2, h3]
      · rw [st_hi g _ (by omega), st_hi h _ (by omega), h1, h2, h3]
  exact key (n - i) i (by omega)
end Go.Proofs.T10
/- Top, clocks: what the functions compute, in plain Lean. -/
namespace Go.Proofs.T10
open Go Go.Kx

def spOk (s : Span) (lo hi : Int) : Prop := (lo ≤ s.Lo ∧ s.Lo ≤ s.Hi) ∧ s.Hi ≤ hi
instance (s : Span) (lo hi : Int) : Decidable (spOk s lo hi) := by unfold spOk; exact inferInstance
def rateB (d : Drum) (i : Nat) : Prop := ¬ spOk (gt d.Rates i) 1 40
def stopB (d : Drum) (i : Nat) : Prop := ¬ ((0 ≤ (gt d.Stops i).Column ∧ (gt d.Stops i).Column ≤ (d.Rates.length : Int) - 1) ∧ spOk (gt d.Stops i).Ticks 0 400)
instance (d : Drum) : DecidablePred (rateB d) := fun i => by unfold rateB; exact inferInstance
instance (d : Drum) : DecidablePred (stopB d) := fun i => by unfold stopB; exact inferInstance
def drumP (d : Drum) : Prop := ((1 ≤ d.Rates.length ∧ d.Rates.length ≤ 199) ∧ d.Stops.length ≤ 16) ∧ (∀ i, i < d.Rates.length → ¬ rateB d i) ∧ ∀ i, i < d.Stops.length → ¬ stopB d i
instance (d : Drum) : Decidable (drumP d) := by unfold drumP; exact inferInstance
def drumE (d : Drum) : Int := if drumP d then 0 else 20
theorem drumE_ok {d : Drum} (h : drumP d) : drumE d = 0 := if_pos h
theorem drumE_bad {d : Drum} (h : ¬ drumP d) : drumE d = 20 := if_neg h
theorem drumP_of {d : Drum} (h : drumE d = 0) : drumP d := by unfold drumE at h; split at h; assumption; cases h
def markB (d : Drum) (m : List Mark) (i : Nat) : Prop := ¬ ((0 ≤ (gt m i).Column ∧ (gt m i).Column ≤ (d.Rates.length : Int)) ∧ spOk (gt m i).Ticks 0 400)
instance (d : Drum) (m : List Mark) : DecidablePred (markB d m) := fun i => by unfold markB; exact inferInstance
def marksR (d : Drum) (m : List Mark) : Int × Int :=
  if drumE d ≠ 0 then (20, 0) else if 64 < m.length then (2, 0) else if first (markB d m) m.length < m.length then (21, first (markB d m) m.length) else (0, 0)
def chkE (d : Drum) (m : List Mark) : Int := if (marksR d m).1 = 2 then 21 else (marksR d m).1
theorem marksR_drum {d : Drum} {m : List Mark} (h : drumE d ≠ 0) : marksR d m = (20, 0) := by rw [marksR, if_pos h]
theorem marksR_big {d : Drum} {m : List Mark} (h : drumE d = 0) (h1 : 64 < m.length) : marksR d m = (2, 0) := by rw [marksR, if_neg (by omega), if_pos h1]
theorem marksR_ok {d : Drum} {m : List Mark} (h : drumE d = 0) (h1 : ¬ 64 < m.length) (ha : ∀ j, j < m.length → ¬ markB d m j) : marksR d m = (0, 0) := by
  have := first_no ha
  rw [marksR, if_neg (by omega), if_neg h1, if_neg (by omega)]
theorem marksR_idx {d : Drum} {m : List Mark} (h : drumE d = 0) (h1 : ¬ 64 < m.length) (h2 : 0 ≤ idxF (markB d m) m.length) : marksR d m = (21, idxF (markB d m) m.length) := by
  have h3 := idxF_first h2
  rw [marksR, if_neg (by omega), if_neg h1, if_pos h3.2, h3.1]
structure Ok (d : Drum) (m : List Mark) : Prop where
  dr : drumP d
  n : m.length ≤ 64
  ma : ∀ j, j < m.length → ¬ markB d m j
theorem marks_zero {d : Drum} {m : List Mark} (h : (marksR d m).1 = 0) : Ok d m := by
  unfold marksR at h
  split at h
  · cases h
  · rename_i h0
    split at h
    · cases h
    · rename_i h1
      split at h
      · cases h
      · rename_i h2
        refine ⟨drumP_of (by omega), by omega, ?_⟩
        rcases first_cases (markB d m) m.length with h3 | h3
        · exact h3.2
        · exact absurd h3.1 h2
theorem Ok.of {d : Drum} {m : List Mark} (h : chkE d m = 0) : Ok d m := by
  unfold chkE at h; split at h
  · cases h
  · exact marks_zero h
theorem Ok.marks {d : Drum} {m : List Mark} (h : Ok d m) : marksR d m = (0, 0) := marksR_ok (drumE_ok h.dr) (by have := h.n; omega) h.ma
theorem Ok.e {d : Drum} {m : List Mark} (h : Ok d m) : chkE d m = 0 := by unfold chkE; rw [h.marks]; rfl
theorem Ok.col {d : Drum} {m : List Mark} (h : Ok d m) {j : Nat} (hj : j < m.length) : (0 ≤ (gt m j).Column ∧ (gt m j).Column ≤ (d.Rates.length : Int)) ∧ spOk (gt m j).Ticks 0 400 := Decidable.of_not_not (h.ma j hj)
theorem rate_ok {d : Drum} (h : drumP d) {i : Nat} (hi : i < d.Rates.length) : spOk (gt d.Rates i) 1 40 := Decidable.of_not_not (h.2.1 i hi)
theorem stop_ok {d : Drum} (h : drumP d) {i : Nat} (hi : i < d.Stops.length) : (0 ≤ (gt d.Stops i).Column ∧ (gt d.Stops i).Column ≤ (d.Rates.length : Int) - 1) ∧ spOk (gt d.Stops i).Ticks 0 400 := Decidable.of_not_not (h.2.2 i hi)

/-! ### gaps -/
def gapN (d : Drum) (c : Nat) : Nat → Span
  | 0 => gt d.Rates c
  | n + 1 => if (gt d.Stops n).Column = (c : Int) then ⟨(gapN d c n).Lo + (gt d.Stops n).Ticks.Lo, (gapN d c n).Hi + (gt d.Stops n).Ticks.Hi⟩ else gapN d c n
def gapS (d : Drum) (c : Nat) : Span := gapN d c d.Stops.length
def gapL (d : Drum) : List Span := (List.range d.Rates.length).map (gapS d)
theorem gapN_bd {d : Drum} (h : drumP d) {c : Nat} (hc : c < d.Rates.length) : ∀ n : Nat, n ≤ d.Stops.length → (1 ≤ (gapN d c n).Lo ∧ (gapN d c n).Lo ≤ (gapN d c n).Hi) ∧ (gapN d c n).Hi ≤ 40 + 400 * (n : Int)
  | 0, _ => by have := rate_ok h hc; unfold spOk at this; simp only [gapN]; omega
  | n + 1, hn => by
    have h1 := gapN_bd h hc n (by omega); have h2 := (stop_ok h (i := n) (by omega)).2; unfold spOk at h2
    rw [gapN]; split
    · (try dsimp only); omega
    · omega
theorem gapS_bd {d : Drum} (h : drumP d) {c : Nat} (hc : c < d.Rates.length) : (1 ≤ (gapS d c).Lo ∧ (gapS d c).Lo ≤ (gapS d c).Hi) ∧ (gapS d c).Hi ≤ 6440 := by
  have h1 := gapN_bd h hc d.Stops.length (Nat.le_refl _); have h2 := h.1.2; unfold gapS; omega
theorem gapL_len (d : Drum) : (gapL d).length = d.Rates.length := map_len _ _
theorem gapL_at {d : Drum} {i : Nat} (h : i < d.Rates.length) : gt (gapL d) i = gapS d i := gt_map h
theorem gap_step {d : Drum} (h : drumP d) {n : Nat} (hn : n < d.Stops.length) :
    ((List.range d.Rates.length).map (fun c => gapN d c n)).set (gt d.Stops n).Column.toNat ⟨(gapN d (gt d.Stops n).Column.toNat n).Lo + (gt d.Stops n).Ticks.Lo, (gapN d (gt d.Stops n).Column.toNat n).Hi + (gt d.Stops n).Ticks.Hi⟩
      = (List.range d.Rates.length).map (fun c => gapN d c (n + 1)) := by
  have h1 := (stop_ok h hn).1
  refine eq_map (by simp) fun i hi => ?_
  rw [gt_set _ _ (by simpa using hi), gt_map hi, gapN]
  by_cases hc : (gt d.Stops n).Column = (i : Int)
  · rw [if_pos (by omega), if_pos hc, show (gt d.Stops n).Column.toNat = i by omega]
  · rw [if_neg (by omega), if_neg hc]

/-! ### what each column may be -/
def atN (m : List Mark) : Nat → Nat → Span
  | 0, _ => ⟨0, 400⟩
  | n + 1, c => if (gt m n).Column = (c : Int) then meet (atN m n c) (gt m n).Ticks else atN m n c
def atS (m : List Mark) (c : Nat) : Span := atN m m.length c
def atL (d : Drum) (m : List Mark) : List Span := (List.range (d.Rates.length + 1)).map (atS m)
theorem atL_len (d : Drum) (m : List Mark) : (atL d m).length = d.Rates.length + 1 := map_len _ _
theorem atL_at {d : Drum} {m : List Mark} {i : Nat} (h : i ≤ d.Rates.length) : gt (atL d m) i = atS m i := gt_map (by omega)
theorem atN_bd {d : Drum} {m : List Mark} (h : ∀ j, j < m.length → ¬ markB d m j) (c : Nat) : ∀ n, n ≤ m.length → (0 ≤ (atN m n c).Lo ∧ (atN m n c).Lo ≤ 400) ∧ 0 ≤ (atN m n c).Hi ∧ (atN m n c).Hi ≤ 400
  | 0, _ => by simp only [atN]; omega
  | n + 1, hn => by
    have h1 := atN_bd h c n (by omega)
    have h2 : spOk (gt m n).Ticks 0 400 := (Decidable.of_not_not (h n (by omega))).2
    unfold spOk at h2
    rw [atN]; split
    · rw [meet_lo, meet_hi]; omega
    · exact h1
theorem atS_bd {d : Drum} {m : List Mark} (h : Ok d m) (c : Nat) : (0 ≤ (atS m c).Lo ∧ (atS m c).Lo ≤ 400) ∧ 0 ≤ (atS m c).Hi ∧ (atS m c).Hi ≤ 400 := atN_bd h.ma c _ (Nat.le_refl _)
theorem at_step {d : Drum} {m : List Mark} (h : ∀ j, j < m.length → ¬ markB d m j) {n : Nat} (hn : n < m.length) :
    ((List.range (d.Rates.length + 1)).map (fun c => atN m n c)).set (gt m n).Column.toNat (meet (atN m n (gt m n).Column.toNat) (gt m n).Ticks) = (List.range (d.Rates.length + 1)).map (fun c => atN m (n + 1) c) := by
  have h1 : (0 ≤ (gt m n).Column ∧ (gt m n).Column ≤ (d.Rates.length : Int)) ∧ spOk (gt m n).Ticks 0 400 := Decidable.of_not_not (h n hn)
  refine eq_map (by simp) fun i hi => ?_
  rw [gt_set _ _ (by simpa using hi), gt_map hi, atN]
  by_cases hc : (gt m n).Column = (i : Int)
  · rw [if_pos (by omega), if_pos hc, show (gt m n).Column.toNat = i by omega]
  · rw [if_neg (by omega), if_neg hc]

/-! ### readings -/
abbrev RdD (d : Drum) (m : List Mark) (x : Nat → Int) : Prop := Rd (gapS d) (atS m) d.Rates.length x
def okD (d : Drum) (m : List Mark) : Prop := okP (gapS d) (atS m) d.Rates.length
instance (d : Drum) (m : List Mark) : Decidable (okD d m) := by unfold okD; exact inferInstance
def stD (d : Drum) (m : List Mark) (i : Nat) : Span := st (gapS d) (atS m) d.Rates.length i
def keepP (d : Drum) (m : List Mark) (l : List Int) : Prop := l.length = d.Rates.length + 1 ∧ (∀ i, i < d.Rates.length + 1 → (atS m i).Lo ≤ gt l i ∧ gt l i ≤ (atS m i).Hi) ∧ ∀ i, i < d.Rates.length → (gapS d i).Lo ≤ gt l (i + 1) - gt l i ∧ gt l (i + 1) - gt l i ≤ (gapS d i).Hi
instance (d : Drum) (m : List Mark) (l : List Int) : Decidable (keepP d m l) := by unfold keepP; exact inferInstance
def keepE (d : Drum) (m : List Mark) (l : List Int) : Int := if chkE d m ≠ 0 then chkE d m else if keepP d m l then 0 else 22
def feasR (d : Drum) (m : List Mark) : Bool × Int := if chkE d m ≠ 0 then (false, chkE d m) else (decide (okD d m), 0)
def colB (d : Drum) (c : List Int) (i : Nat) : Prop := ¬ (0 ≤ gt c i ∧ gt c i ≤ (d.Rates.length : Int))
instance (d : Drum) (c : List Int) : DecidablePred (colB d c) := fun i => by unfold colB; exact inferInstance
def tickB (c : List Int) (i : Nat) : Prop := ¬ (0 ≤ gt c i ∧ gt c i ≤ 400)
instance (c : List Int) : DecidablePred (tickB c) := fun i => by unfold tickB; exact inferInstance
def argP (d : Drum) (cs ts : List Int) : Prop := (∀ i, i < cs.length → ¬ colB d cs i) ∧ ∀ i, i < ts.length → ¬ tickB ts i
instance (d : Drum) (cs ts : List Int) : Decidable (argP d cs ts) := by unfold argP; exact inferInstance
def openE (d : Drum) (m : List Mark) (cs ts : List Int) : Int := if chkE d m ≠ 0 then chkE d m else if ¬ argP d cs ts then 1 else if okD d m then 0 else 22
def setD (d : Drum) (m : List Mark) : List Span := (List.range (d.Rates.length + 1)).map (stD d m)
def openC (d : Drum) (m : List Mark) (cs ts : List Int) : Clk := if openE d m cs ts = 0 then ⟨gapL d, setD d m⟩ else ⟨[], []⟩
theorem openE_zero {d : Drum} {m : List Mark} {cs ts : List Int} (h : openE d m cs ts = 0) : Ok d m ∧ argP d cs ts ∧ okD d m := by
  unfold openE at h; split at h
  · omega
  · rename_i h0
    split at h
    · cases h
    · rename_i h1
      split at h
      · rename_i h2; exact ⟨Ok.of (by omega), Decidable.of_not_not h1, h2⟩
      · cases h
theorem openE_bad {d : Drum} {m : List Mark} {cs ts : List Int} (h : chkE d m ≠ 0) : openE d m cs ts = chkE d m := by rw [openE, if_pos h]
theorem openE_arg {d : Drum} {m : List Mark} {cs ts : List Int} (h : chkE d m = 0) (h1 : ¬ argP d cs ts) : openE d m cs ts = 1 := by rw [openE, if_neg (by omega), if_pos h1]
theorem openE_time {d : Drum} {m : List Mark} {cs ts : List Int} (h : chkE d m = 0) (h1 : argP d cs ts) (h2 : ¬ okD d m) : openE d m cs ts = 22 := by rw [openE, if_neg (by omega), if_neg (by simpa using h1), if_neg h2]
theorem openE_ok {d : Drum} {m : List Mark} {cs ts : List Int} (h : chkE d m = 0) (h1 : argP d cs ts) (h2 : okD d m) : openE d m cs ts = 0 := by rw [openE, if_neg (by omega), if_neg (by simpa using h1), if_pos h2]

/-! ### a clock by itself -/
structure CkW (c : Clk) : Prop where
  l : c.at_.length = c.gaps.length + 1
  n : c.gaps.length ≤ 199
  g : ∀ i, i < c.gaps.length → (1 ≤ (gt c.gaps i).Lo ∧ (gt c.gaps i).Lo ≤ (gt c.gaps i).Hi) ∧ (gt c.gaps i).Hi ≤ 6440
  a : ∀ i, i < c.at_.length → (0 ≤ (gt c.at_ i).Lo ∧ (gt c.at_ i).Lo ≤ 400) ∧ 0 ≤ (gt c.at_ i).Hi ∧ (gt c.at_ i).Hi ≤ 400
def setL (c : Clk) : List Span := (List.range (c.gaps.length + 1)).map (st (gt c.gaps) (gt c.at_) c.gaps.length)
def okC (c : Clk) : Prop := okP (gt c.gaps) (gt c.at_) c.gaps.length
instance (c : Clk) : Decidable (okC c) := by unfold okC; exact inferInstance
theorem CkW.of {d : Drum} {m : List Mark} (h : Ok d m) : CkW ⟨gapL d, atL d m⟩ := by
  refine ⟨by rw [gapL_len, atL_len], by rw [gapL_len]; exact h.dr.1.1.2, fun i hi => ?_, fun i hi => ?_⟩
  · rw [gapL_len] at hi; rw [gapL_at hi]; exact gapS_bd h.dr hi
  · rw [atL_len] at hi; rw [atL_at (by omega)]; exact atS_bd h i
theorem st_clock (d : Drum) (m : List Mark) {i : Nat} (hi : i ≤ d.Rates.length) : st (gt (gapL d)) (gt (atL d m)) d.Rates.length i = stD d m i :=
  st_congr (fun _ h => gapL_at h) (fun _ h => atL_at h) hi
theorem setL_clock (d : Drum) (m : List Mark) : setL ⟨gapL d, atL d m⟩ = setD d m := by
  unfold setL; (try dsimp only); rw [gapL_len]; exact map_congr fun i hi => st_clock d m (by omega)
theorem okC_clock (d : Drum) (m : List Mark) : okC ⟨gapL d, atL d m⟩ ↔ okD d m := by
  unfold okC okD okP; (try dsimp only); rw [gapL_len]
  exact ⟨fun h i hi => by have := h i hi; rw [st_clock d m (by omega)] at this; exact this, fun h i hi => by rw [st_clock d m (by omega)]; exact h i hi⟩
theorem setL_len (c : Clk) : (setL c).length = c.gaps.length + 1 := map_len _ _
theorem setL_at {c : Clk} {i : Nat} (h : i ≤ c.gaps.length) : gt (setL c) i = st (gt c.gaps) (gt c.at_) c.gaps.length i := gt_map (by omega)
theorem setD_len (d : Drum) (m : List Mark) : (setD d m).length = d.Rates.length + 1 := map_len _ _
theorem setD_at {d : Drum} {m : List Mark} {i : Nat} (h : i ≤ d.Rates.length) : gt (setD d m) i = stD d m i := gt_map (by omega)
def mosA (B : Nat → Span) (f i : Nat) : Span := ⟨0, if i = f then min ((B i).Hi - (B f).Lo) 0 else (B i).Hi - (B f).Lo⟩
def mos (g B : Nat → Span) (n f i : Nat) : Int := (st g (mosA B f) n i).Hi
def mostL (c : Clk) (f : Nat) : List Int := (List.range (c.gaps.length + 1)).map (mos (gt c.gaps) (gt c.at_) c.gaps.length f)
def betS (c : Clk) (a b : Nat) : Span := ⟨- mos (gt c.gaps) (gt c.at_) c.gaps.length b a, mos (gt c.gaps) (gt c.at_) c.gaps.length a b⟩
def narL (c : Clk) (k : Nat) (s : Span) : List Span := c.at_.set k (meet (gt c.at_ k) s)
def withC (c : Clk) (k : Nat) (t : Int) : Clk := ⟨c.gaps, narL c k ⟨t, t⟩⟩
end Go.Proofs.T10
