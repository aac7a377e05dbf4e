import Derived.Test.YtmnipmbgdbdjeaaC2Gen
/- Clocks: the settled bounds of a chain, in plain Lean. -/
namespace Go.Proofs.C2
open Go Go.Kx

def meet (a b : Span) : Span := ⟨max a.Lo b.Lo, min a.Hi b.Hi⟩
theorem meet_lo (a b : Span) : (meet a b).Lo = max a.Lo b.Lo := rfl
theorem meet_hi (a b : Span) : (meet a b).Hi = min a.Hi b.Hi := rfl
theorem span_eq {a b : Span} (h1 : a.Lo = b.Lo) (h2 : a.Hi = b.Hi) : a = b := by cases a; cases b; simp_all
/-- forward -/
def fw (g a : Nat → Span) : Nat → Span
  | 0 => a 0
  | k + 1 => meet (a (k + 1)) ⟨(fw g a k).Lo + (g k).Lo, (fw g a k).Hi + (g k).Hi⟩
/-- backward, from the column n on; so many steps -/
def bw (g f : Nat → Span) (n : Nat) : Nat → Span
  | 0 => f n
  | j + 1 => meet (f (n - (j + 1))) ⟨(bw g f n j).Lo - (g (n - (j + 1))).Hi, (bw g f n j).Hi - (g (n - (j + 1))).Lo⟩
/-- the settled bounds of the columns 0 to n -/
def st (g a : Nat → Span) (n i : Nat) : Span := bw g (fw g a) n (n - i)

theorem fw_lo (g a : Nat → Span) (k : Nat) : (fw g a (k + 1)).Lo = max (a (k + 1)).Lo ((fw g a k).Lo + (g k).Lo) := rfl
theorem fw_hi (g a : Nat → Span) (k : Nat) : (fw g a (k + 1)).Hi = min (a (k + 1)).Hi ((fw g a k).Hi + (g k).Hi) := rfl
theorem st_last (g a : Nat → Span) (n : Nat) : st g a n n = fw g a n := by unfold st; rw [Nat.sub_self]; rfl
theorem st_lo (g a : Nat → Span) {n i : Nat} (h : i < n) : (st g a n i).Lo = max (fw g a i).Lo ((st g a n (i + 1)).Lo - (g i).Hi) := by
  unfold st
  rw [show n - i = (n - (i + 1)) + 1 by omega, bw, show n - (n - (i + 1) + 1) = i by omega]; rfl
theorem st_hi (g a : Nat → Span) {n i : Nat} (h : i < n) : (st g a n i).Hi = min (fw g a i).Hi ((st g a n (i + 1)).Hi - (g i).Lo) := by
  unfold st
  rw [show n - i = (n - (i + 1)) + 1 by omega, bw, show n - (n - (i + 1) + 1) = i by omega]; rfl
theorem fw_in (g a : Nat → Span) : ∀ k, (a k).Lo ≤ (fw g a k).Lo ∧ (fw g a k).Hi ≤ (a k).Hi
  | 0 => ⟨Int.le_refl _, Int.le_refl _⟩
  | k + 1 => by rw [fw_lo, fw_hi]; omega
theorem st_fw (g a : Nat → Span) {n i : Nat} (h : i ≤ n) : (fw g a i).Lo ≤ (st g a n i).Lo ∧ (st g a n i).Hi ≤ (fw g a i).Hi := by
  rcases Nat.lt_or_ge i n with h1 | h1
  · rw [st_lo g a h1, st_hi g a h1]; omega
  · obtain rfl : i = n := by omega
    rw [st_last]; omega
theorem st_in (g a : Nat → Span) {n i : Nat} (h : i ≤ n) : (a i).Lo ≤ (st g a n i).Lo ∧ (st g a n i).Hi ≤ (a i).Hi := by
  have h1 := fw_in g a i
  have h2 := st_fw g a h
  omega
def GapOk (g : Nat → Span) (n : Nat) : Prop := ∀ i, i < n → (g i).Lo ≤ (g i).Hi
/-- the settled bounds keep every gap -/
theorem st_fix {g : Nat → Span} {n : Nat} (hg : GapOk g n) (a : Nat → Span) {i : Nat} (h : i < n) :
    ((st g a n i).Lo + (g i).Lo ≤ (st g a n (i + 1)).Lo ∧ (st g a n (i + 1)).Lo ≤ (st g a n i).Lo + (g i).Hi) ∧ ((st g a n i).Hi + (g i).Lo ≤ (st g a n (i + 1)).Hi ∧ (st g a n (i + 1)).Hi ≤ (st g a n i).Hi + (g i).Hi) := by
  have h1 := st_fw g a (n := n) (i := i + 1) (by omega)
  have h2 := hg i h
  rw [fw_lo, fw_hi] at h1
  rw [st_lo g a h, st_hi g a h]
  omega
/-- a reading: numbers within bounds, and within the gaps -/
def Rd (g a : Nat → Span) (n : Nat) (x : Nat → Int) : Prop := (∀ i, i ≤ n → (a i).Lo ≤ x i ∧ x i ≤ (a i).Hi) ∧ ∀ i, i < n → (g i).Lo ≤ x (i + 1) - x i ∧ x (i + 1) - x i ≤ (g i).Hi
theorem hi_fw {g a : Nat → Span} {n : Nat} {x : Nat → Int} (ha : ∀ i, i ≤ n → x i ≤ (a i).Hi) (hx : ∀ i, i < n → (g i).Lo ≤ x (i + 1) - x i ∧ x (i + 1) - x i ≤ (g i).Hi) : ∀ k, k ≤ n → x k ≤ (fw g a k).Hi
  | 0, h => ha 0 h
  | k + 1, h => by have h1 := hi_fw ha hx k (by omega); have h2 := ha (k + 1) h; have h3 := hx k h; rw [fw_hi]; omega
theorem hi_st {g a : Nat → Span} {n : Nat} {x : Nat → Int} (ha : ∀ i, i ≤ n → x i ≤ (a i).Hi) (hx : ∀ i, i < n → (g i).Lo ≤ x (i + 1) - x i ∧ x (i + 1) - x i ≤ (g i).Hi) {i : Nat} (hi : i ≤ n) : x i ≤ (st g a n i).Hi := by
  have key : ∀ j i, i + j = n → x i ≤ (st g a n i).Hi := by
    intro j
    induction j with
    | zero => intro i h; obtain rfl : i = n := by omega
              rw [st_last]; exact hi_fw ha hx i (Nat.le_refl _)
    | succ j ih => intro i h
                   have h1 := ih (i + 1) (by omega); have h2 := hi_fw ha hx i (by omega); have h3 := hx i (by omega)
                   rw [st_hi g a (by omega)]; omega
  exact key (n - i) i (by omega)
theorem lo_fw {g a : Nat → Span} {n : Nat} {x : Nat → Int} (ha : ∀ i, i ≤ n → (a i).Lo ≤ x i) (hx : ∀ i, i < n → (g i).Lo ≤ x (i + 1) - x i ∧ x (i + 1) - x i ≤ (g i).Hi) : ∀ k, k ≤ n → (fw g a k).Lo ≤ x k
  | 0, h => ha 0 h
  | k + 1, h => by have h1 := lo_fw ha hx k (by omega); have h2 := ha (k + 1) h; have h3 := hx k h; rw [fw_lo]; omega
theorem lo_st {g a : Nat → Span} {n : Nat} {x : Nat → Int} (ha : ∀ i, i ≤ n → (a i).Lo ≤ x i) (hx : ∀ i, i < n → (g i).Lo ≤ x (i + 1) - x i ∧ x (i + 1) - x i ≤ (g i).Hi) {i : Nat} (hi : i ≤ n) : (st g a n i).Lo ≤ x i := by
  have key : ∀ j i, i + j = n → (st g a n i).Lo ≤ x i := by
    intro j
    induction j with
    | zero => intro i h; obtain rfl : i = n := by omega
              rw [st_last]; exact lo_fw ha hx i (Nat.le_refl _)
    | succ j ih => intro i h
                   have h1 := ih (i + 1) (by omega); have h2 := lo_fw ha hx i (by omega); have h3 := hx i (by omega)
                   rw [st_lo g a (by omega)]; omega
  exact key (n - i) i (by omega)
theorem Rd.st {g a : Nat → Span} {n : Nat} {x : Nat → Int} (h : Rd g a n x) {i : Nat} (hi : i ≤ n) : (C2.st g a n i).Lo ≤ x i ∧ x i ≤ (C2.st g a n i).Hi :=
  ⟨lo_st (fun i hi => (h.1 i hi).1) h.2 hi, hi_st (fun i hi => (h.1 i hi).2) h.2 hi⟩
/-- there is a reading -/
def okP (g a : Nat → Span) (n : Nat) : Prop := ∀ i, i < n + 1 → (st g a n i).Lo ≤ (st g a n i).Hi
instance (g a : Nat → Span) (n : Nat) : Decidable (okP g a n) := by unfold okP; exact inferInstance
theorem lo_rd {g a : Nat → Span} {n : Nat} (hg : GapOk g n) (h : okP g a n) : Rd g a n (fun i => (st g a n i).Lo) :=
  ⟨fun i hi => by have h1 := h i (by omega); have h2 := st_in g a hi; (try dsimp only); omega, fun i hi => by have := st_fix hg a hi; (try dsimp only); omega⟩
theorem hi_rd {g a : Nat → Span} {n : Nat} (hg : GapOk g n) (h : okP g a n) : Rd g a n (fun i => (st g a n i).Hi) :=
  ⟨fun i hi => by have h1 := h i (by omega); have h2 := st_in g a hi; (try dsimp only); omega, fun i hi => by have := st_fix hg a hi; (try dsimp only); omega⟩
theorem Rd.ok {g a : Nat → Span} {n : Nat} {x : Nat → Int} (h : Rd g a n x) : okP g a n := fun i hi => by have := h.st (i := i) (by omega); omega
/-- settled bounds are settled -/
theorem fw_st {g : Nat → Span} {n : Nat} (hg : GapOk g n) (a : Nat → Span) : ∀ k, k ≤ n → fw g (st g a n) k = st g a n k
  | 0, _ => rfl
  | k + 1, h => by
    have h1 := fw_st hg a k (by omega)
    have h2 := st_fix hg a (i := k) (by omega)
    refine span_eq ?_ ?_
    · rw [fw_lo, h1]; omega
    · rw [fw_hi, h1]; omega
theorem st_st {g : Nat → Span} {n : Nat} (hg : GapOk g n) (a : Nat → Span) {i : Nat} (hi : i ≤ n) : st g (st g a n) n i = st g a n i := by
  have key : ∀ j i, i + j = n → st g (st g a n) n i = st g a n i := by
    intro j
    induction j with
    | zero => intro i h; obtain rfl : i = n := by omega
              rw [st_last, fw_st hg a i (Nat.le_refl _)]
    | succ j ih =>
      intro i h
      have h1 := ih (i + 1) (by omega)
      have h2 := fw_st hg a i (by omega)
      have h3 := st_fix hg a (i := i) (by omega)
      refine span_eq ?_ ?_
      · rw [st_lo g _ (by omega), h1, h2]; omega
      · rw [st_hi g _ (by omega), h1, h2]; omega
  exact key (n - i) i (by omega)
/-- only the bounds of the columns 0 to n count -/
theorem fw_congr {g h a b : Nat → Span} : ∀ {k : Nat}, (∀ i, i < k → g i = h i) → (∀ i, i ≤ k → a i = b i) → fw g a k = fw h b k
  | 0, _, hab => hab 0 (Nat.le_refl _)
  | k + 1, hgh, hab => by rw [fw, fw, fw_congr (fun i hi => hgh i (by omega)) (fun i hi => hab i (by omega)), hab (k + 1) (Nat.le_refl _), hgh k (by omega)]
theorem st_congr {g h a b : Nat → Span} {n : Nat} (hgh : ∀ i, i < n → g i = h i) (hab : ∀ i, i ≤ n → a i = b i) {i : Nat} (hi : i ≤ n) : st g a n i = st h b n i := by
  have key : ∀ j i, i + j = n → st g a n i = st h b n i := by
    intro j
    induction j with
    | zero => intro i h; obtain rfl : i = n := by omega
              rw [st_last, st_last, fw_congr hgh hab]
    | succ j ih =>
      intro i h'
      have h1 := ih (i + 1) (by omega)
      have h2 := fw_congr (k := i) (fun q hq => hgh q (by omega)) (fun q hq => hab q (by omega))
      have h3 := hgh i (by omega)
      refine span_eq ?_ ?_
      · rw [st_lo g _ (by omega), st_lo h _ (by omega), h1, h2, h3]
      · rw [st_hi g _ (by omega), st_hi h _ (by omega), h1, h2, h3]
  exact key (n - i) i (by omega)
end Go.Proofs.C2
