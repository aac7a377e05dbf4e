import Derived.Test.YtooomcigmleneaaGreatT10Pen
import Derived.Test.YtooomcigmleneaaGreatT10Data
/- Top: sorting within a segment, by a key; in plain Lean. -/
namespace Go.Proofs.T10
open Go Go.Kx

section
variable {α : Type} [Inhabited α]
structure Seg (L R : List α) (a b : Nat) : Prop where
  len : R.length = L.length
  perm : R.Perm L
  out : ∀ q, q < L.length → (q < a ∨ b ≤ q) → gt R q = gt L q
  all : ∀ P : α → Prop, (∀ q, a ≤ q → q < b → P (gt L q)) → ∀ q, a ≤ q → q < b → P (gt R q)
theorem Seg.refl (L : List α) (a b : Nat) : Seg L L a b := ⟨rfl, .refl _, fun _ _ _ => rfl, fun _ h => h⟩
theorem Seg.trans {L R Q : List α} {a b : Nat} (h : Seg L R a b) (h' : Seg R Q a b) : Seg L Q a b :=
  ⟨h'.len.trans h.len, h'.perm.trans h.perm, fun q hq ho => (h'.out q (by rw [h.len]; exact hq) ho).trans (h.out q hq ho), fun P hP => h'.all P (h.all P hP)⟩
theorem Seg.sw {L : List α} {a b i j : Nat} (hi : a ≤ i ∧ i < b) (hj : a ≤ j ∧ j < b) (hb : b ≤ L.length) : Seg L (sw L i j) a b := by
  refine ⟨sw_len _ _ _, sw_perm (by omega) (by omega), fun q hq ho => ?_, fun P hP q h1 h2 => ?_⟩
  · rw [sw_at hq, if_neg (by omega), if_neg (by omega)]
  · rw [sw_at (by omega)]
    split
    · exact hP i hi.1 hi.2
    · split
      · exact hP j hj.1 hj.2
      · exact hP q h1 h2
theorem Seg.tsw {L R : List α} {a b i j : Nat} (h : Seg L R a b) (hi : a ≤ i ∧ i < b) (hj : a ≤ j ∧ j < b) (hb : b ≤ L.length) : Seg L (T10.sw R i j) a b := h.trans (.sw hi hj (by rw [h.len]; exact hb))
theorem Seg.wide {L R : List α} {a b a' b' : Nat} (h : Seg L R a b) (ha : a' ≤ a) (hb : b ≤ b') (hl : b' ≤ L.length) : Seg L R a' b' := by
  refine ⟨h.len, h.perm, fun q hq ho => h.out q hq (by omega), fun P hP q h1 h2 => ?_⟩
  by_cases hq : a ≤ q ∧ q < b
  · exact h.all P (fun r h3 h4 => hP r (by omega) (by omega)) q hq.1 hq.2
  · rw [h.out q (by omega) (by omega)]; exact hP q h1 h2
theorem Seg.tw {L R Q : List α} {a b x y : Nat} (h : Seg L R a b) (h' : Seg R Q x y) (ha : a ≤ x) (hb : y ≤ b) (hl : b ≤ L.length) : Seg L Q a b := h.trans (h'.wide ha hb (by rw [h.len]; exact hl))
variable (key : α → Int)
def Lb (R : List α) (a b : Nat) : Prop := 0 < a → ∀ q, a ≤ q → q < b → key (gt R (a - 1)) ≤ key (gt R q)
def Out (R : List α) (a b x y : Nat) : Prop := ∀ p q, a ≤ p → p < q → q < b → (p < x ∨ y ≤ q) → key (gt R p) ≤ key (gt R q)
variable {key}
theorem Srt.le {R : List α} {a b : Nat} (h : Srt key R a b) {p q : Nat} (h1 : a ≤ p) (h2 : p ≤ q) (h3 : q < b) : key (gt R p) ≤ key (gt R q) := by
  rcases Nat.lt_or_eq_of_le h2 with h4 | h4
  · exact h p q h1 h4 h3
  · subst h4; exact Int.le_refl _
theorem Lb.zero (R : List α) (b : Nat) : Lb key R 0 b := fun h => absurd h (Nat.lt_irrefl _)
theorem Lb.seg {L R : List α} {a b : Nat} (h : Lb key L a b) (hs : Seg L R a b) (hl : a ≤ L.length) : Lb key R a b := fun h0 => by
  rw [hs.out (a - 1) (by omega) (by omega)]
  exact hs.all (fun x => key (gt L (a - 1)) ≤ key x) (h h0)
theorem Out.start (R : List α) (a b : Nat) : Out key R a b a b := fun p q h1 h2 h3 h4 => by omega
theorem Out.seg {R Q : List α} {a b x y : Nat} (h : Out key R a b x y) (hs : Seg R Q x y) (hxy : a ≤ x ∧ x ≤ y ∧ y ≤ b ∧ b ≤ R.length) : Out key Q a b x y := fun p q h1 h2 h3 h4 => by
  by_cases hp : x ≤ p ∧ p < y
  · by_cases hq : x ≤ q ∧ q < y
    · omega
    · rw [hs.out q (by omega) (by omega)]
      exact hs.all (fun e => key e ≤ key (gt R q)) (fun r h5 h6 => h r q (by omega) (by omega) h3 (by omega)) p hp.1 hp.2
  · rw [hs.out p (by omega) (by omega)]
    by_cases hq : x ≤ q ∧ q < y
    · exact hs.all (fun e => key (gt R p) ≤ key e) (fun r h5 h6 => h p r h1 (by omega) (by omega) (by omega)) q hq.1 hq.2
    · rw [hs.out q (by omega) (by omega)]; exact h p q h1 h2 h3 h4
theorem Out.done {R : List α} {a b x y : Nat} (h : Out key R a b x y) (hs : Srt key R x y) : Srt key R a b := fun p q h1 h2 h3 => by
  by_cases h4 : p < x ∨ y ≤ q
  · exact h p q h1 h2 h3 h4
  · exact hs p q (by omega) h2 (by omega)
theorem Out.lb {L R : List α} {a b x y : Nat} (h : Out key R a b x y) (hL : Lb key L a b) (hs : Seg L R a b) (hxy : a ≤ x ∧ x ≤ y ∧ y ≤ b ∧ b ≤ L.length) : Lb key R x y := fun h0 q h1 h2 => by
  by_cases hx : a = x
  · subst hx; exact hL.seg hs (by omega) h0 q h1 (by omega)
  · exact h (x - 1) q (by omega) (by omega) (by omega) (by omega)
theorem Lb.sub {R : List α} {a b c : Nat} (h : Lb key R a b) (hc : c ≤ b) : Lb key R a c := fun h0 q h1 h2 => h h0 q h1 (by omega)
/-! ### insertion -/
structure InsS (key : α → Int) (L R : List α) (a b i j : Nat) : Prop where
  seg : Seg L R a b
  bd : a ≤ j ∧ j ≤ i ∧ i < b
  srt : ∀ p q, a ≤ p → p < q → q ≤ i → p ≠ j → q ≠ j → key (gt R p) ≤ key (gt R q)
  at' : ∀ q, j < q → q ≤ i → key (gt R j) ≤ key (gt R q)
theorem insS_start {L R : List α} {a b i : Nat} (h : Seg L R a b) (hs : Srt key R a i) (hi : a ≤ i ∧ i < b) : InsS key L R a b i i :=
  ⟨h, by omega, fun p q h1 h2 h3 _ h5 => hs p q h1 h2 (by omega), fun q h1 h2 => by omega⟩
theorem insS_step {L R : List α} {a b i j : Nat} (h : InsS key L R a b i j) (hb : b ≤ L.length) (ha : a < j) (hc : key (gt R j) < key (gt R (j - 1))) : InsS key L (sw R j (j - 1)) a b i (j - 1) := by
  have hbd := h.bd
  have hl := h.seg.len
  have e : ∀ q, q < R.length → gt (sw R j (j - 1)) q = if j - 1 = q then gt R j else if j = q then gt R (j - 1) else gt R q := fun q hq => sw_at hq
  refine ⟨h.seg.tsw (by omega) (by omega) hb, by omega, fun p q h1 h2 h3 h4 h5 => ?_, fun q h1 h2 => ?_⟩
  · rw [e p (by omega), e q (by omega), if_neg (show ¬ j - 1 = p by omega), if_neg (show ¬ j - 1 = q by omega)]
    by_cases hp : j = p
    · rw [if_pos hp, if_neg (show ¬ j = q by omega)]
      exact h.srt (j - 1) q (by omega) (by omega) h3 (by omega) (by omega)
    · rw [if_neg hp]
      by_cases hq : j = q
      · rw [if_pos hq]; exact h.srt p (j - 1) h1 (by omega) (by omega) (by omega) (by omega)
      · rw [if_neg hq]; exact h.srt p q h1 h2 h3 (by omega) (by omega)
  · rw [e (j - 1) (by omega), e q (by omega), if_pos rfl, if_neg (by omega)]
    by_cases hq : j = q
    · rw [if_pos hq]; omega
    · rw [if_neg hq]; exact h.at' q (by omega) h2
theorem insS_end {L R : List α} {a b i j : Nat} (h : InsS key L R a b i j) (hc : a < j → ¬ key (gt R j) < key (gt R (j - 1))) : Seg L R a b ∧ Srt key R a (i + 1) := by
  have hbd := h.bd
  refine ⟨h.seg, fun p q h1 h2 h3 => ?_⟩
  by_cases hq : q = j
  · subst hq
    have h4 := hc (by omega)
    by_cases hp : p = q - 1
    · subst hp; omega
    · have := h.srt p (q - 1) h1 (by omega) (by omega) (by omega) (by omega); omega
  · by_cases hp : p = j
    · subst hp; exact h.at' q h2 (by omega)
    · exact h.srt p q h1 h2 (by omega) hp hq
theorem InsS.stop {L R : List α} {a b i j : Nat} (h : InsS key L R a b i j) (hL : Lb key L a b) (hl : b ≤ L.length) (hj : 1 ≤ j) (hc : key (gt R j) < key (gt R (j - 1))) : a < j := by
  have hbd := h.bd
  apply Classical.byContradiction
  intro hn
  obtain rfl : j = a := by omega
  have := hL.seg h.seg (by omega) (by omega) j (by omega) (by omega)
  omega
/-! ### heaps -/
def Hp (key : α → Int) (R : List α) (f lo hi : Nat) : Prop := ∀ i c, lo ≤ i → (c = 2 * i + 1 ∨ c = 2 * i + 2) → c < hi → key (gt R (f + c)) ≤ key (gt R (f + i))
structure HpX (key : α → Int) (R : List α) (f lo hi r : Nat) : Prop where
  ge : lo ≤ r
  but : ∀ i c, lo ≤ i → (c = 2 * i + 1 ∨ c = 2 * i + 2) → c < hi → i ≠ r → key (gt R (f + c)) ≤ key (gt R (f + i))
  up : ∀ p c, lo ≤ p → (r = 2 * p + 1 ∨ r = 2 * p + 2) → (c = 2 * r + 1 ∨ c = 2 * r + 2) → c < hi → key (gt R (f + c)) ≤ key (gt R (f + p))
theorem hpX_start {R : List α} {f lo hi : Nat} (h : Hp key R f (lo + 1) hi) : HpX key R f lo hi lo :=
  ⟨Nat.le_refl _, fun i c h1 h2 h3 h4 => h i c (by omega) h2 h3, fun p c h1 h2 => by omega⟩
theorem hpX_end {R : List α} {f lo hi r : Nat} (h : HpX key R f lo hi r) (hr : ∀ c, (c = 2 * r + 1 ∨ c = 2 * r + 2) → c < hi → key (gt R (f + c)) ≤ key (gt R (f + r))) : Hp key R f lo hi := fun i c h1 h2 h3 => by
  by_cases hi : i = r
  · subst hi; exact hr c h2 h3
  · exact h.but i c h1 h2 h3 hi
theorem hpX_step {R : List α} {f lo hi r c : Nat} (h : HpX key R f lo hi r) (hc : c = 2 * r + 1 ∨ c = 2 * r + 2) (hch : c < hi) (hl : f + hi ≤ R.length) (hlt : key (gt R (f + r)) < key (gt R (f + c)))
    (hbig : ∀ d, (d = 2 * r + 1 ∨ d = 2 * r + 2) → d < hi → key (gt R (f + d)) ≤ key (gt R (f + c))) : HpX key (sw R (f + r) (f + c)) f lo hi c := by
  have hge := h.ge
  have e : ∀ q, f + q < R.length → gt (sw R (f + r) (f + c)) (f + q) = if c = q then gt R (f + r) else if r = q then gt R (f + c) else gt R (f + q) := fun q hq => by
    rw [sw_at hq]; simp only [Nat.add_left_cancel_iff]
  refine ⟨by omega, fun i d h1 h2 h3 h4 => ?_, fun p d h1 h2 h3 h4 => ?_⟩
  · rw [e d (by omega), e i (by omega), if_neg (show ¬ c = i by omega)]
    by_cases hi : r = i
    · rw [if_pos hi, if_neg (show ¬ r = d by omega)]
      by_cases hd : c = d
      · rw [if_pos hd]; omega
      · rw [if_neg hd]; exact hbig d (by omega) h3
    · rw [if_neg hi, if_neg (show ¬ c = d by omega)]
      by_cases hd : r = d
      · rw [if_pos hd]; exact h.up i c h1 (by omega) hc hch
      · rw [if_neg hd]; exact h.but i d h1 h2 h3 (by omega)
  · obtain rfl : p = r := by omega
    rw [e d (by omega), e p (by omega), if_neg (show ¬ c = d by omega), if_neg (show ¬ p = d by omega), if_neg (show ¬ c = p by omega), if_pos rfl]
    exact h.but c d (by omega) h3 h4 (by omega)
theorem hp_top {R : List α} {f hi : Nat} (h : Hp key R f 0 hi) : ∀ q, q < hi → key (gt R (f + q)) ≤ key (gt R (f + 0)) := by
  intro q
  induction q using Nat.strongRecOn with
  | ind q ih =>
    intro hq
    by_cases h0 : q = 0
    · subst h0; exact Int.le_refl _
    · have h1 := h ((q - 1) / 2) q (Nat.zero_le _) (by omega) hq
      have h2 := ih ((q - 1) / 2) (by omega) (by omega)
      omega
theorem hp_none (R : List α) (f : Nat) {lo hi : Nat} (h : hi ≤ 2 * lo + 1) : Hp key R f lo hi := fun i c h1 h2 h3 => by omega
structure HpS (key : α → Int) (L R : List α) (f s n : Nat) : Prop where
  seg : Seg L R f (f + n)
  heap : Hp key R f 0 s
  srt : ∀ p q, p < q → s ≤ q → q < n → key (gt R (f + p)) ≤ key (gt R (f + q))
theorem hpS_start {L R : List α} {f n : Nat} (h : Seg L R f (f + n)) (hh : Hp key R f 0 n) : HpS key L R f n n := ⟨h, hh, fun p q h1 h2 h3 => by omega⟩
theorem hpS_swap {L R : List α} {f s n : Nat} (h : HpS key L R f (s + 1) n) (hs : s < n) (hl : f + n ≤ L.length) :
    Seg L (sw R f (f + s)) f (f + n) ∧ Hp key (sw R f (f + s)) f 1 s ∧ (∀ p q, p < q → s ≤ q → q < n → key (gt (sw R f (f + s)) (f + p)) ≤ key (gt (sw R f (f + s)) (f + q))) := by
  have hl2 := h.seg.len
  have e : ∀ q, f + q < R.length → gt (sw R f (f + s)) (f + q) = if s = q then gt R f else if 0 = q then gt R (f + s) else gt R (f + q) := fun q hq => by
    rw [sw_at hq]
    by_cases h1 : s = q
    · rw [if_pos h1, if_pos (by omega)]
    · rw [if_neg h1, if_neg (by omega)]
      by_cases h2 : 0 = q
      · rw [if_pos h2, if_pos (by omega)]
      · rw [if_neg h2, if_neg (by omega)]
  have ht := hp_top h.heap
  refine ⟨h.seg.tsw (by omega) (by omega) (by omega), fun i c h1 h2 h3 => ?_, fun p q h1 h2 h3 => ?_⟩
  · rw [e c (by omega), e i (by omega), if_neg (by omega), if_neg (by omega), if_neg (by omega), if_neg (by omega)]
    exact h.heap i c (by omega) h2 (by omega)
  · rw [e p (by omega), e q (by omega)]
    by_cases hq : s = q
    · subst hq
      rw [if_pos rfl, if_neg (by omega)]
      by_cases hp : 0 = p
      · rw [if_pos hp]; have := ht s (by omega); simpa using this
      · rw [if_neg hp]; have := ht p (by omega); simpa using this
    · rw [if_neg hq, if_neg (show ¬ 0 = q by omega)]
      by_cases hp : s = p
      · rw [if_pos hp]; have := h.srt 0 q (by omega) (by omega) h3; simpa using this
      · rw [if_neg hp]
        by_cases hp0 : 0 = p
        · rw [if_pos hp0]; exact h.srt s q (by omega) (by omega) h3
        · rw [if_neg hp0]; exact h.srt p q h1 (by omega) h3
theorem hpS_step {L R Q : List α} {f s n : Nat} (hs : s < n) (hl : f + n ≤ L.length) (h1 : Seg L R f (f + n)) (h2 : ∀ p q, p < q → s ≤ q → q < n → key (gt R (f + p)) ≤ key (gt R (f + q)))
    (h3 : Seg R Q f (f + s)) (h4 : Hp key Q f 0 s) : HpS key L Q f s n := by
  have hl2 := h1.len
  refine ⟨h1.tw h3 (Nat.le_refl _) (by omega) hl, h4, fun p q hp hq hn => ?_⟩
  rw [h3.out (f + q) (by omega) (by omega)]
  by_cases h5 : p < s
  · exact h3.all (fun e => key e ≤ key (gt R (f + q))) (fun r h6 h7 => by
      have := h2 (r - f) q (by omega) hq hn
      rwa [show f + (r - f) = r by omega] at this) (f + p) (by omega) (by omega)
  · rw [h3.out (f + p) (by omega) (by omega)]; exact h2 p q hp hq hn
theorem hpS_end {L R : List α} {f n : Nat} (h : HpS key L R f 0 n) : Seg L R f (f + n) ∧ Srt key R f (f + n) := ⟨h.seg, fun p q h1 h2 h3 => by
  have := h.srt (p - f) (q - f) (by omega) (by omega) (by omega)
  rwa [show f + (p - f) = p by omega, show f + (q - f) = q by omega] at this⟩
/-! ### partitions -/
structure PtI (key : α → Int) (L R : List α) (a b i j : Nat) : Prop where
  seg : Seg L R a b
  bd : a < i ∧ i ≤ j + 1 ∧ a ≤ j ∧ j < b
  lo : ∀ q, a < q → q < i → key (gt R q) < key (gt R a)
  hi : ∀ q, j < q → q < b → key (gt R a) ≤ key (gt R q)
theorem pt_i {L R : List α} {a b i j : Nat} (h : PtI key L R a b i j) (hij : i ≤ j) (hc : key (gt R i) < key (gt R a)) : PtI key L R a b (i + 1) j :=
  ⟨h.seg, by have := h.bd; omega, fun q h1 h2 => by
    rcases Nat.lt_succ_iff_lt_or_eq.1 h2 with h3 | h3
    · exact h.lo q h1 h3
    · subst h3; exact hc, h.hi⟩
theorem pt_j {L R : List α} {a b i j : Nat} (h : PtI key L R a b i j) (hij : i ≤ j) (hc : ¬ key (gt R j) < key (gt R a)) : PtI key L R a b i (j - 1) :=
  ⟨h.seg, by have := h.bd; omega, h.lo, fun q h1 h2 => by
    by_cases h3 : q = j
    · subst h3; omega
    · exact h.hi q (by have := h.bd; omega) h2⟩
theorem pt_sw {L R : List α} {a b i j : Nat} (h : PtI key L R a b i j) (hl : b ≤ L.length) (hij : i ≤ j) (h1 : ¬ key (gt R i) < key (gt R a)) (h2 : key (gt R j) < key (gt R a)) : PtI key L (sw R i j) a b (i + 1) (j - 1) := by
  have hbd := h.bd
  have hl2 := h.seg.len
  have hij' : i < j := by
    rcases Nat.lt_or_eq_of_le hij with h3 | h3
    · exact h3
    · subst h3; exact absurd h2 h1
  have e : ∀ q, q < R.length → gt (sw R i j) q = if j = q then gt R i else if i = q then gt R j else gt R q := fun q hq => sw_at hq
  have ea : gt (sw R i j) a = gt R a := by rw [e a (by omega), if_neg (by omega), if_neg (by omega)]
  refine ⟨h.seg.tsw (by omega) (by omega) hl, by omega, fun q h3 h4 => ?_, fun q h3 h4 => ?_⟩
  · rw [ea, e q (by omega), if_neg (by omega)]
    by_cases h5 : i = q
    · rw [if_pos h5]; exact h2
    · rw [if_neg h5]; exact h.lo q h3 (by omega)
  · rw [ea, e q (by omega)]
    by_cases h5 : j = q
    · rw [if_pos h5]; omega
    · rw [if_neg h5, if_neg (by omega)]; exact h.hi q (by omega) h4
structure PtE (key : α → Int) (L R : List α) (a b p : Nat) : Prop where
  seg : Seg L R a b
  bd : a ≤ p ∧ p < b
  lo : ∀ q, a ≤ q → q < p → key (gt R q) < key (gt R p)
  hi : ∀ q, p < q → q < b → key (gt R p) ≤ key (gt R q)
theorem pt_end {L R : List α} {a b i j : Nat} (h : PtI key L R a b i j) (hl : b ≤ L.length) (hij : j < i) : PtE key L (sw R j a) a b j := by
  have hbd := h.bd
  have hl2 := h.seg.len
  have e : ∀ q, q < R.length → gt (sw R j a) q = if a = q then gt R j else if j = q then gt R a else gt R q := fun q hq => sw_at hq
  have ej : gt (sw R j a) j = gt R a := by
    rw [e j (by omega)]
    by_cases h1 : a = j
    · rw [if_pos h1, h1]
    · rw [if_neg h1, if_pos rfl]
  refine ⟨h.seg.tsw (by omega) (by omega) hl, by omega, fun q h1 h2 => ?_, fun q h1 h2 => ?_⟩
  · rw [ej, e q (by omega)]
    by_cases h3 : a = q
    · rw [if_pos h3]; exact h.lo j (by omega) (by omega)
    · rw [if_neg h3, if_neg (by omega)]; exact h.lo q (by omega) (by omega)
  · rw [ej, e q (by omega), if_neg (by omega), if_neg (by omega)]; exact h.hi q h1 h2
structure PqI (key : α → Int) (L R : List α) (a b i j : Nat) : Prop where
  seg : Seg L R a b
  bd : a < i ∧ i ≤ j + 1 ∧ a ≤ j ∧ j < b
  lo : ∀ q, a < q → q < i → key (gt R q) ≤ key (gt R a)
  hi : ∀ q, j < q → q < b → key (gt R a) < key (gt R q)
theorem pq_i {L R : List α} {a b i j : Nat} (h : PqI key L R a b i j) (hij : i ≤ j) (hc : ¬ key (gt R a) < key (gt R i)) : PqI key L R a b (i + 1) j :=
  ⟨h.seg, by have := h.bd; omega, fun q h1 h2 => by
    rcases Nat.lt_succ_iff_lt_or_eq.1 h2 with h3 | h3
    · exact h.lo q h1 h3
    · subst h3; omega, h.hi⟩
theorem pq_j {L R : List α} {a b i j : Nat} (h : PqI key L R a b i j) (hij : i ≤ j) (hc : key (gt R a) < key (gt R j)) : PqI key L R a b i (j - 1) :=
  ⟨h.seg, by have := h.bd; omega, h.lo, fun q h1 h2 => by
    by_cases h3 : q = j
    · subst h3; omega
    · exact h.hi q (by have := h.bd; omega) h2⟩
theorem pq_sw {L R : List α} {a b i j : Nat} (h : PqI key L R a b i j) (hl : b ≤ L.length) (hij : i ≤ j) (h1 : key (gt R a) < key (gt R i)) (h2 : ¬ key (gt R a) < key (gt R j)) : PqI key L (sw R i j) a b (i + 1) (j - 1) := by
  have hbd := h.bd
  have hl2 := h.seg.len
  have hij' : i < j := by
    rcases Nat.lt_or_eq_of_le hij with h3 | h3
    · exact h3
    · subst h3; exact absurd h1 h2
  have e : ∀ q, q < R.length → gt (sw R i j) q = if j = q then gt R i else if i = q then gt R j else gt R q := fun q hq => sw_at hq
  have ea : gt (sw R i j) a = gt R a := by rw [e a (by omega), if_neg (by omega), if_neg (by omega)]
  refine ⟨h.seg.tsw (by omega) (by omega) hl, by omega, fun q h3 h4 => ?_, fun q h3 h4 => ?_⟩
  · rw [ea, e q (by omega), if_neg (by omega)]
    by_cases h5 : i = q
    · rw [if_pos h5]; omega
    · rw [if_neg h5]; exact h.lo q h3 (by omega)
  · rw [ea, e q (by omega)]
    by_cases h5 : j = q
    · rw [if_pos h5]; exact h1
    · rw [if_neg h5, if_neg (by omega)]; exact h.hi q (by omega) h4
theorem sw_first {L : List α} {a pv : Nat} (ha : a < L.length) : gt (sw L a pv) a = gt L pv := by
  rw [sw_at ha]
  by_cases h : pv = a
  · rw [if_pos h, h]
  · rw [if_neg h, if_pos rfl]
theorem pq_same {L R : List α} {a b i j : Nat} (h : PqI key L R a b i j) (hl : b ≤ L.length) (hij : i ≤ j) (ha : a < i) : key (gt (sw R i j) a) = key (gt R a) := by
  have := h.bd
  have := h.seg.len
  rw [sw_at (by omega), if_neg (by omega), if_neg (by omega)]
structure PqE (key : α → Int) (L R : List α) (a b p pv : Nat) : Prop where
  seg : Seg L R a b
  bd : a < p ∧ p ≤ b
  lo : ∀ q, a ≤ q → q < p → key (gt R q) ≤ key (gt L pv)
  hi : ∀ q, p ≤ q → q < b → key (gt L pv) < key (gt R q)
theorem pq_end {L R : List α} {a b i j pv : Nat} (h : PqI key L R a b i j) (he : key (gt R a) = key (gt L pv)) (hij : j < i) : PqE key L R a b i pv := by
  have hbd := h.bd
  refine ⟨h.seg, by omega, fun q h1 h2 => ?_, fun q h1 h2 => ?_⟩
  · rw [← he]
    by_cases h3 : a = q
    · subst h3; exact Int.le_refl _
    · exact h.lo q (by omega) h2
  · rw [← he]; exact h.hi q (by omega) h2
/-! ### the whole -/
theorem out_eq {R Q : List α} {a b x y p pv : Nat} (h : Out key R a b x y) (hxy : a ≤ x ∧ x < y ∧ y ≤ b ∧ b ≤ R.length) (hE : PqE key R Q x y p pv) (hL : Lb key R x y) (h0 : 0 < x) (hc : ¬ key (gt R (x - 1)) < key (gt R pv)) : Out key Q a b p y := by
  have hb := hE.bd
  have h1 := h.seg hE.seg (by omega)
  have h2 := hL.seg hE.seg (by omega) h0
  have h3 := hE.seg.out (x - 1) (by omega) (by omega)
  intro u v h4 h5 h6 h7
  by_cases h8 : u < x ∨ y ≤ v
  · exact h1 u v h4 h5 h6 h8
  · have h9 := hE.lo u (by omega) (by omega)
    have h10 := h2 v (by omega) (by omega)
    rw [h3] at h10
    by_cases h11 : v < p
    · omega
    · have := hE.hi v (by omega) (by omega); omega
theorem out_left {R Q Q' : List α} {a b x y p : Nat} (h : Out key R a b x y) (hxy : a ≤ x ∧ x < y ∧ y ≤ b ∧ b ≤ R.length) (hE : PtE key R Q x y p) (hs : Seg Q Q' x p) (ht : Srt key Q' x p) : Out key Q' a b (p + 1) y := by
  have hb := hE.bd
  have hl := hE.seg.len
  have h1 := (h.seg hE.seg (by omega)).seg (hs.wide (Nat.le_refl _) (by omega : p ≤ y) (by omega)) (by omega)
  have ep : gt Q' p = gt Q p := hs.out p (by omega) (by omega)
  have hlo : ∀ q, x ≤ q → q < p → key (gt Q' q) ≤ key (gt Q' p) := by
    rw [ep]; exact hs.all (fun e => key e ≤ key (gt Q p)) fun q h2 h3 => Int.le_of_lt (hE.lo q h2 h3)
  have hhi : ∀ q, p < q → q < y → key (gt Q' p) ≤ key (gt Q' q) := fun q h2 h3 => by
    rw [ep, hs.out q (by omega) (by omega)]; exact hE.hi q h2 h3
  intro u v h4 h5 h6 h7
  by_cases h8 : u < x ∨ y ≤ v
  · exact h1 u v h4 h5 h6 h8
  · rcases Nat.lt_trichotomy v p with h9 | h9 | h9
    · exact ht u v (by omega) h5 h9
    · subst h9; exact hlo u (by omega) h5
    · rcases Nat.lt_or_eq_of_le (show u ≤ p by omega) with h10 | h10
      · exact Int.le_trans (hlo u (by omega) h10) (hhi v h9 (by omega))
      · subst h10; exact hhi v h9 (by omega)
theorem out_right {R Q Q' : List α} {a b x y p : Nat} (h : Out key R a b x y) (hxy : a ≤ x ∧ x < y ∧ y ≤ b ∧ b ≤ R.length) (hE : PtE key R Q x y p) (hs : Seg Q Q' (p + 1) y) (ht : Srt key Q' (p + 1) y) : Out key Q' a b x p := by
  have hb := hE.bd
  have hl := hE.seg.len
  have h1 := (h.seg hE.seg (by omega)).seg (hs.wide (by omega : x ≤ p + 1) (Nat.le_refl _) (by omega)) (by omega)
  have ep : gt Q' p = gt Q p := hs.out p (by omega) (by omega)
  have hhi : ∀ q, p + 1 ≤ q → q < y → key (gt Q' p) ≤ key (gt Q' q) := by
    rw [ep]; exact hs.all (fun e => key (gt Q p) ≤ key e) fun q h2 h3 => hE.hi q (by omega) h3
  have hlo : ∀ q, x ≤ q → q < p → key (gt Q' q) ≤ key (gt Q' p) := fun q h2 h3 => by
    rw [ep, hs.out q (by omega) (by omega)]; exact Int.le_of_lt (hE.lo q h2 h3)
  intro u v h4 h5 h6 h7
  by_cases h8 : u < x ∨ y ≤ v
  · exact h1 u v h4 h5 h6 h8
  · rcases Nat.lt_trichotomy u p with h9 | h9 | h9
    · rcases Nat.lt_or_eq_of_le (show p ≤ v by omega) with h10 | h10
      · exact Int.le_trans (hlo u (by omega) h9) (hhi v (by omega) (by omega))
      · subst h10; exact hlo u (by omega) h9
    · subst h9; exact hhi v (by omega) (by omega)
    · exact ht u v (by omega) h5 (by omega)
theorem PtE.lbL {R Q : List α} {x y p : Nat} (hE : PtE key R Q x y p) (hL : Lb key R x y) (hl : y ≤ R.length) : Lb key Q x p := (hL.seg hE.seg (by have := hE.bd; omega)).sub (by have := hE.bd; omega)
theorem PtE.lbR {R Q : List α} {x y p : Nat} (hE : PtE key R Q x y p) : Lb key Q (p + 1) y := fun _ q h1 h2 => hE.hi q (by omega) h2
theorem Srt.seg {R Q : List α} {a b x y : Nat} (h : Srt key R a b) (hs : Seg R Q x y) (hx : b ≤ x) (hb : b ≤ R.length) : Srt key Q a b := fun p q h1 h2 h3 => by
  rw [hs.out p (by omega) (by omega), hs.out q (by omega) (by omega)]; exact h p q h1 h2 h3
theorem Srt.more {R : List α} {a i : Nat} (h : Srt key R a i) (hc : ¬ key (gt R i) < key (gt R (i - 1))) : Srt key R a (i + 1) := fun p q h1 h2 h3 => by
  by_cases hq : q = i
  · subst hq
    have := h.le (p := p) (q := q - 1)
    by_cases hp : p = q - 1
    · subst hp; omega
    · have := h p (q - 1) h1 (by omega) (by omega); omega
  · exact h p q h1 h2 (by omega)
theorem Srt.swp {R : List α} {a x : Nat} (h : Srt key R a x) (hx : x < R.length) : Srt key (sw R x (x - 1)) a (x - 1) := fun p q h1 h2 h3 => by
  rw [sw_at (by omega), sw_at (by omega), if_neg (by omega), if_neg (by omega), if_neg (by omega), if_neg (by omega)]
  exact h p q h1 h2 (by omega)
theorem Srt.out {R : List α} {a b x i j : Nat} (h : Srt key R a x) (hi : x ≤ i ∧ i < b) (hj : x ≤ j ∧ j < b) (hb : b ≤ R.length) : Srt key (sw R i j) a x := h.seg (.sw (a := x) (b := b) hi hj hb) (Nat.le_refl _) (by omega)
end
end Go.Proofs.T10
/- Top: sets of numbers as lists of spans, in plain Lean. -/
namespace Go.Proofs.T10
open Go Go.Kx

def hasN (l : List Span) (n : Int) : Prop := ∃ s ∈ l, s.Lo ≤ n ∧ n ≤ s.Hi
theorem hasN_nil (n : Int) : ¬ hasN [] n := fun ⟨_, h, _⟩ => by cases h
theorem hasN_cons {s : Span} {l : List Span} {n : Int} : hasN (s :: l) n ↔ (s.Lo ≤ n ∧ n ≤ s.Hi) ∨ hasN l n := by
  constructor
  · rintro ⟨x, hx, h⟩
    rcases List.mem_cons.1 hx with rfl | hx
    · exact .inl h
    · exact .inr ⟨x, hx, h⟩
  · rintro (h | ⟨x, hx, h⟩)
    · exact ⟨s, List.mem_cons_self .., h⟩
    · exact ⟨x, List.mem_cons_of_mem _ hx, h⟩
theorem hasN_append {l r : List Span} {n : Int} : hasN (l ++ r) n ↔ hasN l n ∨ hasN r n := by
  constructor
  · rintro ⟨x, hx, h⟩
    rcases List.mem_append.1 hx with hx | hx
    · exact .inl ⟨x, hx, h⟩
    · exact .inr ⟨x, hx, h⟩
  · rintro (⟨x, hx, h⟩ | ⟨x, hx, h⟩)
    · exact ⟨x, List.mem_append_left _ hx, h⟩
    · exact ⟨x, List.mem_append_right _ hx, h⟩
theorem hasN_perm {l r : List Span} (h : l.Perm r) {n : Int} : hasN l n ↔ hasN r n :=
  ⟨fun ⟨x, hx, hn⟩ => ⟨x, h.mem_iff.1 hx, hn⟩, fun ⟨x, hx, hn⟩ => ⟨x, h.mem_iff.2 hx, hn⟩⟩
def Can : List Span → Prop
  | [] => True
  | [s] => s.Lo ≤ s.Hi
  | s :: t :: r => s.Lo ≤ s.Hi ∧ s.Hi + 1 < t.Lo ∧ Can (t :: r)
theorem Can.head {s : Span} {r : List Span} (h : Can (s :: r)) : s.Lo ≤ s.Hi := by
  cases r with
  | nil => exact h
  | cons t r => exact h.1
theorem Can.tail {s : Span} {r : List Span} (h : Can (s :: r)) : Can r := by
  cases r with
  | nil => trivial
  | cons t r => exact h.2.2
theorem Can.above {s : Span} : ∀ {r : List Span}, Can (s :: r) → ∀ n, hasN r n → s.Hi + 1 < n
  | [], _, n, hn => absurd hn (hasN_nil n)
  | t :: r, h, n, hn => by
    have h1 := h.2.1
    rcases hasN_cons.1 hn with h2 | h2
    · omega
    · have h3 := Can.above h.2.2 n h2
      have h4 := h.2.2.head
      omega
theorem can_ext : ∀ {l r : List Span}, Can l → Can r → (∀ n, hasN l n ↔ hasN r n) → l = r
  | [], [], _, _, _ => rfl
  | [], t :: r, _, hr, h => absurd ((h t.Lo).2 (hasN_cons.2 (.inl ⟨Int.le_refl _, hr.head⟩))) (hasN_nil _)
  | s :: l, [], hl, _, h => absurd ((h s.Lo).1 (hasN_cons.2 (.inl ⟨Int.le_refl _, hl.head⟩))) (hasN_nil _)
  | s :: l, t :: r, hl, hr, h => by
    have hs := hl.head
    have ht := hr.head
    have al := Can.above hl
    have ar := Can.above hr
    have e : ∀ n, ((s.Lo ≤ n ∧ n ≤ s.Hi) ∨ hasN l n) ↔ ((t.Lo ≤ n ∧ n ≤ t.Hi) ∨ hasN r n) := fun n => by rw [← hasN_cons, ← hasN_cons]; exact h n
    have e1 : s.Lo = t.Lo := by
      have h1 := (e s.Lo).1 (.inl ⟨Int.le_refl _, hs⟩)
      have h2 := (e t.Lo).2 (.inl ⟨Int.le_refl _, ht⟩)
      have h3 := al t.Lo
      have h4 := ar s.Lo
      rcases h1 with h1 | h1 <;> rcases h2 with h2 | h2
      · omega
      · have := h3 h2; omega
      · have := h4 h1; omega
      · have := h3 h2; have := h4 h1; omega
    have e2 : s.Hi = t.Hi := by
      rcases Int.lt_trichotomy s.Hi t.Hi with h1 | h1 | h1
      · rcases (e (s.Hi + 1)).2 (.inl ⟨by omega, by omega⟩) with h2 | h2
        · omega
        · have := al _ h2; omega
      · exact h1
      · rcases (e (t.Hi + 1)).1 (.inl ⟨by omega, by omega⟩) with h2 | h2
        · omega
        · have := ar _ h2; omega
    obtain rfl : s = t := by cases s; cases t; simp only at e1 e2; rw [e1, e2]
    rw [can_ext hl.tail hr.tail fun n => by
      have h1 := e n
      constructor
      · intro h2
        rcases h1.1 (.inr h2) with h3 | h3
        · have := al n h2; omega
        · exact h3
      · intro h2
        rcases h1.2 (.inr h2) with h3 | h3
        · have := ar n h2; omega
        · exact h3]
def mrg1 (l : List Span) (x : Span) : List Span := if 0 < l.length ∧ x.Lo ≤ (gt l (l.length - 1)).Hi + 1 then l.set (l.length - 1) ⟨(gt l (l.length - 1)).Lo, max (gt l (l.length - 1)).Hi x.Hi⟩ else l ++ [x]
def mrgL (l : List Span) : List Span := l.foldl mrg1 []
theorem mrgL_snoc (l : List Span) (x : Span) : mrgL (l ++ [x]) = mrg1 (mrgL l) x := by unfold mrgL; rw [List.foldl_append]; rfl
theorem can_snoc : ∀ {l : List Span} {x : Span}, Can (l ++ [x]) ↔ Can l ∧ x.Lo ≤ x.Hi ∧ (0 < l.length → (gt l (l.length - 1)).Hi + 1 < x.Lo)
  | [], x => ⟨fun h => ⟨trivial, h, fun h => absurd h (Nat.lt_irrefl _)⟩, fun h => h.2.1⟩
  | [s], x => ⟨fun h => ⟨h.1, h.2.2, fun _ => h.2.1⟩, fun h => ⟨h.1, h.2.2 (by simp), h.2.1⟩⟩
  | s :: t :: r, x => by
    have ih := can_snoc (l := t :: r) (x := x)
    have e : (gt (s :: t :: r) ((s :: t :: r).length - 1)) = gt (t :: r) ((t :: r).length - 1) := rfl
    rw [e]
    constructor
    · intro h
      have h1 := ih.1 h.2.2
      exact ⟨⟨h.1, h.2.1, h1.1⟩, h1.2.1, fun _ => h1.2.2 (by simp)⟩
    · intro h
      exact ⟨h.1.1, h.1.2.1, ih.2 ⟨h.1.2.2, h.2.1, fun _ => h.2.2 (by simp)⟩⟩
theorem snoc_cases {α : Type} [Inhabited α] (l : List α) (h : 0 < l.length) : ∃ r x, l = r ++ [x] := by
  rcases List.eq_nil_or_concat l with rfl | ⟨r, x, rfl⟩
  · simp at h
  · exact ⟨r, x, by simp⟩
theorem gt_snoc {α : Type} [Inhabited α] (r : List α) (x : α) : gt (r ++ [x]) ((r ++ [x]).length - 1) = x := by
  simp [gt, List.getD]
theorem set_snoc {α : Type} (r : List α) (x y : α) : (r ++ [x]).set ((r ++ [x]).length - 1) y = r ++ [y] := by
  simp
structure MrgI (l d : List Span) : Prop where
  can : Can d
  has : ∀ n, hasN d n ↔ hasN l n
  low : ∀ s, 0 < d.length → (∀ x ∈ l, x.Lo ≤ s) → (gt d (d.length - 1)).Lo ≤ s
theorem mrgI_nil : MrgI [] [] := ⟨trivial, fun _ => .rfl, fun _ h => absurd h (Nat.lt_irrefl _)⟩
theorem mrgI_step {l d : List Span} {x : Span} (h : MrgI l d) (hx : x.Lo ≤ x.Hi) (hs : ∀ y ∈ l, y.Lo ≤ x.Lo) : MrgI (l ++ [x]) (mrg1 d x) := by
  have hx0 : ∀ s, (∀ y ∈ l ++ [x], y.Lo ≤ s) → x.Lo ≤ s := fun s hy => hy x (by simp)
  unfold mrg1
  by_cases h0 : 0 < d.length
  · have hlow := h.low x.Lo h0 hs
    obtain ⟨r, z, rfl⟩ := snoc_cases d h0
    rw [gt_snoc, set_snoc] at *
    have hc := can_snoc.1 h.can
    split
    · rename_i h1
      refine ⟨can_snoc.2 ⟨hc.1, by show z.Lo ≤ max z.Hi x.Hi; omega, hc.2.2⟩, fun n => ?_, fun s _ hy => ?_⟩
      · rw [hasN_append, hasN_append, ← h.has n, hasN_append, hasN_cons, hasN_cons, hasN_cons]
        constructor
        · rintro (h2 | h2 | h2)
          · exact .inl (.inl h2)
          · have h2' : z.Lo ≤ n ∧ n ≤ max z.Hi x.Hi := h2
            by_cases h3 : n ≤ z.Hi
            · exact .inl (.inr (.inl ⟨h2'.1, h3⟩))
            · exact .inr (.inl (by omega))
          · exact absurd h2 (hasN_nil _)
        · rintro ((h2 | h2 | h2) | h2 | h2)
          · exact .inl h2
          · exact .inr (.inl (show z.Lo ≤ n ∧ n ≤ max z.Hi x.Hi by omega))
          · exact absurd h2 (hasN_nil _)
          · exact .inr (.inl (show z.Lo ≤ n ∧ n ≤ max z.Hi x.Hi by omega))
          · exact absurd h2 (hasN_nil _)
      · rw [gt_snoc]; have := hx0 s hy; show z.Lo ≤ s; omega
    · rename_i h1
      refine ⟨can_snoc.2 ⟨h.can, hx, fun _ => by rw [gt_snoc]; omega⟩, fun n => ?_, fun s _ hy => ?_⟩
      · rw [hasN_append, hasN_append (l := l), h.has n]
      · rw [gt_snoc]; exact hx0 s hy
  · obtain rfl : d = [] := by cases d with
      | nil => rfl
      | cons _ _ => simp at h0
    rw [if_neg (fun h1 => h0 h1.1)]
    refine ⟨hx, fun n => ?_, fun s _ hy => hx0 s hy⟩
    exact (hasN_append.trans (or_congr_left (h.has n))).trans hasN_append.symm
theorem mrgI_all {R : List Span} (hv : ∀ s ∈ R, s.Lo ≤ s.Hi) (hs : R.Pairwise (fun a b => a.Lo ≤ b.Lo)) : MrgI R (mrgL R) := by
  induction hn : R.length generalizing R with
  | zero => obtain rfl := List.length_eq_zero_iff.1 hn; exact mrgI_nil
  | succ n ih =>
    obtain ⟨r, x, rfl⟩ := snoc_cases R (by omega)
    rw [mrgL_snoc]
    have hp := List.pairwise_append.1 hs
    exact mrgI_step (ih (fun s h => hv s (List.mem_append_left _ h)) hp.1 (by simpa using hn)) (hv x (by simp)) fun y hy => hp.2.2 y hy x (by simp)
def insS (x : Span) : List Span → List Span
  | [] => [x]
  | y :: r => if x.Lo ≤ y.Lo then x :: y :: r else y :: insS x r
def sortS : List Span → List Span
  | [] => []
  | x :: r => insS x (sortS r)
theorem insS_perm (x : Span) : ∀ l, (insS x l).Perm (x :: l)
  | [] => .refl _
  | y :: r => by
    unfold insS
    split
    · exact .refl _
    · exact ((insS_perm x r).cons y).trans (.swap ..)
theorem sortS_perm : ∀ l, (sortS l).Perm l
  | [] => .refl _
  | x :: r => (insS_perm x _).trans ((sortS_perm r).cons x)
theorem insS_sorted {x : Span} : ∀ {l : List Span}, l.Pairwise (fun a b => a.Lo ≤ b.Lo) → (insS x l).Pairwise (fun a b => a.Lo ≤ b.Lo)
  | [], _ => List.pairwise_singleton _ _
  | y :: r, h => by
    unfold insS
    have h1 := List.pairwise_cons.1 h
    split
    · rename_i h2
      refine List.pairwise_cons.2 ⟨fun z hz => ?_, h⟩
      rcases List.mem_cons.1 hz with rfl | hz
      · exact h2
      · have := h1.1 z hz; omega
    · rename_i h2
      refine List.pairwise_cons.2 ⟨fun z hz => ?_, insS_sorted h1.2⟩
      rcases List.mem_cons.1 ((insS_perm x r).mem_iff.1 hz) with rfl | hz
      · omega
      · exact h1.1 z hz
theorem sortS_sorted : ∀ l, (sortS l).Pairwise (fun a b => a.Lo ≤ b.Lo)
  | [] => .nil
  | _ :: r => insS_sorted (sortS_sorted r)
def unionC (l : List Span) : List Span := mrgL (sortS l)
theorem unionC_I {l : List Span} (hv : ∀ s ∈ l, s.Lo ≤ s.Hi) : MrgI (sortS l) (unionC l) := mrgI_all (fun s h => hv s ((sortS_perm l).mem_iff.1 h)) (sortS_sorted l)
theorem unionC_can {l : List Span} (hv : ∀ s ∈ l, s.Lo ≤ s.Hi) : Can (unionC l) := (unionC_I hv).can
theorem mrgL_union {l R : List Span} (hp : R.Perm l) (hs : Srt Span.Lo R 0 R.length) (hv : ∀ s ∈ l, s.Lo ≤ s.Hi) : mrgL R = unionC l := by
  have hs' : R.Pairwise (fun a b => a.Lo ≤ b.Lo) := by
    rw [List.pairwise_iff_getElem]
    intro i j hi hj hij
    have h1 := hs i j (Nat.zero_le _) hij hj
    have ei : gt R i = R[i] := by simp [gt, List.getD, hi]
    have ej : gt R j = R[j] := by simp [gt, List.getD, hj]
    rwa [ei, ej] at h1
  have h1 := mrgI_all (fun s h => hv s (hp.mem_iff.1 h)) hs'
  have h2 := unionC_I hv
  exact can_ext h1.can h2.can fun n => (h1.has n).trans ((hasN_perm (hp.trans (sortS_perm l).symm)).trans (h2.has n).symm)
theorem can_valid : ∀ {l : List Span}, Can l → ∀ s ∈ l, s.Lo ≤ s.Hi
  | [], _, _, h => by cases h
  | x :: r, hc, s, h => by
    rcases List.mem_cons.1 h with rfl | h
    · exact hc.head
    · exact can_valid hc.tail s h
/-! ### bounds of lower ends, for the comparison -/
def bdS (L : List Span) : Prop := ∀ q, -1000000000 ≤ (gt L q).Lo ∧ (gt L q).Lo ≤ 1000000000
def cmpS (a b : Span) : Int := wr (a.Lo - b.Lo)
theorem cmpS_neg {a b : Span} (ha : -1000000000 ≤ a.Lo ∧ a.Lo ≤ 1000000000) (hb : -1000000000 ≤ b.Lo ∧ b.Lo ≤ 1000000000) : cmpS a b < 0 ↔ a.Lo < b.Lo := by
  unfold cmpS
  rw [wr_in (by omega) (by omega)]
  omega
theorem cl {R : List Span} (h : bdS R) {i j : Nat} : cmpS (gt R i) (gt R j) < 0 ↔ (gt R i).Lo < (gt R j).Lo := cmpS_neg (h i) (h j)
theorem bdS_of {L : List Span} (h : ∀ s ∈ L, -1000000000 ≤ s.Lo ∧ s.Lo ≤ 1000000000) : bdS L := fun q => by
  by_cases hq : q < L.length
  · exact h _ (mem_gt0 hq)
  · have : gt L q = default := by simp [gt, List.getD, List.getElem?_eq_none (Nat.le_of_not_lt hq)]
    rw [this]; decide
theorem bdS_perm {L R : List Span} (h : bdS L) (hp : R.Perm L) : bdS R := bdS_of fun s hs => by
  obtain ⟨i, _, e⟩ := gt_mem0 (hp.mem_iff.1 hs)
  rw [← e]; exact h i
theorem bdS_sw {L : List Span} (h : bdS L) (i j : Nat) : bdS (sw L i j) := bdS_of fun s hs => by
  rcases List.mem_or_eq_of_mem_set hs with h1 | rfl
  · rcases List.mem_or_eq_of_mem_set h1 with h2 | rfl
    · obtain ⟨i, _, e⟩ := gt_mem0 h2; rw [← e]; exact h i
    · exact h j
  · exact h i
end Go.Proofs.T10
/- Top: lists one behind the other, in plain Lean. -/
namespace Go.Proofs.T10
open Go Go.Kx
section
variable {α : Type}
def catN [Inhabited α] (Ls : List (List α)) : Nat → List α
  | 0 => []
  | k + 1 => catN Ls k ++ gt Ls k
variable [Inhabited α]
def lenN (Ls : List (List α)) (k : Nat) : Nat := (catN Ls k).length
theorem lenN_succ (Ls : List (List α)) (k : Nat) : lenN Ls (k + 1) = lenN Ls k + (gt Ls k).length := by unfold lenN; rw [catN, List.length_append]
theorem lenN_le {Ls : List (List α)} {c : Nat} (h : ∀ i, i < Ls.length → (gt Ls i).length ≤ c) : ∀ k, k ≤ Ls.length → lenN Ls k ≤ c * k
  | 0, _ => Nat.zero_le _
  | k + 1, hk => by have h1 := lenN_le h k (by omega); have h2 := h k (by omega); rw [lenN_succ, Nat.mul_succ]; omega
theorem catN_two (A B : List α) : catN [A, B] 2 = A ++ B := by show ([] ++ A) ++ B = A ++ B; rw [List.nil_append]
end
end Go.Proofs.T10
/- Top: what pens and small sheets are, in plain Lean. -/
namespace Go.Proofs.T10
open Go Go.Kx

def penP (p : Pen) : Prop := (0 ≤ p.Band ∧ p.Band ≤ 8) ∧ (-200 ≤ p.Zero.Lo ∧ p.Zero.Lo ≤ p.Zero.Hi) ∧ p.Zero.Hi ≤ 200 ∧ p.Zero.Hi - p.Zero.Lo ≤ 40 ∧ 0 ≤ p.Rate ∧ p.Rate ≤ 12000
instance (p : Pen) : Decidable (penP p) := by unfold penP; exact inferInstance
def penE (p : Pen) : Int := if penP p then 0 else 30
theorem penE_yes {p : Pen} (h : penP p) : penE p = 0 := if_pos h
theorem penE_no {p : Pen} (h : ¬ penP p) : penE p = 30 := if_neg h
theorem penP_of {p : Pen} (h : penE p = 0) : penP p := by
  unfold penE at h; split at h
  · assumption
  · cases h
def lvlP (l : List Int) : Prop := ∀ i, i < l.length → -50000 ≤ gt l i ∧ gt l i ≤ 50000
instance (l : List Int) : Decidable (lvlP l) := by unfold lvlP; exact inferInstance
def isBad (l : List Int) (n : Int) : Prop := (n = -1 ∧ lvlP l) ∨ (0 ≤ n ∧ ¬ lvlP l)
def badI (l : List Int) : Int := if lvlP l then -1 else 0
def listE (l : List Int) : Int := if (1 ≤ l.length ∧ l.length ≤ 401) ∧ lvlP l then 0 else 1
theorem listE_of {l : List Int} (h : listE l = 0) : (1 ≤ l.length ∧ l.length ≤ 401) ∧ lvlP l := by
  unfold listE at h; split at h
  · assumption
  · cases h
def listedE (p : Pen) (l : List Int) : Int := if penE p ≠ 0 then penE p else listE l
def askE (p : Pen) (l : List Int) : Int := if penE p ≠ 0 then penE p else if lvlP l then 0 else 1
def apartI (a b : Int) : Int := max (a - b) (b - a)
def inP (l : List Span) (n : Int) : Prop := ∃ i, i < l.length ∧ (gt l i).Lo ≤ n ∧ n ≤ (gt l i).Hi
instance (l : List Span) (n : Int) : Decidable (inP l n) := by unfold inP; exact inferInstance
def fewP (x : Sheet) : Prop := (x.Trace.length ≤ 12 ∧ x.Blots.length ≤ 8 ∧ x.Drum.Rates.length ≤ 5 ∧ x.Drum.Stops.length ≤ 4 ∧ x.Pen.Band ≤ 2 ∧ x.Pen.Zero.Hi - x.Pen.Zero.Lo ≤ 2) ∧ (∀ i, i < x.Trace.length → (gt x.Trace i).Half ≤ 2000) ∧ x.Paper.Height ≤ 20000 ∧ x.Paper.Pitch ≤ 5000
instance (x : Sheet) : Decidable (fewP x) := by unfold fewP; exact inferInstance
end Go.Proofs.T10
/- Top: the first number of a list that is no level, in plain Lean. -/
namespace Go.Proofs.T10
open Go Go.Kx
def fstN (l : List Int) : Nat → Nat → Int
  | 0, _ => -1
  | n + 1, i => if -50000 ≤ gt l i ∧ gt l i ≤ 50000 then fstN l n (i + 1) else i
def fstBad (l : List Int) : Int := fstN l l.length 0
theorem fstN_yes {l : List Int} {k : Nat} (hb : ¬ (-50000 ≤ gt l k ∧ gt l k ≤ 50000)) : ∀ n i, i ≤ k → k < i + n → (∀ j, i ≤ j → j < k → -50000 ≤ gt l j ∧ gt l j ≤ 50000) → fstN l n i = k
  | 0, i, h1, h2, _ => by omega
  | n + 1, i, h1, h2, h3 => by
    rw [fstN]
    by_cases hi : i = k
    · subst hi; rw [if_neg hb]
    · rw [if_pos (h3 i (Nat.le_refl _) (by omega))]
      exact fstN_yes hb n (i + 1) (by omega) (by omega) fun j hj => h3 j (by omega)
theorem fstN_no {l : List Int} : ∀ n i, (∀ j, i ≤ j → j < i + n → -50000 ≤ gt l j ∧ gt l j ≤ 50000) → fstN l n i = -1
  | 0, _, _ => rfl
  | n + 1, i, h => by rw [fstN, if_pos (h i (Nat.le_refl _) (by omega))]; exact fstN_no n (i + 1) fun j h1 h2 => h j (by omega) (by omega)
theorem fstBad_yes {l : List Int} {k : Nat} (hk : k < l.length) (ha : ∀ j, j < k → -50000 ≤ gt l j ∧ gt l j ≤ 50000) (hb : ¬ (-50000 ≤ gt l k ∧ gt l k ≤ 50000)) : fstBad l = k := fstN_yes hb _ 0 (Nat.zero_le _) (by omega) fun j _ => ha j
theorem fstBad_no {l : List Int} (ha : ∀ j, j < l.length → -50000 ≤ gt l j ∧ gt l j ≤ 50000) : fstBad l = -1 := fstN_no _ 0 fun j _ h => ha j (by omega)
theorem fstBad_iff (l : List Int) : 0 ≤ fstBad l ↔ ¬ lvlP l := by
  constructor
  · intro h hl; rw [fstBad_no hl] at h; omega
  · intro h
    have : ∃ k, k < l.length ∧ (∀ j, j < k → -50000 ≤ gt l j ∧ gt l j ≤ 50000) ∧ ¬ (-50000 ≤ gt l k ∧ gt l k ≤ 50000) := by
      apply Classical.byContradiction
      intro hn
      have : ∀ n, n ≤ l.length → ∀ j, j < n → -50000 ≤ gt l j ∧ gt l j ≤ 50000 := by
        intro n
        induction n with
        | zero => intro _ j hj; omega
        | succ n ih =>
          intro hl j hj
          rcases Nat.lt_succ_iff_lt_or_eq.1 hj with h1 | h1
          · exact ih (by omega) j h1
          · subst h1; exact Classical.byContradiction fun hb => hn ⟨j, by omega, ih (by omega), hb⟩
      exact h fun i hi => this _ (Nat.le_refl _) i hi
    obtain ⟨k, h1, h2, h3⟩ := this
    rw [fstBad_yes h1 h2 h3]; omega
end Go.Proofs.T10
/- Top: papers and points, in plain Lean. -/
namespace Go.Proofs.T10
open Go Go.Kx

theorem agg2i {a b c d : Int} (h1 : a = c) (h2 : b = d) : Value.agg #[.int .i64 a, .int .i64 b] = .agg #[.int .i64 c, .int .i64 d] := by rw [h1, h2]
theorem floor_yes {a b : Int} (hb : 0 < b) (h : a.tmod b < 0) : a.tdiv b - 1 = a / b := by
  have ha : a < 0 := Classical.byContradiction fun hn => by have := Int.tmod_nonneg b (show 0 ≤ a by omega); omega
  rw [Int.tdiv_eq_ediv, if_neg (fun hn => by
    rcases hn with h1 | h1
    · omega
    · have := Int.tmod_eq_zero_of_dvd h1; omega), Int.sign_eq_one_of_pos hb]
  omega
theorem floor_no {a b : Int} (h : ¬ a.tmod b < 0) : a.tdiv b = a / b := by
  rw [Int.tdiv_eq_ediv, if_pos (by
    by_cases h1 : 0 ≤ a
    · exact .inl h1
    · right
      apply Int.dvd_of_tmod_eq_zero
      have := Int.tmod_nonneg b (show 0 ≤ -a by omega)
      rw [Int.neg_tmod] at this
      omega)]
  omega
theorem tdiv_bd {a b B : Int} (h : -B ≤ a ∧ a ≤ B) : -B ≤ a.tdiv b ∧ a.tdiv b ≤ B := by
  have := Int.natAbs_tdiv_le_natAbs a b
  omega
theorem ediv_bd {a b B : Int} (h : -B ≤ a ∧ a ≤ B) (hb : 0 < b) (hB : 0 ≤ B) : -B ≤ a / b ∧ a / b ≤ B := by
  constructor
  · exact Int.le_ediv_of_mul_le hb (by
      have : -B * b ≤ -B * 1 := Int.mul_le_mul_of_nonpos_left (by omega) (by omega)
      omega)
  · exact Int.ediv_le_of_le_mul hb (by
      have : B * 1 ≤ B * b := Int.mul_le_mul_of_nonneg_left (by omega) hB
      omega)
def shrP (s : Span) : Prop := (900 ≤ s.Lo ∧ s.Lo ≤ s.Hi) ∧ s.Hi ≤ 1100
instance (s : Span) : Decidable (shrP s) := by unfold shrP; exact inferInstance
def paperP (p : Paper) : Prop := ((1 ≤ p.Pitch ∧ p.Pitch ≤ 10000) ∧ (1 ≤ p.Height ∧ p.Height ≤ 400000) ∧ (p.Radius = 0 ∨ (p.Height ≤ p.Radius ∧ p.Radius ≤ 4000000))) ∧ (0 ≤ p.Low ∧ p.Low < p.High ∧ p.High ≤ 12000 ∧ p.High - p.Low ≤ p.Height) ∧ (1 ≤ p.Columns ∧ p.Columns ≤ 200) ∧ shrP p.Along ∧ shrP p.Across
instance (p : Paper) : Decidable (paperP p) := by unfold paperP; exact inferInstance
def paperE (p : Paper) : Int := if paperP p then 0 else 10
theorem paperE_yes {p : Paper} (h : paperP p) : paperE p = 0 := if_pos h
theorem paperE_no {p : Paper} (h : ¬ paperP p) : paperE p = 10 := if_neg h
theorem paperP_of {p : Paper} (h : paperE p = 0) : paperP p := by
  unfold paperE at h; split at h
  · assumption
  · cases h
def pointP (t : Point) : Prop := (0 ≤ t.X ∧ t.X ≤ 400000) ∧ (0 ≤ t.Y ∧ t.Y ≤ 400000) ∧ (0 ≤ t.Half ∧ t.Half ≤ 5000)
instance (t : Point) : Decidable (pointP t) := by unfold pointP; exact inferInstance
def traceP (l : List Point) : Prop := ∀ i, i < l.length → pointP (gt l i)
instance (l : List Point) : Decidable (traceP l) := by unfold traceP; exact inferInstance
def traceE (l : List Point) : Int := if 2000 < l.length then 2 else if traceP l then 0 else 11
theorem traceE_big {l : List Point} (h : 2000 < l.length) : traceE l = 2 := if_pos h
theorem traceE_yes {l : List Point} (h : ¬ 2000 < l.length) (h1 : traceP l) : traceE l = 0 := by rw [traceE, if_neg h, if_pos h1]
theorem traceE_no {l : List Point} (h : ¬ 2000 < l.length) (h1 : ¬ traceP l) : traceE l = 11 := by rw [traceE, if_neg h, if_neg h1]
theorem traceE_of {l : List Point} (h : traceE l = 0) : l.length ≤ 2000 ∧ traceP l := by
  unfold traceE at h; split at h
  · cases h
  · split at h
    · exact ⟨by omega, by assumption⟩
    · cases h
def placesS (n half : Int) (s : Span) : Span := ⟨max 0 ((n - half) * 1000 / s.Hi), (n + half) * 1000 / s.Lo⟩
def arcI (f : Paper) (y : Int) : Int := if f.Radius = 0 then 0 else y * (f.Height - y) / (2 * f.Radius)
def levelI (f : Paper) (y : Int) : Int := f.Low + y * (f.High - f.Low) / f.Height
theorem arc_num {f : Paper} (h : paperP f) {y : Int} (hy : 0 ≤ y ∧ y ≤ f.Height) : 0 ≤ y * (f.Height - y) ∧ y * (f.Height - y) ≤ 160000000000 := by
  have hH := h.1.2.1
  refine ⟨Int.mul_nonneg hy.1 (by omega), ?_⟩
  have h1 : y * (f.Height - y) ≤ 400000 * (f.Height - y) := Int.mul_le_mul_of_nonneg_right (by omega) (by omega)
  omega
theorem arc_bd {f : Paper} (h : paperP f) {y : Int} (hy : 0 ≤ y ∧ y ≤ f.Height) : 0 ≤ arcI f y ∧ arcI f y ≤ 160000000000 := by
  have hn := arc_num h hy
  unfold arcI
  split
  · omega
  · have hr : 0 < 2 * f.Radius := by have := h.1; omega
    have h1 := ediv_bd (B := 160000000000) (by omega : -160000000000 ≤ y * (f.Height - y) ∧ y * (f.Height - y) ≤ 160000000000) hr (by omega)
    exact ⟨Int.ediv_nonneg hn.1 (by omega), h1.2⟩
theorem level_num {f : Paper} (h : paperP f) {y : Int} (hy : 0 ≤ y ∧ y ≤ f.Height) : 0 ≤ y * (f.High - f.Low) ∧ y * (f.High - f.Low) ≤ 4800000000 ∧ y * (f.High - f.Low) ≤ f.Height * (f.High - f.Low) := by
  have hH := h.1.2.1
  have hL := h.2.1
  refine ⟨Int.mul_nonneg hy.1 (by omega), ?_, Int.mul_le_mul_of_nonneg_right hy.2 (by omega)⟩
  have h1 : y * (f.High - f.Low) ≤ 400000 * (f.High - f.Low) := Int.mul_le_mul_of_nonneg_right (by omega) (by omega)
  omega
theorem level_q {f : Paper} (h : paperP f) {y : Int} (hy : 0 ≤ y ∧ y ≤ f.Height) : 0 ≤ y * (f.High - f.Low) / f.Height ∧ y * (f.High - f.Low) / f.Height ≤ f.High - f.Low := by
  have hn := level_num h hy
  have hH := h.1.2.1
  refine ⟨Int.ediv_nonneg hn.1 (by omega), ?_⟩
  have := Int.ediv_le_ediv (show 0 < f.Height by omega) hn.2.2
  rwa [Int.mul_ediv_cancel_left _ (by omega)] at this
theorem level_bd {f : Paper} (h : paperP f) {y : Int} (hy : 0 ≤ y ∧ y ≤ f.Height) : 0 ≤ levelI f y ∧ levelI f y ≤ 12000 := by
  have hq := level_q h hy
  have hL := h.2.1
  unfold levelI; omega
theorem places_bd {n half : Int} {s : Span} (hn : 0 ≤ n ∧ n ≤ 400000) (hh : 0 ≤ half ∧ half ≤ 5000) (hs : shrP s) : (0 ≤ (placesS n half s).Lo ∧ (placesS n half s).Lo ≤ 405000000) ∧ (0 ≤ (placesS n half s).Hi ∧ (placesS n half s).Hi ≤ 405000000) := by
  unfold shrP at hs
  have h1 := ediv_bd (a := (n - half) * 1000) (b := s.Hi) (B := 405000000) (by omega) (by omega) (by omega)
  have h2 := ediv_bd (a := (n + half) * 1000) (b := s.Lo) (B := 405000000) (by omega) (by omega) (by omega)
  have h3 : 0 ≤ (n + half) * 1000 / s.Lo := Int.ediv_nonneg (by omega) (by omega)
  unfold placesS; dsimp only
  omega
end Go.Proofs.T10
