import Derived.Test.YtednficclnjmjaaC8Cut
import Derived.Test.YtednficclnjmjaaC8Lin
/- Century: what the stable sort of the library leaves: the same values, in order of time; in plain Lean. -/
namespace Go.Proofs.C8
open Go Go.Kx

theorem cmpR_neg {x y : Int} : cmpR x y < 0 ↔ x < y := by unfold cmpR; split <;> (try split) <;> omega
/-- two values change places -/
def sw (R : List Val) (i j : Nat) : List Val := (R.set i (gt R j)).set j (gt R i)
theorem sw_len (R : List Val) (i j : Nat) : (sw R i j).length = R.length := by unfold sw; simp
theorem sw_at {R : List Val} {i j q : Nat} (hq : q < R.length) : gt (sw R i j) q = if j = q then gt R i else if i = q then gt R j else gt R q := by
  unfold sw
  rw [gt_set _ _ (by rw [List.length_set]; exact hq), gt_set _ _ hq]
theorem sw_perm {R : List Val} {i j : Nat} (hi : i < R.length) (hj : j < R.length) : (sw R i j).Perm R := by
  have ei : gt R i = R[i] := by have := gt_eq hi; rw [List.getElem?_eq_getElem hi] at this; exact (Option.some.inj this).symm
  have ej : gt R j = R[j] := by have := gt_eq hj; rw [List.getElem?_eq_getElem hj] at this; exact (Option.some.inj this).symm
  unfold sw
  rw [ei, ej]
  exact List.set_set_perm hi hj
/-- values change places within a segment only -/
structure Seg (L R : List Val) (a b : Nat) : Prop where
  len : R.length = L.length
  perm : R.Perm L
  out : ∀ q, q < L.length → (q < a ∨ b ≤ q) → gt R q = gt L q
  all : ∀ P : Val → Prop, (∀ q, a ≤ q → q < b → P (gt L q)) → ∀ q, a ≤ q → q < b → P (gt R q)
theorem Seg.refl (L : List Val) (a b : Nat) : Seg L L a b := ⟨rfl, .refl _, fun _ _ _ => rfl, fun _ h => h⟩
theorem Seg.trans {L R Q : List Val} {a b : Nat} (h : Seg L R a b) (h' : Seg R Q a b) : Seg L Q a b :=
  ⟨h'.len.trans h.len, h'.perm.trans h.perm, fun q hq ho => (h'.out q (by rw [h.len]; exact hq) ho).trans (h.out q hq ho), fun P hP => h'.all P (h.all P hP)⟩
theorem Seg.sw {L : List Val} {a b i j : Nat} (hi : a ≤ i ∧ i < b) (hj : a ≤ j ∧ j < b) (hb : b ≤ L.length) : Seg L (sw L i j) a b := by
  refine ⟨sw_len _ _ _, sw_perm (by omega) (by omega), fun q hq ho => ?_, fun P hP q h1 h2 => ?_⟩
  · rw [sw_at hq, if_neg (by omega), if_neg (by omega)]
  · rw [sw_at (by omega)]
    split
    · exact hP i hi.1 hi.2
    · split
      · exact hP j hj.1 hj.2
      · exact hP q h1 h2
theorem Seg.wide {L R : List Val} {a b a' b' : Nat} (h : Seg L R a b) (ha : a' ≤ a) (hb : b ≤ b') (hl : b' ≤ L.length) : Seg L R a' b' := by
  refine ⟨h.len, h.perm, fun q hq ho => h.out q hq (by omega), fun P hP q h1 h2 => ?_⟩
  by_cases hq : a ≤ q ∧ q < b
  · exact h.all P (fun r h3 h4 => hP r (by omega) (by omega)) q hq.1 hq.2
  · rw [h.out q (by omega) (by omega)]; exact hP q h1 h2
def Srt (R : List Val) (a b : Nat) : Prop := ∀ p q, a ≤ p → p < q → q < b → (gt R p).Time ≤ (gt R q).Time
theorem Srt.le {R : List Val} {a b : Nat} (h : Srt R a b) {p q : Nat} (h1 : a ≤ p) (h2 : p ≤ q) (h3 : q < b) : (gt R p).Time ≤ (gt R q).Time := by
  rcases Nat.lt_or_eq_of_le h2 with h4 | h4
  · exact h p q h1 h4 h3
  · subst h4; exact Int.le_refl _
theorem Srt.one (R : List Val) (a : Nat) : Srt R a (a + 1) := fun p q h1 h2 h3 => by omega
/-! ### insertion sort -/
structure InsI (L R : List Val) (a b i j : Nat) : Prop where
  seg : Seg L R a b
  bd : a ≤ j ∧ j ≤ i ∧ i < b
  srt : ∀ p q, a ≤ p → p < q → q ≤ i → p ≠ j → q ≠ j → (gt R p).Time ≤ (gt R q).Time
  at' : ∀ q, j < q → q ≤ i → (gt R j).Time ≤ (gt R q).Time
theorem ins_start {L R : List Val} {a b i : Nat} (h : Seg L R a b) (hs : Srt R a i) (hi : a ≤ i ∧ i < b) : InsI L R a b i i :=
  ⟨h, by omega, fun p q h1 h2 h3 _ h5 => hs p q h1 h2 (by omega), fun q h1 h2 => by omega⟩
theorem ins_step {L R : List Val} {a b i j : Nat} (h : InsI L R a b i j) (hb : b ≤ L.length) (ha : a < j) (hc : (gt R j).Time < (gt R (j - 1)).Time) : InsI L (sw R j (j - 1)) a b i (j - 1) := by
  have hbd := h.bd
  have hl := h.seg.len
  have e : ∀ q, q < R.length → gt (sw R j (j - 1)) q = if j - 1 = q then gt R j else if j = q then gt R (j - 1) else gt R q := fun q hq => sw_at hq
  refine ⟨h.seg.trans (Seg.sw (by omega) (by omega) (by omega)), by omega, fun p q h1 h2 h3 h4 h5 => ?_, fun q h1 h2 => ?_⟩
  · rw [e p (by omega), e q (by omega), if_neg (show ¬ j - 1 = p by omega), if_neg (show ¬ j - 1 = q by omega)]
    by_cases hp : j = p
    · rw [if_pos hp, if_neg (show ¬ j = q by omega)]
      exact h.srt (j - 1) q (by omega) (by omega) h3 (by omega) (by omega)
    · rw [if_neg hp]
      by_cases hq : j = q
      · rw [if_pos hq]; exact h.srt p (j - 1) h1 (by omega) (by omega) (by omega) (by omega)
      · rw [if_neg hq]; exact h.srt p q h1 h2 h3 (by omega) (by omega)
  · rw [e (j - 1) (by omega), e q (by omega), if_pos rfl, if_neg (by omega)]
    by_cases hq : j = q
    · rw [if_pos hq]; omega
    · rw [if_neg hq]; exact h.at' q (by omega) h2
theorem ins_end {L R : List Val} {a b i j : Nat} (h : InsI L R a b i j) (hc : a < j → ¬ (gt R j).Time < (gt R (j - 1)).Time) : Seg L R a b ∧ Srt R a (i + 1) := by
  have hbd := h.bd
  refine ⟨h.seg, fun p q h1 h2 h3 => ?_⟩
  by_cases hq : q = j
  · subst hq
    have h4 := hc (by omega)
    by_cases hp : p = q - 1
    · subst hp; omega
    · have := h.srt p (q - 1) h1 (by omega) (by omega) (by omega) (by omega); omega
  · by_cases hp : p = j
    · subst hp; exact h.at' q h2 (by omega)
    · exact h.srt p q h1 h2 (by omega) hp hq
/-! ### one value is put into a sorted segment -/
/-- the value of place a has gone up to place k -/
structure UpI (L R : List Val) (a b k : Nat) : Prop where
  seg : Seg L R a b
  bd : a ≤ k ∧ k < b
  lo : ∀ q, a ≤ q → q < k → gt R q = gt L (q + 1)
  at' : gt R k = gt L a
  hi : ∀ q, k < q → q < b → gt R q = gt L q
theorem up_start (L : List Val) {a b : Nat} (h : a < b) : UpI L L a b a := ⟨.refl _ _ _, by omega, fun q h1 h2 => by omega, rfl, fun _ _ _ => rfl⟩
theorem up_step {L R : List Val} {a b k : Nat} (h : UpI L R a b k) (hb : b ≤ L.length) (hk : k + 1 < b) : UpI L (sw R k (k + 1)) a b (k + 1) := by
  have hbd := h.bd
  have hl := h.seg.len
  have e : ∀ q, q < R.length → gt (sw R k (k + 1)) q = if k + 1 = q then gt R k else if k = q then gt R (k + 1) else gt R q := fun q hq => sw_at hq
  refine ⟨h.seg.trans (Seg.sw (by omega) (by omega) (by omega)), by omega, fun q h1 h2 => ?_, ?_, fun q h1 h2 => ?_⟩
  · rw [e q (by omega), if_neg (by omega)]
    by_cases hq : k = q
    · rw [if_pos hq, ← hq]; exact h.hi (k + 1) (by omega) hk
    · rw [if_neg hq]; exact h.lo q h1 (by omega)
  · rw [e (k + 1) (by omega), if_pos rfl]; exact h.at'
  · rw [e q (by omega), if_neg (by omega), if_neg (by omega)]; exact h.hi q (by omega) h2
theorem up_end {L R : List Val} {a b k i : Nat} (h : UpI L R a b k) (hs : Srt L (a + 1) b) (hi : a + 1 ≤ i ∧ i ≤ b) (hk : k + 1 = i) (h1 : ∀ q, a + 1 ≤ q → q < i → (gt L q).Time < (gt L a).Time) (h2 : ∀ q, i ≤ q → q < b → ¬ (gt L q).Time < (gt L a).Time) : Srt R a b := by
  intro p q hp hpq hq
  have hbd := h.bd
  rcases Nat.lt_or_ge p k with c1 | c1
  · rw [h.lo p hp c1]
    rcases Nat.lt_or_ge q k with c2 | c2
    · rw [h.lo q (by omega) c2]; exact hs.le (by omega) (by omega) (by omega)
    · rcases Nat.lt_or_eq_of_le c2 with c3 | c3
      · rw [h.hi q c3 hq]; exact hs.le (by omega) (by omega) hq
      · rw [← c3, h.at']; have := h1 (p + 1) (by omega) (by omega); omega
  · rcases Nat.lt_or_eq_of_le c1 with c3 | c3
    · rw [h.hi p c3 (by omega), h.hi q (by omega) hq]; exact hs.le (by omega) (by omega) hq
    · rw [← c3, h.at', h.hi q (by omega) hq]; have := h2 q (by omega) hq; omega
/-- the value of place m has gone down to place k -/
structure DnI (L R : List Val) (a m k : Nat) : Prop where
  seg : Seg L R a (m + 1)
  bd : a ≤ k ∧ k ≤ m
  lo : ∀ q, a ≤ q → q < k → gt R q = gt L q
  at' : gt R k = gt L m
  hi : ∀ q, k < q → q < m + 1 → gt R q = gt L (q - 1)
theorem dn_start (L : List Val) {a m : Nat} (h : a ≤ m) : DnI L L a m m := ⟨.refl _ _ _, by omega, fun _ _ _ => rfl, rfl, fun q h1 h2 => by omega⟩
theorem dn_step {L R : List Val} {a m k : Nat} (h : DnI L R a m k) (hb : m < L.length) (hk : a < k) : DnI L (sw R k (k - 1)) a m (k - 1) := by
  have hbd := h.bd
  have hl := h.seg.len
  have e : ∀ q, q < R.length → gt (sw R k (k - 1)) q = if k - 1 = q then gt R k else if k = q then gt R (k - 1) else gt R q := fun q hq => sw_at hq
  refine ⟨h.seg.trans (Seg.sw (by omega) (by omega) (by omega)), by omega, fun q h1 h2 => ?_, ?_, fun q h1 h2 => ?_⟩
  · rw [e q (by omega), if_neg (by omega), if_neg (by omega)]; exact h.lo q h1 (by omega)
  · rw [e (k - 1) (by omega), if_pos rfl]; exact h.at'
  · rw [e q (by omega), if_neg (by omega)]
    by_cases hq : k = q
    · rw [if_pos hq, ← hq]; exact h.lo (k - 1) (by omega) (by omega)
    · rw [if_neg hq]; exact h.hi q (by omega) h2
theorem dn_end {L R : List Val} {a m k : Nat} (h : DnI L R a m k) (hs : Srt L a m) (h1 : ∀ q, a ≤ q → q < k → ¬ (gt L m).Time < (gt L q).Time) (h2 : ∀ q, k ≤ q → q < m → (gt L m).Time < (gt L q).Time) : Srt R a (m + 1) := by
  intro p q hp hpq hq
  have hbd := h.bd
  rcases Nat.lt_or_ge p k with c1 | c1
  · rw [h.lo p hp c1]
    rcases Nat.lt_or_ge q k with c2 | c2
    · rw [h.lo q (by omega) c2]; exact hs.le (by omega) (by omega) (by omega)
    · rcases Nat.lt_or_eq_of_le c2 with c3 | c3
      · rw [h.hi q c3 hq]; exact hs.le (by omega) (by omega) (by omega)
      · rw [← c3, h.at']; have := h1 p hp c1; omega
  · rcases Nat.lt_or_eq_of_le c1 with c3 | c3
    · rw [h.hi p c3 (by omega), h.hi q (by omega) hq]; exact hs.le (by omega) (by omega) (by omega)
    · rw [← c3, h.at', h.hi q (by omega) hq]; have := h2 (q - 1) (by omega) (by omega); omega
/-! ### blocks that change places -/
/-- two blocks of n change places -/
def swQ (X : Nat → Val) (a b n q : Nat) : Val := if a ≤ q ∧ q < a + n then X (q - a + b) else if b ≤ q ∧ q < b + n then X (q - b + a) else X q
structure SwI (L R : List Val) (a b n : Nat) : Prop where
  len : R.length = L.length
  perm : R.Perm L
  at' : ∀ q, q < L.length → gt R q = swQ (gt L) a b n q
theorem sw_start (L : List Val) (a b : Nat) : SwI L L a b 0 := ⟨rfl, .refl _, fun q _ => by unfold swQ; rw [if_neg (by omega), if_neg (by omega)]⟩
theorem sw_step {L R : List Val} {a b i n : Nat} (h : SwI L R a b i) (hn : i < n) (hab : a + n ≤ b) (hb : b + n ≤ L.length) : SwI L (sw R (a + i) (b + i)) a b (i + 1) := by
  have hl := h.len
  refine ⟨by rw [sw_len]; exact hl, (sw_perm (by omega) (by omega)).trans h.perm, fun q hq => ?_⟩
  rw [sw_at (by omega), h.at' (a + i) (by omega), h.at' (b + i) (by omega), h.at' q hq]
  unfold swQ
  by_cases c1 : b + i = q
  · rw [if_pos c1, if_neg (by omega), if_neg (by omega), if_neg (by omega), if_pos (by omega)]; congr 1; omega
  · rw [if_neg c1]
    by_cases c2 : a + i = q
    · rw [if_pos c2, if_neg (by omega), if_neg (by omega), if_pos (by omega)]; congr 1; omega
    · rw [if_neg c2]
      by_cases c3 : a ≤ q ∧ q < a + i
      · rw [if_pos c3, if_pos (by omega)]
      · rw [if_neg c3]
        by_cases c4 : b ≤ q ∧ q < b + i
        · rw [if_pos c4, if_neg (by omega), if_pos (by omega)]
        · rw [if_neg c4, if_neg (by omega), if_neg (by omega)]
/-- two blocks beside each other change places -/
def rotQ (X : Nat → Val) (a m b q : Nat) : Val := if q < a ∨ b ≤ q then X q else if q < a + (b - m) then X (q + (m - a)) else X (q - (b - m))
structure RoI (L R : List Val) (a m b i j : Nat) : Prop where
  len : R.length = L.length
  perm : R.Perm L
  bd : (0 < i ∧ 0 < j) ∧ a ≤ m - i ∧ i ≤ m ∧ m + j ≤ b
  at' : ∀ q, q < L.length → rotQ (gt L) a m b q = rotQ (gt R) (m - i) m (m + j) q
theorem ro_start (L : List Val) {a m b : Nat} (h1 : a < m) (h2 : m < b) : RoI L L a m b (m - a) (b - m) :=
  ⟨rfl, .refl _, by omega, fun q _ => by rw [show m - (m - a) = a by omega, show m + (b - m) = b by omega]⟩
theorem ro_left {L R Q : List Val} {a m b i j : Nat} (h : RoI L R a m b i j) (hb : b ≤ L.length) (hij : j < i) (hs : SwI R Q (m - i) m j) : RoI L Q a m b (i - j) j := by
  have hl := h.len
  have hbd := h.bd
  refine ⟨hs.len.trans hl, hs.perm.trans h.perm, by omega, fun q hq => ?_⟩
  rw [h.at' q hq]
  have e : ∀ r, r < L.length → gt Q r = swQ (gt R) (m - i) m j r := fun r hr => hs.at' r (by omega)
  unfold rotQ
  by_cases c1 : q < m - i ∨ m + j ≤ q
  · rw [if_pos c1, if_pos (by omega), e q hq]
    unfold swQ; rw [if_neg (by omega), if_neg (by omega)]
  · rw [if_neg c1]
    by_cases c2 : q < m - i + (m + j - m)
    · rw [if_pos c2, if_pos (by omega), e q hq]
      unfold swQ; rw [if_pos (by omega)]; congr 1; omega
    · rw [if_neg c2, if_neg (by omega)]
      by_cases c3 : q < m - (i - j) + (m + j - m)
      · rw [if_pos c3, e _ (by omega)]
        unfold swQ; rw [if_neg (by omega), if_pos (by omega)]; congr 1; omega
      · rw [if_neg c3, e _ (by omega)]
        unfold swQ; rw [if_neg (by omega), if_neg (by omega)]
theorem ro_right {L R Q : List Val} {a m b i j : Nat} (h : RoI L R a m b i j) (hb : b ≤ L.length) (hij : i < j) (hs : SwI R Q (m - i) (m + j - i) i) : RoI L Q a m b i (j - i) := by
  have hl := h.len
  have hbd := h.bd
  refine ⟨hs.len.trans hl, hs.perm.trans h.perm, by omega, fun q hq => ?_⟩
  rw [h.at' q hq]
  have e : ∀ r, r < L.length → gt Q r = swQ (gt R) (m - i) (m + j - i) i r := fun r hr => hs.at' r (by omega)
  unfold rotQ
  by_cases c1 : q < m - i ∨ m + j ≤ q
  · rw [if_pos c1, if_pos (by omega), e q hq]
    unfold swQ; rw [if_neg (by omega), if_neg (by omega)]
  · by_cases c0 : m + (j - i) ≤ q
    · have e1 : rotQ (gt R) (m - i) m (m + j) q = gt R (q - j) := by
        unfold rotQ; rw [if_neg c1, if_neg (by omega)]; congr 1; omega
      have e2 : gt Q q = gt R (q - j) := by
        rw [e q hq]; unfold swQ; rw [if_neg (by omega), if_pos (by omega)]; congr 1; omega
      unfold rotQ at e1
      rw [e1, if_pos (by omega), e2]
    · have e1 : rotQ (gt R) (m - i) m (m + j) q = gt R (q + i) := by
        unfold rotQ; rw [if_neg c1, if_pos (by omega)]; congr 1; omega
      unfold rotQ at e1
      rw [e1, if_neg (by omega)]
      by_cases c2 : q < m - i + (m + (j - i) - m)
      · rw [if_pos c2, e _ (by omega)]
        unfold swQ; rw [if_neg (by omega), if_neg (by omega)]; congr 1; omega
      · rw [if_neg c2, e _ (by omega)]
        unfold swQ; rw [if_pos (by omega)]; congr 1; omega
structure RotR (L R : List Val) (a m b : Nat) : Prop where
  len : R.length = L.length
  perm : R.Perm L
  at' : ∀ q, q < L.length → gt R q = rotQ (gt L) a m b q
theorem ro_end {L R Q : List Val} {a m b i : Nat} (h : RoI L R a m b i i) (_hb : b ≤ L.length) (hs : SwI R Q (m - i) m i) : RotR L Q a m b := by
  have hl := h.len
  have hbd := h.bd
  refine ⟨hs.len.trans hl, hs.perm.trans h.perm, fun q hq => ?_⟩
  rw [h.at' q hq, hs.at' q (by omega)]
  unfold rotQ swQ
  by_cases c1 : q < m - i ∨ m + i ≤ q
  · rw [if_pos c1, if_neg (by omega), if_neg (by omega)]
  · rw [if_neg c1]
    by_cases c2 : q < m - i + (m + i - m)
    · rw [if_pos c2, if_pos (by omega)]; congr 1; omega
    · rw [if_neg c2, if_neg (by omega), if_pos (by omega)]; congr 1; omega
theorem rot_none (L : List Val) {a m b : Nat} (h : a ≤ m ∧ m ≤ b) (h' : a = m ∨ m = b) : RotR L L a m b := ⟨rfl, .refl _, fun q hq => by
  unfold rotQ
  by_cases c1 : q < a ∨ b ≤ q
  · rw [if_pos c1]
  · rw [if_neg c1]
    by_cases c2 : q < a + (b - m)
    · rw [if_pos c2]; congr 1; omega
    · rw [if_neg c2]; congr 1; omega⟩
/-! ### two sorted segments become one -/
/-- where the two segments are cut: all that comes first is at most what comes then -/
structure CutI (L : List Val) (a m b st en : Nat) : Prop where
  bd : (a ≤ st ∧ st ≤ m) ∧ m ≤ en ∧ en ≤ b
  ab : ∀ p q, a ≤ p → p < st → en ≤ q → q < b → (gt L p).Time ≤ (gt L q).Time
  ba : ∀ p q, m ≤ p → p < en → st ≤ q → q < m → (gt L p).Time ≤ (gt L q).Time
/-- the search for the cut; n: the sum of the two places; s0, r0: where it began -/
structure SeaI (L : List Val) (a m b n s0 r0 st r : Nat) : Prop where
  bd : s0 ≤ st ∧ st ≤ r ∧ r ≤ r0
  lo : ∀ c, s0 ≤ c → c < st → ¬ (gt L (n - 1 - c)).Time < (gt L c).Time
  hi : ∀ c, r ≤ c → c < r0 → (gt L (n - 1 - c)).Time < (gt L c).Time
structure SeaB (a m b n s0 r0 : Nat) : Prop where
  h : (a < m ∧ m < b) ∧ n = (a + b) / 2 + m
  c : (s0 = a ∧ r0 = m ∧ m ≤ (a + b) / 2) ∨ (s0 + b = n ∧ r0 = (a + b) / 2 ∧ (a + b) / 2 < m)
theorem sea_start {L : List Val} {a m b n s0 r0 : Nat} (h : s0 ≤ r0) : SeaI L a m b n s0 r0 s0 r0 := ⟨by omega, fun c h1 h2 => by omega, fun c h1 h2 => by omega⟩
theorem sea_up {L : List Val} {a m b n s0 r0 st r c : Nat} (hB : SeaB a m b n s0 r0) (h : SeaI L a m b n s0 r0 st r) (h1 : Srt L a m) (h2 : Srt L m b) (hc : st ≤ c ∧ c < r) (hx : ¬ (gt L (n - 1 - c)).Time < (gt L c).Time) : SeaI L a m b n s0 r0 (c + 1) r := by
  have hbd := h.bd; have b1 := hB.h; have b2 := hB.c
  refine ⟨by omega, fun d h3 h4 => ?_, h.hi⟩
  have e1 := h1.le (p := d) (q := c) (by omega) (by omega) (by omega)
  have e2 := h2.le (p := n - 1 - c) (q := n - 1 - d) (by omega) (by omega) (by omega)
  omega
theorem sea_dn {L : List Val} {a m b n s0 r0 st r c : Nat} (hB : SeaB a m b n s0 r0) (h : SeaI L a m b n s0 r0 st r) (h1 : Srt L a m) (h2 : Srt L m b) (hc : st ≤ c ∧ c < r) (hx : (gt L (n - 1 - c)).Time < (gt L c).Time) : SeaI L a m b n s0 r0 st c := by
  have hbd := h.bd; have b1 := hB.h; have b2 := hB.c
  refine ⟨by omega, h.lo, fun d h3 h4 => ?_⟩
  have e1 := h1.le (p := c) (q := d) (by omega) (by omega) (by omega)
  have e2 := h2.le (p := n - 1 - d) (q := n - 1 - c) (by omega) (by omega) (by omega)
  omega
theorem sea_end {L : List Val} {a m b n s0 r0 st r en : Nat} (hB : SeaB a m b n s0 r0) (h : SeaI L a m b n s0 r0 st r) (h1 : Srt L a m) (h2 : Srt L m b) (hr : ¬ st < r) (he : en + st = n) : CutI L a m b st en := by
  have hbd := h.bd; have b1 := hB.h; have b2 := hB.c
  refine ⟨by omega, fun p q h3 h4 h5 h6 => ?_, fun p q h3 h4 h5 h6 => ?_⟩
  · have e0 := h.lo (st - 1) (by omega) (by omega)
    have e1 := h1.le (p := p) (q := st - 1) h3 (by omega) (by omega)
    have e2 := h2.le (p := n - 1 - (st - 1)) (q := q) (by omega) (by omega) h6
    omega
  · have e0 := h.hi st (by omega) (by omega)
    have e1 := h1.le (p := st) (q := q) (by omega) (by omega) h6
    have e2 := h2.le (p := p) (q := n - 1 - st) h3 (by omega) (by omega)
    omega
/-- the four parts behind the rotation -/
structure FourI (L R : List Val) (a st mid en b : Nat) : Prop where
  seg : Seg L R a b
  bd : (a ≤ st ∧ st ≤ mid) ∧ mid ≤ en ∧ en ≤ b
  s1 : Srt R a st
  s2 : Srt R st mid
  s3 : Srt R mid en
  s4 : Srt R en b
  x : ∀ p q, a ≤ p → p < mid → mid ≤ q → q < b → (gt R p).Time ≤ (gt R q).Time
theorem four_of {L R : List Val} {a m b st en mid : Nat} (hc : CutI L a m b st en) (h1 : Srt L a m) (h2 : Srt L m b) (hb : b ≤ L.length) (hm : mid + m = st + en) (hr : RotR L R st m en) : FourI L R a st mid en b := by
  have hbd := hc.bd
  have e1 : ∀ q, a ≤ q → q < st → gt R q = gt L q := fun q _ h => by rw [hr.at' q (by omega)]; unfold rotQ; rw [if_pos (by omega)]
  have e2 : ∀ q, st ≤ q → q < mid → gt R q = gt L (q + (m - st)) := fun q _ h => by rw [hr.at' q (by omega)]; unfold rotQ; rw [if_neg (by omega), if_pos (by omega)]
  have e3 : ∀ q, mid ≤ q → q < en → gt R q = gt L (q - (en - m)) := fun q _ h => by rw [hr.at' q (by omega)]; unfold rotQ; rw [if_neg (by omega), if_neg (by omega)]
  have e4 : ∀ q, en ≤ q → q < L.length → gt R q = gt L q := fun q _ h => by rw [hr.at' q h]; unfold rotQ; rw [if_pos (by omega)]
  have ea : ∀ q, q < a → q < L.length → gt R q = gt L q := fun q _ h => by rw [hr.at' q h]; unfold rotQ; rw [if_pos (by omega)]
  refine ⟨⟨hr.len, hr.perm, fun q hq ho => ?_, fun P hP q h3 h4 => ?_⟩, by omega, fun p q h3 h4 h5 => ?_, fun p q h3 h4 h5 => ?_, fun p q h3 h4 h5 => ?_, fun p q h3 h4 h5 => ?_, fun p q h3 h4 h5 h6 => ?_⟩
  · rcases ho with ho | ho
    · exact ea q ho hq
    · exact e4 q (by omega) hq
  · rcases Nat.lt_or_ge q st with c1 | c1
    · rw [e1 q h3 c1]; exact hP q h3 h4
    · rcases Nat.lt_or_ge q mid with c2 | c2
      · rw [e2 q c1 c2]; exact hP _ (by omega) (by omega)
      · rcases Nat.lt_or_ge q en with c3 | c3
        · rw [e3 q c2 c3]; exact hP _ (by omega) (by omega)
        · rw [e4 q c3 (by omega)]; exact hP q h3 h4
  · rw [e1 p h3 (by omega), e1 q (by omega) h5]; exact h1.le h3 (by omega) (by omega)
  · rw [e2 p h3 (by omega), e2 q (by omega) h5]; exact h2.le (by omega) (by omega) (by omega)
  · rw [e3 p h3 (by omega), e3 q (by omega) h5]; exact h1.le (by omega) (by omega) (by omega)
  · rw [e4 p h3 (by omega), e4 q (by omega) (by omega)]; exact h2.le (by omega) (by omega) (by omega)
  · rcases Nat.lt_or_ge p st with c1 | c1
    · rw [e1 p h3 c1]
      rcases Nat.lt_or_ge q en with c3 | c3
      · rw [e3 q h5 c3]; exact h1.le h3 (by omega) (by omega)
      · rw [e4 q c3 (by omega)]; exact hc.ab p q h3 c1 c3 h6
    · rw [e2 p c1 h4]
      rcases Nat.lt_or_ge q en with c3 | c3
      · rw [e3 q h5 c3]; exact hc.ba _ _ (by omega) (by omega) (by omega) (by omega)
      · rw [e4 q c3 (by omega)]; exact h2.le (by omega) (by omega) h6
/-- the left half is sorted -/
structure HalfI (L R : List Val) (a mid en b : Nat) : Prop where
  seg : Seg L R a b
  bd : a ≤ mid ∧ mid ≤ en ∧ en ≤ b
  s1 : Srt R a mid
  s3 : Srt R mid en
  s4 : Srt R en b
  x : ∀ p q, a ≤ p → p < mid → mid ≤ q → q < b → (gt R p).Time ≤ (gt R q).Time
theorem half_of {L R Q : List Val} {a st mid en b : Nat} (h : FourI L R a st mid en b) (hb : b ≤ L.length) (hs : Seg R Q a mid) (h1 : Srt Q a mid) : HalfI L Q a mid en b := by
  have hbd := h.bd
  have hl := h.seg.len
  have e : ∀ q, mid ≤ q → q < b → gt Q q = gt R q := fun q h2 h3 => hs.out q (by omega) (by omega)
  refine ⟨h.seg.trans (hs.wide (Nat.le_refl _) (by omega) (by omega)), by omega, h1, fun p q h2 h3 h4 => ?_, fun p q h2 h3 h4 => ?_, fun p q h2 h3 h4 h5 => ?_⟩
  · rw [e p h2 (by omega), e q (by omega) (by omega)]; exact h.s3 p q h2 h3 h4
  · rw [e p (by omega) (by omega), e q (by omega) h4]; exact h.s4 p q h2 h3 h4
  · rw [e q h4 h5]
    exact hs.all (fun w => w.Time ≤ (gt R q).Time) (fun r h6 h7 => h.x r q h6 h7 h4 h5) p h2 h3
theorem half_same {L R : List Val} {a st mid en b : Nat} (h : FourI L R a st mid en b) (hn : ¬ (a < st ∧ st < mid)) : HalfI L R a mid en b := by
  have hbd := h.bd
  refine ⟨h.seg, by omega, ?_, h.s3, h.s4, h.x⟩
  rcases Nat.lt_or_ge a st with h1 | h1
  · have : st = mid := by omega
    subst this; exact h.s1
  · have : st = a := by omega
    subst this; exact h.s2
theorem whole_of {L R Q : List Val} {a mid en b : Nat} (h : HalfI L R a mid en b) (hb : b ≤ L.length) (hs : Seg R Q mid b) (h1 : Srt Q mid b) : Seg L Q a b ∧ Srt Q a b := by
  have hbd := h.bd
  have hl := h.seg.len
  have e : ∀ q, q < mid → gt Q q = gt R q := fun q h2 => hs.out q (by omega) (by omega)
  refine ⟨h.seg.trans (hs.wide (by omega) (Nat.le_refl _) (by omega)), fun p q h2 h3 h4 => ?_⟩
  rcases Nat.lt_or_ge p mid with c1 | c1
  · rw [e p c1]
    rcases Nat.lt_or_ge q mid with c2 | c2
    · rw [e q c2]; exact h.s1 p q h2 h3 c2
    · exact hs.all (fun w => (gt R p).Time ≤ w.Time) (fun r h6 h7 => h.x p r h2 c1 h6 h7) q c2 h4
  · exact h1 p q c1 h3 h4
theorem whole_same {L R : List Val} {a mid en b : Nat} (h : HalfI L R a mid en b) (hb : b ≤ L.length) (hn : ¬ (mid < en ∧ en < b)) : Seg L R a b ∧ Srt R a b := by
  have hbd := h.bd
  refine whole_of h hb (.refl _ _ _) ?_
  rcases Nat.lt_or_ge mid en with h1 | h1
  · have : en = b := by omega
    subst this; exact h.s3
  · have : en = mid := by omega
    subst this; exact h.s4
/-! ### blocks of a length are sorted -/
/-- from a on, all blocks of w up to n -/
inductive Chn (R : List Val) (w n : Nat) : Nat → Prop
  | stop {a : Nat} : n ≤ a → Chn R w n a
  | more {a : Nat} : Srt R a (min (a + w) n) → Chn R w n (a + w) → Chn R w n a
/-- from the first place on, all blocks of w up to a -/
inductive Pre (R : List Val) (w : Nat) : Nat → Prop
  | zero : Pre R w 0
  | more {a : Nat} : Pre R w a → Srt R a (a + w) → Pre R w (a + w)
theorem Srt.same {R Q : List Val} {a b : Nat} (h : Srt R a b) (e : ∀ q, a ≤ q → q < b → gt Q q = gt R q) : Srt Q a b := fun p q h1 h2 h3 => by
  rw [e p h1 (by omega), e q (by omega) h3]; exact h p q h1 h2 h3
theorem Srt.sub {R : List Val} {a b b' : Nat} (h : Srt R a b) (hb : b' ≤ b) : Srt R a b' := fun p q h1 h2 h3 => h p q h1 h2 (by omega)
theorem Chn.same {R Q : List Val} {w n a : Nat} (h : Chn R w n a) : (∀ q, a ≤ q → q < n → gt Q q = gt R q) → Chn Q w n a := by
  induction h with
  | stop h1 => exact fun _ => .stop h1
  | more h1 _ ih => exact fun e => .more (h1.same fun q h2 h3 => e q h2 (by omega)) (ih fun q h2 h3 => e q (by omega) h3)
theorem Pre.same {R Q : List Val} {w a : Nat} (h : Pre R w a) : (∀ q, q < a → gt Q q = gt R q) → Pre Q w a := by
  induction h with
  | zero => exact fun _ => .zero
  | more _ h1 ih => exact fun e => .more (ih fun q h2 => e q (by omega)) (h1.same fun q _ h3 => e q h3)
theorem Chn.first {R : List Val} {w n a : Nat} (h : Chn R w n a) (ha : a < n) : Srt R a (min (a + w) n) ∧ Chn R w n (a + w) := by
  cases h with
  | stop h1 => omega
  | more h1 h2 => exact ⟨h1, h2⟩
theorem Pre.chn {R : List Val} {w n a : Nat} (h : Pre R w a) : Chn R w n a → Chn R w n 0 := by
  induction h with
  | zero => exact id
  | more _ h1 ih => exact fun hc => ih (.more (h1.sub (by omega)) hc)
theorem chn_done {R : List Val} {w n : Nat} (h : Chn R w n 0) (hw : ¬ w < n) : Srt R 0 n := by
  rcases Nat.eq_zero_or_pos n with h0 | h0
  · subst h0; intro p q _ _ h3; omega
  · have := (h.first h0).1
    rwa [Nat.min_eq_right (by omega)] at this
theorem chn_last {R : List Val} {w n a : Nat} (h : Srt R a n) (hn : n < a + w) : Chn R w n a := .more (h.sub (by omega)) (.stop (by omega))
/-- insertion sorts of blocks -/
structure BlI (L R : List Val) (n a : Nat) : Prop where
  seg : Seg L R 0 n
  le : a ≤ n
  pre : Pre R 20 a
theorem bl_start (L : List Val) (n : Nat) : BlI L L n 0 := ⟨.refl _ _ _, Nat.zero_le _, .zero⟩
theorem bl_step {L R Q : List Val} {n a : Nat} (h : BlI L R n a) (hn : n = L.length) (hb : a + 20 ≤ n) (hs : Seg R Q a (a + 20)) (h1 : Srt Q a (a + 20)) : BlI L Q n (a + 20) := by
  have hl := h.seg.len
  exact ⟨h.seg.trans (hs.wide (Nat.zero_le _) hb (by omega)), hb, .more (h.pre.same fun q hq => hs.out q (by omega) (by omega)) h1⟩
theorem bl_end {L R Q : List Val} {n a : Nat} (h : BlI L R n a) (hn : n = L.length) (hb : n < a + 20) (hs : Seg R Q a n) (h1 : Srt Q a n) : Seg L Q 0 n ∧ Chn Q 20 n 0 := by
  have hl := h.seg.len
  have hle := h.le
  exact ⟨h.seg.trans (hs.wide (Nat.zero_le _) (Nat.le_refl _) (by omega)), (h.pre.same fun q hq => hs.out q (by omega) (by omega)).chn (chn_last h1 hb)⟩
/-- merges of pairs of blocks -/
structure MeI (L R : List Val) (n w a : Nat) : Prop where
  seg : Seg L R 0 n
  le : a ≤ n
  pre : Pre R (2 * w) a
  chn : Chn R w n a
theorem me_start {L R : List Val} {n w : Nat} (h : Seg L R 0 n) (hc : Chn R w n 0) : MeI L R n w 0 := ⟨h, Nat.zero_le _, .zero, hc⟩
theorem me_two {L R : List Val} {n w a : Nat} (h : MeI L R n w a) (_hw : 0 < w) {b : Nat} (hb : a + w < b) (hbn : b ≤ n) (hb2 : b ≤ a + 2 * w) : Srt R a (a + w) ∧ Srt R (a + w) b := by
  obtain ⟨h1, h2⟩ := h.chn.first (by omega)
  obtain ⟨h3, _⟩ := h2.first (by omega)
  exact ⟨h1.sub (by omega), h3.sub (by omega)⟩
theorem me_step {L R Q : List Val} {n w a : Nat} (h : MeI L R n w a) (hn : n = L.length) (_hw : 0 < w) (hb : a + 2 * w ≤ n) (hs : Seg R Q a (a + 2 * w)) (h1 : Srt Q a (a + 2 * w)) : MeI L Q n w (a + 2 * w) := by
  have hl := h.seg.len
  have h2 := (h.chn.first (by omega)).2
  have h3 := (h2.first (by omega)).2
  rw [show a + w + w = a + 2 * w by omega] at h3
  exact ⟨h.seg.trans (hs.wide (Nat.zero_le _) hb (by omega)), hb, .more (h.pre.same fun q hq => hs.out q (by omega) (by omega)) h1, h3.same fun q hq hqn => hs.out q (by omega) (by omega)⟩
theorem me_end {L R Q : List Val} {n w a : Nat} (h : MeI L R n w a) (hn : n = L.length) (hb : n < a + 2 * w) (hs : Seg R Q a n) (h1 : Srt Q a n) : Seg L Q 0 n ∧ Chn Q (w * 2) n 0 := by
  have hl := h.seg.len
  have hle := h.le
  rw [Nat.mul_comm w 2]
  exact ⟨h.seg.trans (hs.wide (Nat.zero_le _) (Nat.le_refl _) (by omega)), (h.pre.same fun q hq => hs.out q (by omega) (by omega)).chn (chn_last h1 hb)⟩
theorem me_rest {L R : List Val} {n w a : Nat} (h : MeI L R n w a) (hb : ¬ a + w < n) : Srt R a n := by
  have hle := h.le
  rcases Nat.lt_or_eq_of_le hle with h0 | h0
  · have := (h.chn.first h0).1
    rwa [Nat.min_eq_right (by omega)] at this
  · subst h0; intro p q h1 h2 h3; omega
end Go.Proofs.C8
