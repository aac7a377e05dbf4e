import Derived.Test.YtooomcigmleneaaGreatKxW
import Derived.Test.YtooomcigmleneaaGreatKxV
import Derived.Test.YtooomcigmleneaaGreatKxN
import Derived.Test.YtooomcigmleneaaGreatKxO
/- Top: a pen that sticks, over lists of numbers; in plain Lean. -/
namespace Go.Proofs.T10
open Go Go.Kx

def clampN (b s r : Int) : Int := min (max s (r - b)) (r + b)
theorem clamp_mono {b s t r : Int} (h : s ≤ t) : clampN b s r ≤ clampN b t r := by unfold clampN; omega
def loN (b : Int) (L : List Int) : Nat → Int
  | 0 => gt L 0 - b
  | n + 1 => clampN b (loN b L n) (gt L (n + 1))
def hiN (b : Int) (L : List Int) : Nat → Int
  | 0 => gt L 0 + b
  | n + 1 => clampN b (hiN b L n) (gt L (n + 1))
def mnN (L : List Int) : Nat → Int
  | 0 => gt L 0
  | n + 1 => min (mnN L n) (gt L (n + 1))
def mxN (L : List Int) : Nat → Int
  | 0 => gt L 0
  | n + 1 => max (mxN L n) (gt L (n + 1))
theorem mn_le_mx (L : List Int) : ∀ n, mnN L n ≤ mxN L n
  | 0 => Int.le_refl _
  | n + 1 => by have := mn_le_mx L n; rw [mnN, mxN]; omega
theorem pen_inv {b : Int} (hb : 0 ≤ b) (L : List Int) : ∀ n, (loN b L n < hiN b L n ∧ loN b L n = mxN L n - b ∧ hiN b L n = mnN L n + b) ∨ (loN b L n = hiN b L n ∧ 2 * b ≤ mxN L n - mnN L n)
  | 0 => by rw [loN, hiN, mxN, mnN]; omega
  | n + 1 => by
    have ih := pen_inv hb L n
    have hm := mn_le_mx L n
    rw [loN, hiN, mxN, mnN]
    unfold clampN
    omega
theorem pen_swing {b : Int} (hb : 0 ≤ b) (L : List Int) (n : Nat) : loN b L n = hiN b L n ↔ 2 * b ≤ mxN L n - mnN L n := by
  have := pen_inv hb L n; omega
theorem pen_stays {b : Int} {L : List Int} {i : Nat} (h : loN b L i = hiN b L i) : ∀ j, i ≤ j → loN b L j = hiN b L j
  | 0, hij => by obtain rfl : i = 0 := by omega
                 exact h
  | j + 1, hij => by
    rcases Nat.lt_or_ge j i with h1 | h1
    · obtain rfl : i = j + 1 := by omega
      exact h
    · rw [loN, hiN, pen_stays h j h1]
structure ShownN (b : Int) (L D : List Int) (n : Nat) : Prop where
  first : gt L 0 - b ≤ gt D 0 ∧ gt D 0 ≤ gt L 0 + b
  next : ∀ i, i < n → gt D (i + 1) = clampN b (gt D i) (gt L (i + 1))
theorem shown_between {b : Int} {L D : List Int} {n : Nat} (h : ShownN b L D n) : ∀ i, i ≤ n → loN b L i ≤ gt D i ∧ gt D i ≤ hiN b L i
  | 0, _ => h.first
  | i + 1, hi => by
    have ih := shown_between h i (by omega)
    rw [h.next i (by omega), loN, hiN]
    exact ⟨clamp_mono ih.1, clamp_mono ih.2⟩
theorem shown_same {b : Int} {L D E : List Int} {n i : Nat} (h : ShownN b L D n) (h' : ShownN b L E n) (hi : i ≤ n) (he : loN b L i = hiN b L i) : gt D i = gt E i := by
  have h1 := shown_between h i hi
  have h2 := shown_between h' i hi
  omega
def isFrom (b : Int) (L : List Int) (k : Nat) : Prop := loN b L k = hiN b L k ∧ ∀ j, j < k → ¬ loN b L j = hiN b L j
theorem from_iff {b : Int} (hb : 0 ≤ b) {L : List Int} {k t : Nat} (h : isFrom b L k) : k ≤ t ↔ 2 * b ≤ mxN L t - mnN L t := by
  rw [← pen_swing hb]
  constructor
  · intro hk; exact pen_stays h.1 t hk
  · intro ht; exact Classical.byContradiction fun hn => h.2 t (by omega) ht
end Go.Proofs.T10
/- Top: what sorting leaves: the same elements, in order of a key; in plain Lean. -/
namespace Go.Proofs.T10
open Go Go.Kx

section
variable {α : Type} [Inhabited α]
theorem mem_gt0 {L : List α} {i : Nat} (hi : i < L.length) : gt L i ∈ L := List.mem_of_getElem? (gt_eq hi)
theorem gt_mem0 {L : List α} {x : α} (h : x ∈ L) : ∃ i, i < L.length ∧ gt L i = x := by
  obtain ⟨i, hi, rfl⟩ := List.mem_iff_getElem.1 h
  exact ⟨i, hi, by have := gt_eq hi; rw [List.getElem?_eq_getElem hi] at this; exact (Option.some.inj this).symm⟩
theorem gt_set' (L : List α) {i q : Nat} (v : α) (hq : q < L.length) : gt (L.set i v) q = if i = q then v else gt L q := by
  simp only [gt, List.getD, List.getElem?_set]
  split
  · rename_i h; subst h; simp [hq]
  · rfl
def sw (R : List α) (i j : Nat) : List α := (R.set i (gt R j)).set j (gt R i)
theorem sw_len (R : List α) (i j : Nat) : (sw R i j).length = R.length := by unfold sw; simp
theorem sw_at {R : List α} {i j q : Nat} (hq : q < R.length) : gt (sw R i j) q = if j = q then gt R i else if i = q then gt R j else gt R q := by
  unfold sw
  rw [gt_set' _ _ (by rw [List.length_set]; exact hq), gt_set' _ _ hq]
theorem sw_perm {R : List α} {i j : Nat} (hi : i < R.length) (hj : j < R.length) : (sw R i j).Perm R := by
  have ei : gt R i = R[i] := by have := gt_eq hi; rw [List.getElem?_eq_getElem hi] at this; exact (Option.some.inj this).symm
  have ej : gt R j = R[j] := by have := gt_eq hj; rw [List.getElem?_eq_getElem hj] at this; exact (Option.some.inj this).symm
  unfold sw
  rw [ei, ej]
  exact List.set_set_perm hi hj
theorem pm_sw {L R : List α} {i j : Nat} (h : R.Perm L) (hi : i < L.length) (hj : j < L.length) : (sw R i j).Perm L := (sw_perm (by rw [h.length_eq]; exact hi) (by rw [h.length_eq]; exact hj)).trans h
variable (key : α → Int)
def Srt (R : List α) (a b : Nat) : Prop := ∀ p q, a ≤ p → p < q → q < b → key (gt R p) ≤ key (gt R q)
theorem Srt.one (R : List α) (a : Nat) : Srt key R a (a + 1) := fun p q h1 h2 h3 => by omega
structure InsI (L R : List α) (a i j : Nat) : Prop where
  perm : R.Perm L
  bd : a ≤ j ∧ j ≤ i ∧ i < L.length
  srt : ∀ p q, a ≤ p → p < q → q ≤ i → p ≠ j → q ≠ j → key (gt R p) ≤ key (gt R q)
  at' : ∀ q, j < q → q ≤ i → key (gt R j) ≤ key (gt R q)
variable {key}
theorem ins_start {L R : List α} {a i : Nat} (h : R.Perm L) (hs : Srt key R a i) (hi : a ≤ i ∧ i < L.length) : InsI key L R a i i :=
  ⟨h, by omega, fun p q h1 h2 h3 _ h5 => hs p q h1 h2 (by omega), fun q h1 h2 => by omega⟩
theorem ins_step {L R : List α} {a i j : Nat} (h : InsI key L R a i j) (ha : a < j) (hc : key (gt R j) < key (gt R (j - 1))) : InsI key L (sw R j (j - 1)) a i (j - 1) := by
  have hbd := h.bd
  have hl := h.perm.length_eq
  have e : ∀ q, q < R.length → gt (sw R j (j - 1)) q = if j - 1 = q then gt R j else if j = q then gt R (j - 1) else gt R q := fun q hq => sw_at hq
  refine ⟨pm_sw h.perm (by omega) (by omega), by omega, fun p q h1 h2 h3 h4 h5 => ?_, fun q h1 h2 => ?_⟩
  · rw [e p (by omega), e q (by omega), if_neg (show ¬ j - 1 = p by omega), if_neg (show ¬ j - 1 = q by omega)]
    by_cases hp : j = p
    · rw [if_pos hp, if_neg (show ¬ j = q by omega)]
      exact h.srt (j - 1) q (by omega) (by omega) h3 (by omega) (by omega)
    · rw [if_neg hp]
      by_cases hq : j = q
      · rw [if_pos hq]; exact h.srt p (j - 1) h1 (by omega) (by omega) (by omega) (by omega)
      · rw [if_neg hq]; exact h.srt p q h1 h2 h3 (by omega) (by omega)
  · rw [e (j - 1) (by omega), e q (by omega), if_pos rfl, if_neg (by omega)]
    by_cases hq : j = q
    · rw [if_pos hq]; omega
    · rw [if_neg hq]; exact h.at' q (by omega) h2
theorem ins_end {L R : List α} {a i j : Nat} (h : InsI key L R a i j) (hc : a < j → ¬ key (gt R j) < key (gt R (j - 1))) : R.Perm L ∧ Srt key R a (i + 1) := by
  have hbd := h.bd
  refine ⟨h.perm, fun p q h1 h2 h3 => ?_⟩
  by_cases hq : q = j
  · subst hq
    have h4 := hc (by omega)
    by_cases hp : p = q - 1
    · subst hp; omega
    · have := h.srt p (q - 1) h1 (by omega) (by omega) (by omega) (by omega); omega
  · by_cases hp : p = j
    · subst hp; exact h.at' q h2 (by omega)
    · exact h.srt p q h1 h2 (by omega) hp hq
end
theorem perm_sum {A C : List Int} (h : A.Perm C) : A.foldr (· + ·) 0 = C.foldr (· + ·) 0 := by
  induction h with
  | nil => rfl
  | cons x _ ih => simp only [List.foldr_cons, ih]
  | swap x y l => simp only [List.foldr_cons]; omega
  | trans _ _ h1 h2 => exact h1.trans h2
theorem mid_three {x y z : Int} {R : List Int} (hp : R.Perm [x, y, z]) (hs : Srt id R 0 3) : gt R 1 = max (min x y) (min (max x y) z) := by
  have hl := hp.length_eq
  obtain ⟨a, b, c, rfl⟩ : ∃ a b c, R = [a, b, c] := by
    match R, hl with
    | [a, b, c], _ => exact ⟨a, b, c, rfl⟩
  have h1 := hs 0 1 (by omega) (by omega) (by omega)
  have h2 := hs 1 2 (by omega) (by omega) (by omega)
  simp only [gt, List.getD, id] at h1 h2
  show b = _
  replace h1 : a ≤ b := h1
  replace h2 : b ≤ c := h2
  have m : ∀ t : Int, t ∈ [a, b, c] ↔ t ∈ [x, y, z] := fun t => hp.mem_iff
  have s : a + b + c = x + y + z := by
    have := perm_sum hp
    simp only [List.foldr_cons, List.foldr_nil] at this; omega
  have hx := (m x).2 (by simp)
  have hy := (m y).2 (by simp)
  have hz := (m z).2 (by simp)
  have ha := (m a).1 (by simp)
  have hb := (m b).1 (by simp)
  have hc := (m c).1 (by simp)
  simp only [List.mem_cons, List.not_mem_nil, or_false] at hx hy hz ha hb hc
  omega
end Go.Proofs.T10
