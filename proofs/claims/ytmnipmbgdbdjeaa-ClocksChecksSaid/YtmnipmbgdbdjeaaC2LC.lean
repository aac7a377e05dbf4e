import Derived.Test.YtmnipmbgdbdjeaaC2LB
/- Clocks: columns that have passed, differences, ticks; in plain Lean. -/
namespace Go.Proofs.C2
open Go Go.Kx

/-! ### the last column that has passed -/
theorem cnt_le (l : List Int) (t : Int) : ∀ n, cntN l t n ≤ n
  | 0 => Nat.le_refl _
  | n + 1 => by have := cnt_le l t n; rw [cntN]; split <;> omega
theorem cnt_hit {l : List Int} {t : Int} : ∀ {n : Nat}, 0 < cntN l t n → gt l (cntN l t n - 1) ≤ t
  | 0, h => by simp [cntN] at h
  | n + 1, h => by
    rw [cntN] at h ⊢; split
    · rename_i h1; simpa using h1
    · rename_i h1; rw [if_neg h1] at h; exact cnt_hit h
theorem cnt_past {l : List Int} {t : Int} : ∀ {n i : Nat}, cntN l t n ≤ i → i < n → t < gt l i
  | 0, i, _, h => by omega
  | n + 1, i, h1, h2 => by
    rw [cntN] at h1; split at h1
    · omega
    · rename_i h3
      rcases Nat.lt_succ_iff_lt_or_eq.1 h2 with h4 | h4
      · exact cnt_past h1 h4
      · subst h4; omega
theorem cnt_eq {l : List Int} {t : Int} {n k : Nat} (hk : k ≤ n) (h1 : 0 < k → gt l (k - 1) ≤ t) (h2 : ∀ i, k ≤ i → i < n → t < gt l i) : cntN l t n = k := by
  rcases Nat.lt_trichotomy (cntN l t n) k with h | h | h
  · have h3 := cnt_past (l := l) (t := t) (n := n) (i := k - 1) (by omega) (by omega); have h4 := h1 (by omega); omega
  · exact h
  · have h3 := cnt_hit (l := l) (t := t) (n := n) (by omega); have h4 := cnt_le l t n; have h5 := h2 (cntN l t n - 1) (by omega) (by omega); omega
/-- a list that goes up: what binary search finds -/
theorem pas_found {l : List Int} {t : Int} {n : Nat} (hup : ∀ i, i + 1 < l.length → gt l i < gt l (i + 1)) (hn : n < l.length) (h : gt l n = t) : pasS l t = n := by
  have hmono : ∀ j i, i + j + 1 < l.length + 0 → i + j + 1 < l.length → gt l i < gt l (i + j + 1) := by
    intro j
    induction j with
    | zero => intro i _ h2; exact hup i h2
    | succ j ih => intro i h1 h2; have h3 := ih i (by omega) (by omega); have h4 := hup (i + j + 1) (by omega); rw [show i + (j + 1) + 1 = i + j + 1 + 1 by omega]; omega
  have : cntN l t l.length = n + 1 := cnt_eq (by omega) (fun _ => by rw [Nat.add_sub_cancel]; omega) (fun i h1 h2 => by
    have := hmono (i - n - 1) n (by omega) (by omega); rw [show n + (i - n - 1) + 1 = i by omega] at this; omega)
  unfold pasS; omega
theorem pas_none {l : List Int} {t : Int} {n : Nat} (hn : n ≤ l.length) (h1 : ∀ i, i < n → gt l i < t) (h2 : ∀ i, n ≤ i → i < l.length → t < gt l i) : pasS l t = (n : Int) - 1 := by
  have : cntN l t l.length = n := cnt_eq hn (fun h => by have := h1 (n - 1) (by omega); omega) h2
  unfold pasS; omega
theorem rd_up {d : Drum} (hd : drumP d) {m : List Mark} {x : Nat → Int} (h : RdD d m x) {i : Nat} (hi : i < d.Rates.length) : x i < x (i + 1) := by
  have h1 := h.2 i hi; have h2 := gapS_bd hd hi; omega
theorem keep_up {d : Drum} (hd : drumP d) {m : List Mark} {l : List Int} (h : keepP d m l) : ∀ i, i + 1 < l.length → gt l i < gt l (i + 1) := fun i hi => by
  have h1 := keepP_rd.1 h; exact rd_up hd h1.2 (by omega)
theorem los_up {d : Drum} (hd : drumP d) {m : List Mark} (ho : okD d m) : ∀ i, i + 1 < (losL (setD d m)).length → gt (losL (setD d m)) i < gt (losL (setD d m)) (i + 1) := keep_up hd (los_keep hd ho)
theorem his_up {d : Drum} (hd : drumP d) {m : List Mark} (ho : okD d m) : ∀ i, i + 1 < (hisL (setD d m)).length → gt (hisL (setD d m)) i < gt (hisL (setD d m)) (i + 1) := keep_up hd (his_keep hd ho)
/-! ### two columns -/
/-- the most that a column can be later than another one -/
def mosD (d : Drum) (m : List Mark) (a b : Nat) : Int := mos (gt (setC d m).gaps) (gt (setC d m).at_) (setC d m).gaps.length a b
theorem betS_val (d : Drum) (m : List Mark) (a b : Nat) : betS (setC d m) a b = ⟨- mosD d m b a, mosD d m a b⟩ := rfl
theorem mosD_rd {d : Drum} (hd : drumP d) {m : List Mark} (ho : okD d m) {a b : Nat} (ha : a ≤ d.Rates.length) (hb : b ≤ d.Rates.length) : ∃ x, RdD d m x ∧ x b - x a = mosD d m a b := by
  obtain ⟨x, hx, he⟩ := mos_rd (gap_ok hd) ho ha hb
  refine ⟨x, hx, he.trans ?_⟩
  have hn : (setC d m).gaps.length = d.Rates.length := gapL_len d
  unfold mosD mos
  rw [hn]
  refine (congrArg Span.Hi (st_congr (fun i hi => (gapL_at hi).symm) (fun i hi => ?_) hb))
  unfold mosA
  rw [show gt (setC d m).at_ i = stD d m i from setD_at hi, show gt (setC d m).at_ a = stD d m a from setD_at ha]
  rfl
theorem bet_bd {d : Drum} {m : List Mark} (h : Ok d m) (ho : okD d m) {a b : Nat} (ha : a ≤ d.Rates.length) (hb : b ≤ d.Rates.length) : (-400 ≤ mosD d m a b ∧ mosD d m a b ≤ 400) := by
  obtain ⟨x, hx, he⟩ := mosD_rd h.dr ho ha hb
  have h1 := hx.st ha; have h2 := hx.st hb
  have h3 := stD_bd h ho ha; have h4 := stD_bd h ho hb
  unfold stD at h3 h4
  omega
end Go.Proofs.C2
