import Derived.Test.YtmnipmbgdbdjeaaC2LN
/- Clocks: what the reference computes, in plain Lean. -/
namespace Go.Proofs.C2
open Go Go.Kx

structure ValP (d : Drum) (m : List Mark) : Prop where
  dr : drumP d
  ma : ∀ j, j < m.length → ¬ markB d m j
theorem Ok.val {d : Drum} {m : List Mark} (h : Ok d m) : ValP d m := ⟨h.dr, h.ma⟩
theorem ValP.col {d : Drum} {m : List Mark} (h : ValP d m) {j : Nat} (hj : j < m.length) : (0 ≤ (gt m j).Column ∧ (gt m j).Column ≤ (d.Rates.length : Int)) ∧ spOk (gt m j).Ticks 0 400 := Decidable.of_not_not (h.ma j hj)
theorem ValP.w {d : Drum} {m : List Mark} (h : ValP d m) : CkW ⟨gapL d, atL d m⟩ := by
  refine ⟨by rw [gapL_len, atL_len], by rw [gapL_len]; exact h.dr.1.1.2, fun i hi => ?_, fun i hi => ?_⟩
  · rw [gapL_len] at hi; rw [gapL_at hi]; exact gapS_bd h.dr hi
  · rw [atL_len] at hi; rw [atL_at (by omega)]; exact atN_bd h.ma i _ (Nat.le_refl _)
theorem ValP.app {d : Drum} {m : List Mark} (h : ValP d m) {x : Mark} (hx : (0 ≤ x.Column ∧ x.Column ≤ (d.Rates.length : Int)) ∧ spOk x.Ticks 0 400) : ValP d (m ++ [x]) := by
  refine ⟨h.dr, fun j hj hb => ?_⟩
  rcases List.mem_append.1 (gt_mem hj) with h1 | h1
  · obtain ⟨i, hi, he⟩ := mem_gt h1
    exact h.ma i hi (by unfold markB at hb ⊢; rw [he]; exact hb)
  · unfold markB at hb; rw [List.mem_singleton.1 h1] at hb; exact hb hx
theorem ValP.one {d : Drum} {m : List Mark} (h : ValP d m) {a t : Int} (ha : 0 ≤ a ∧ a ≤ (d.Rates.length : Int)) (ht : 0 ≤ t ∧ t ≤ 400) : ValP d (m ++ [⟨a, ⟨t, t⟩⟩]) := h.app ⟨ha, by unfold spOk; (try dsimp only); omega⟩
def spR (d : Drum) (m : List Mark) : List Span × Bool := if okD d m then (setD d m, true) else ([], false)
theorem spR_yes {d : Drum} {m : List Mark} (h : okD d m) : spR d m = (setD d m, true) := if_pos h
theorem spR_no {d : Drum} {m : List Mark} (h : ¬ okD d m) : spR d m = ([], false) := if_neg h
theorem spR_true {d : Drum} {m : List Mark} (h : (spR d m).2 = true) : okD d m ∧ (spR d m).1 = setD d m := by
  by_cases ho : okD d m
  · exact ⟨ho, by rw [spR_yes ho]⟩
  · rw [spR_no ho] at h; cases h
theorem spR_false {d : Drum} {m : List Mark} (h : (spR d m).2 = false) : ¬ okD d m := fun ho => by rw [spR_yes ho] at h; cases h
theorem okD_all {d : Drum} {m : List Mark} : okD d m ↔ ∀ i, i < d.Rates.length + 1 → ¬ (gt (setD d m) i).Hi < (gt (setD d m) i).Lo := by
  rw [← okC_clock, ok_all, setL_clock, setD_len]
def flL (n k : Nat) : List Span := (List.range n).map fun j => if j < k then ⟨0, 400⟩ else ⟨0, 0⟩
theorem flL_len (n k : Nat) : (flL n k).length = n := map_len _ _
theorem flL_zero (n : Nat) : List.replicate n (⟨0, 0⟩ : Span) = flL n 0 := by rw [rep_map]; exact map_congr fun j _ => by rw [if_neg (Nat.not_lt_zero _)]
theorem flL_step {n k : Nat} : (flL n k).set k ⟨0, 400⟩ = flL n (k + 1) := by
  refine eq_map (by simp [flL_len]) fun j hj => ?_
  rw [gt_set _ _ (by rw [flL_len]; omega)]
  by_cases hc : k = j
  · subst hc; rw [if_pos rfl, if_pos (by omega)]
  · rw [if_neg hc, flL, gt_map hj]
    by_cases h2 : j < k
    · rw [if_pos h2, if_pos (by omega)]
    · rw [if_neg h2, if_neg (by omega)]
theorem flL_last (m : List Mark) (n : Nat) : flL n n = (List.range n).map (fun c => atN m 0 c) := map_congr fun j hj => by rw [if_pos hj]; rfl
/-- both ends -/
def endL (l : List Span) (late : Bool) : List Int := if late = true then hisL l else losL l
theorem end_hi (l : List Span) : endL l true = hisL l := if_pos rfl
theorem end_lo (l : List Span) : endL l false = losL l := if_neg (by decide)
def tolR (d : Drum) (m : List Mark) : List Span × Int := if chkE d m ≠ 0 then ([], chkE d m) else if okD d m then (setD d m, 0) else ([], 22)
theorem tolR_bad {d : Drum} {m : List Mark} (h : chkE d m ≠ 0) : tolR d m = ([], chkE d m) := if_pos h
theorem tolR_yes {d : Drum} {m : List Mark} (h : chkE d m = 0) (ho : okD d m) : tolR d m = (setD d m, 0) := by rw [tolR, if_neg (by omega), if_pos ho]
theorem tolR_no {d : Drum} {m : List Mark} (h : chkE d m = 0) (ho : ¬ okD d m) : tolR d m = ([], 22) := by rw [tolR, if_neg (by omega), if_neg ho]
theorem tol_zero {d : Drum} {m : List Mark} (h : (tolR d m).2 = 0) : Ok d m ∧ okD d m ∧ (tolR d m).1 = setD d m := by
  by_cases h0 : chkE d m = 0
  · by_cases ho : okD d m
    · exact ⟨Ok.of h0, ho, by rw [tolR_yes h0 ho]⟩
    · rw [tolR_no h0 ho] at h; cases h
  · rw [tolR_bad h0] at h; exact absurd h h0
theorem tol_err {d : Drum} {m : List Mark} (cs ts : List Int) (ha : argP d cs ts) : (tolR d m).2 = openE d m cs ts := by
  by_cases h0 : chkE d m = 0
  · by_cases ho : okD d m
    · rw [tolR_yes h0 ho, openE_ok h0 ha ho]
    · rw [tolR_no h0 ho, openE_time h0 ha ho]
  · rw [tolR_bad h0, openE_bad h0]
theorem tol_nil {d : Drum} {m : List Mark} (h : (tolR d m).2 ≠ 0) : (tolR d m).1 = [] := by
  by_cases h0 : chkE d m = 0
  · by_cases ho : okD d m
    · rw [tolR_yes h0 ho] at h; exact absurd rfl h
    · rw [tolR_no h0 ho]
  · rw [tolR_bad h0]
def colE (d : Drum) (m : List Mark) (a b : Int) : Int := if chkE d m = 0 ∧ ¬ ((0 ≤ a ∧ a ≤ (d.Rates.length : Int)) ∧ 0 ≤ b ∧ b ≤ (d.Rates.length : Int)) then 1 else chkE d m
theorem colE_arg {d : Drum} {m : List Mark} {a b : Int} (h : chkE d m = 0) (h1 : ¬ ((0 ≤ a ∧ a ≤ (d.Rates.length : Int)) ∧ 0 ≤ b ∧ b ≤ (d.Rates.length : Int))) : colE d m a b = 1 := if_pos ⟨h, h1⟩
theorem colE_bad {d : Drum} {m : List Mark} {a b : Int} (h : chkE d m ≠ 0) : colE d m a b = chkE d m := if_neg (fun h1 => h h1.1)
theorem colE_ok {d : Drum} {m : List Mark} {a b : Int} (h : chkE d m = 0) (h1 : (0 ≤ a ∧ a ≤ (d.Rates.length : Int)) ∧ 0 ≤ b ∧ b ≤ (d.Rates.length : Int)) : colE d m a b = 0 := by rw [colE, if_neg (fun h2 => h2.2 h1)]; exact h
theorem col_zero {d : Drum} {m : List Mark} {a b : Int} (h : colE d m a b = 0) : Ok d m ∧ (0 ≤ a ∧ a ≤ (d.Rates.length : Int)) ∧ 0 ≤ b ∧ b ≤ (d.Rates.length : Int) := by
  unfold colE at h; split at h
  · cases h
  · rename_i h1; exact ⟨Ok.of h, Decidable.of_not_not fun h2 => h1 ⟨h, h2⟩⟩
theorem col_one2 {d : Drum} {m : List Mark} {a t : Int} (h : colE d m a a ≠ 0) : openE d m [a] [t] = colE d m a a := by
  by_cases h0 : chkE d m = 0
  · have h1 : ¬ ((0 ≤ a ∧ a ≤ (d.Rates.length : Int)) ∧ 0 ≤ a ∧ a ≤ (d.Rates.length : Int)) := fun h1 => h (colE_ok h0 h1)
    rw [colE_arg h0 h1, openE_arg h0 (fun h2 => h1 ⟨(arg_both.1 h2).1, (arg_both.1 h2).1⟩)]
  · rw [colE_bad h0, openE_bad h0]
theorem col_two {d : Drum} {m : List Mark} {a b : Int} (h : colE d m a b ≠ 0) : openE d m [a, b] [] = colE d m a b := by
  by_cases h0 : chkE d m = 0
  · have h1 : ¬ ((0 ≤ a ∧ a ≤ (d.Rates.length : Int)) ∧ 0 ≤ b ∧ b ≤ (d.Rates.length : Int)) := fun h1 => h (colE_ok h0 h1)
    rw [colE_arg h0 h1, openE_arg h0 (fun h2 => h1 (arg_two.1 h2))]
  · rw [colE_bad h0, openE_bad h0]
end Go.Proofs.C2
/- Clocks: what the reference answers, in plain Lean. -/
namespace Go.Proofs.C2
open Go Go.Kx

theorem tol_len (d : Drum) (m : List Mark) : (tolR d m).1.length ≤ 1000 := by
  by_cases h : (tolR d m).2 = 0
  · have hz := tol_zero h; have := hz.1.dr.1.1.2
    rw [hz.2.2, setD_len]; omega
  · rw [tol_nil h]; exact Nat.zero_le _
/-! ### a reading -/
def goodJ (d : Drum) (l : List Int) (j : Nat) : Prop := (0 ≤ gt l j ∧ gt l j ≤ 400) ∧ (0 < j → (gapS d (j - 1)).Lo ≤ gt l j - gt l (j - 1) ∧ gt l j - gt l (j - 1) ≤ (gapS d (j - 1)).Hi)
def markJ (m : List Mark) (l : List Int) (j : Nat) : Prop := (gt m j).Ticks.Lo ≤ gt l (gt m j).Column.toNat ∧ gt l (gt m j).Column.toNat ≤ (gt m j).Ticks.Hi
def isP (d : Drum) (m : List Mark) (l : List Int) : Prop := l.length = d.Rates.length + 1 ∧ (∀ j, j < l.length → goodJ d l j) ∧ ∀ j, j < m.length → markJ m l j
/-! ### a tick more -/
theorem with_one {d : Drum} {m : List Mark} {c t : Int} (h : openE d m [c] [t] = 0) : (okC (wiC d m c.toNat t) ↔ okD d (m ++ [⟨c, ⟨t, t⟩⟩])) ∧ (okC (wiC d m c.toNat t) → setL (wiC d m c.toNat t) = setD d (m ++ [⟨c, ⟨t, t⟩⟩])) := by
  have hz := openE_zero h
  have ha := arg_both.1 hz.2.1
  have e : (⟨c, ⟨t, t⟩⟩ : Mark) = oneM c.toNat t := by unfold oneM; rw [show ((c.toNat : Nat) : Int) = c by omega]
  rw [e]
  exact ⟨by rw [wi_ok hz.1.dr (by omega), ok_one hz.1.dr hz.1.cols (by omega)], fun ho => wi_set hz.1.dr hz.1.cols (by omega) ho⟩
theorem with_col {d : Drum} {m : List Mark} {c t : Int} (h : colE d m c c ≠ 0) : withR d m c t = ([], colE d m c c) := by
  have := col_one2 (t := t) h; rw [withR_bad (by omega), this]
theorem with_tick {d : Drum} {m : List Mark} {c t : Int} (h : colE d m c c = 0) (h1 : ¬ (0 ≤ t ∧ t ≤ 400)) : withR d m c t = ([], 1) := by
  have : openE d m [c] [t] = 1 := openE_arg (col_zero h).1.e (fun h2 => h1 (arg_both.1 h2).2); rw [withR_bad (by omega), this]
theorem with_tol {d : Drum} {m : List Mark} {c t : Int} (h : colE d m c c = 0) (ht : 0 ≤ t ∧ t ≤ 400) (h1 : (tolR d m).2 ≠ 0) : withR d m c t = ([], (tolR d m).2) := by
  have := tol_err (d := d) (m := m) [c] [t] (arg_both.2 ⟨(col_zero h).2.1, ht⟩); rw [withR_bad (by omega), this]
theorem with_op {d : Drum} {m : List Mark} {c t : Int} (h : colE d m c c = 0) (ht : 0 ≤ t ∧ t ≤ 400) (h1 : (tolR d m).2 = 0) : openE d m [c] [t] = 0 := by
  have := tol_err (d := d) (m := m) [c] [t] (arg_both.2 ⟨(col_zero h).2.1, ht⟩); omega
theorem with_no {d : Drum} {m : List Mark} {c t : Int} (h : openE d m [c] [t] = 0) (h1 : ¬ okD d (m ++ [⟨c, ⟨t, t⟩⟩])) : withR d m c t = ([], 3) := withR_no h (fun h2 => h1 ((with_one h).1.1 h2))
theorem with_yes {d : Drum} {m : List Mark} {c t : Int} (h : openE d m [c] [t] = 0) (h1 : okD d (m ++ [⟨c, ⟨t, t⟩⟩])) : withR d m c t = (endL (setD d (m ++ [⟨c, ⟨t, t⟩⟩])) false, 0) := by
  have ho := (with_one h).1.2 h1
  rw [withR_ok h ho, end_lo, show setL (withC (setC d m) c.toNat t) = setD d (m ++ [⟨c, ⟨t, t⟩⟩]) from (with_one h).2 ho]
theorem run_err (d : Drum) (m : List Mark) (t : Int) : openE d m [0] [t] = openE d m [] [t] := by
  unfold openE
  have : argP d [0] [t] ↔ argP d [] [t] := by rw [arg_both, arg_tick]; exact ⟨fun h => h.2, fun h => ⟨by omega, h⟩⟩
  by_cases h : argP d [] [t]
  · simp [h, this.2 h]
  · have h2 : ¬ argP d [0] [t] := fun h3 => h (this.1 h3)
    simp [h, h2]
theorem run_bad {d : Drum} {m : List Mark} {t : Int} (h : (withR d m 0 t).2 ≠ 0) : runR d m t = ([], (withR d m 0 t).2) := by
  by_cases h0 : openE d m [0] [t] = 0
  · have h1 : openE d m [] [t] = 0 := by rw [← run_err]; exact h0
    by_cases ho : okC (withC (setC d m) (0 : Int).toNat t)
    · rw [withR_ok h0 ho] at h; exact absurd rfl h
    · rw [runR_no h1 ho, withR_no h0 ho]
  · have h1 : openE d m [] [t] ≠ 0 := by rw [← run_err]; exact h0
    rw [runR_bad h1, withR_bad h0, run_err]
theorem run_sp {d : Drum} {m : List Mark} {t : Int} (h : (withR d m 0 t).2 = 0) : (Ok d m ∧ 0 ≤ t ∧ t ≤ 400) ∧ runR d m t = ((spR d (m ++ [⟨0, ⟨t, t⟩⟩])).1, 0) := by
  by_cases h0 : openE d m [0] [t] = 0
  · have h1 : openE d m [] [t] = 0 := by rw [← run_err]; exact h0
    have hz := openE_zero h0
    by_cases ho : okC (withC (setC d m) (0 : Int).toNat t)
    · have hd := (with_one h0).1.1 ho
      refine ⟨⟨hz.1, (arg_both.1 hz.2.1).2⟩, ?_⟩
      rw [runR_ok h1 ho, spR_yes hd, show setL (withC (setC d m) (0 : Int).toNat t) = setD d (m ++ [⟨0, ⟨t, t⟩⟩]) from (with_one h0).2 ho]
    · rw [withR_no h0 ho] at h; cases h
  · rw [withR_bad h0] at h; exact absurd h h0
/-! ### differences -/
theorem bet_col {d : Drum} {m : List Mark} {a b : Int} (h : colE d m a b ≠ 0) : betR d m a b = (⟨0, 0⟩, colE d m a b) := by
  have := col_two h; rw [betR_bad (by omega), this]
theorem bet_tol {d : Drum} {m : List Mark} {a b : Int} (h : colE d m a b = 0) (h1 : (tolR d m).2 ≠ 0) : betR d m a b = (⟨0, 0⟩, (tolR d m).2) := by
  have := tol_err (d := d) (m := m) [a, b] [] (arg_two.2 (col_zero h).2); rw [betR_bad (by omega), this]
theorem bet_sp {d : Drum} {m : List Mark} {a b : Int} (h : colE d m a b = 0) (h1 : (tolR d m).2 = 0) : betR d m a b = (betS (setC d m) a.toNat b.toNat, 0) := by
  have := tol_err (d := d) (m := m) [a, b] [] (arg_two.2 (col_zero h).2); rw [betR_ok (by omega)]
theorem one_mark {m : List Mark} {a : Int} (ha : 0 ≤ a) (k : Nat) : (m ++ [⟨a, ⟨↑k, ↑k⟩⟩] : List Mark) = m ++ [oneM a.toNat k] := by
  unfold oneM; rw [show ((a.toNat : Nat) : Int) = a by omega]
theorem rb_yes {d : Drum} {m : List Mark} {a b : Int} {k : Nat} (ha : 0 ≤ a) (h : (spR d (m ++ [⟨a, ⟨↑k, ↑k⟩⟩])).2 = true) :
    rbN d m a.toNat b.toNat (k + 1) = ⟨min (rbN d m a.toNat b.toNat k).Lo ((gt (spR d (m ++ [⟨a, ⟨↑k, ↑k⟩⟩])).1 b.toNat).Lo - k), max (rbN d m a.toNat b.toNat k).Hi ((gt (spR d (m ++ [⟨a, ⟨↑k, ↑k⟩⟩])).1 b.toNat).Hi - k)⟩ := by
  have h1 := spR_true h
  rw [h1.2]
  rw [one_mark ha] at h1 ⊢
  rw [rbN, if_pos h1.1]
theorem rb_no {d : Drum} {m : List Mark} {a b : Int} {k : Nat} (ha : 0 ≤ a) (h : (spR d (m ++ [⟨a, ⟨↑k, ↑k⟩⟩])).2 = false) : rbN d m a.toNat b.toNat k = rbN d m a.toNat b.toNat (k + 1) := by
  have h1 := spR_false h
  rw [one_mark ha] at h1
  rw [rbN, if_neg h1]
theorem rb_cell {d : Drum} {m : List Mark} (h : Ok d m) {a b : Int} (ha : 0 ≤ a ∧ a ≤ (d.Rates.length : Int)) (hb : 0 ≤ b ∧ b ≤ (d.Rates.length : Int)) {k : Nat} (h1 : (spR d (m ++ [⟨a, ⟨↑k, ↑k⟩⟩])).2 = true) :
    (spR d (m ++ [⟨a, ⟨↑k, ↑k⟩⟩])).1.length = d.Rates.length + 1 ∧ (0 ≤ (gt (spR d (m ++ [⟨a, ⟨↑k, ↑k⟩⟩])).1 b.toNat).Lo ∧ (gt (spR d (m ++ [⟨a, ⟨↑k, ↑k⟩⟩])).1 b.toNat).Lo ≤ 400) ∧ 0 ≤ (gt (spR d (m ++ [⟨a, ⟨↑k, ↑k⟩⟩])).1 b.toNat).Hi ∧ (gt (spR d (m ++ [⟨a, ⟨↑k, ↑k⟩⟩])).1 b.toNat).Hi ≤ 400 := by
  have h2 := spR_true h1
  rw [h2.2]
  rw [one_mark ha.1] at h2 ⊢
  obtain ⟨⟨x, hx, hxa, hxb⟩, ⟨y, hy, hya, hyb⟩, _⟩ := one_lo h.dr h.cols (a := a.toNat) (b := b.toNat) (by omega) (by omega) h2.1
  have b1 := ((atS_iff m b.toNat _).1 (hx.1 b.toNat (by omega))).1; have b2 := ((atS_iff m b.toNat _).1 (hy.1 b.toNat (by omega))).1
  exact ⟨setD_len _ _, by omega, by omega⟩
theorem at_tick {d : Drum} {m : List Mark} {t : Int} (h : chkE d m = 0) (h1 : ¬ (0 ≤ t ∧ t ≤ 400)) : atR d m t = (⟨0, 0⟩, 1) := by
  have : openE d m [] [t] = 1 := openE_arg h (fun h2 => h1 (arg_tick.1 h2)); rw [atR_bad (by omega), this]
theorem at_chk {d : Drum} {m : List Mark} {t : Int} (h : chkE d m ≠ 0) : atR d m t = (⟨0, 0⟩, chkE d m) := by
  have : openE d m [] [t] = chkE d m := openE_bad h; rw [atR_bad (by omega), this]
theorem at_tol {d : Drum} {m : List Mark} {t : Int} (ht : 0 ≤ t ∧ t ≤ 400) (h1 : (tolR d m).2 ≠ 0) : atR d m t = (⟨0, 0⟩, (tolR d m).2) := by
  have := tol_err (d := d) (m := m) [] [t] (arg_tick.2 ht); rw [atR_bad (by omega), this]
theorem at_sp {d : Drum} {m : List Mark} {t : Int} (ht : 0 ≤ t ∧ t ≤ 400) (h1 : (tolR d m).2 = 0) : atR d m t = (⟨pasS (endL (tolR d m).1 true) t, pasS (endL (tolR d m).1 false) t⟩, 0) := by
  have := tol_err (d := d) (m := m) [] [t] (arg_tick.2 ht)
  rw [atR_ok (by omega), (tol_zero h1).2.2, end_hi, end_lo]; rfl
theorem drf_chk {d : Drum} {m : List Mark} {a b : Int} (h : chkE d m ≠ 0) : drfR d m a b = (⟨0, 0⟩, ⟨0, 0⟩, colE d m a b) := by rw [drfR_bad h, colE_bad h]
theorem drf_col {d : Drum} {m : List Mark} {a b : Int} (h : colE d m a b ≠ 0) : drfR d m a b = (⟨0, 0⟩, ⟨0, 0⟩, colE d m a b) := by
  by_cases h0 : chkE d m = 0
  · have h1 : ¬ ((0 ≤ a ∧ a ≤ (d.Rates.length : Int)) ∧ 0 ≤ b ∧ b ≤ (d.Rates.length : Int)) := fun h1 => h (colE_ok h0 h1)
    rw [drfR_arg h0 (by omega), colE_arg h0 h1]
  · exact drf_chk h0
theorem drf_le {d : Drum} {m : List Mark} {a b : Int} (h : colE d m a b = 0) (h1 : b ≤ a) : drfR d m a b = (⟨0, 0⟩, ⟨0, 0⟩, 1) := by rw [drfR_arg (col_zero h).1.e (by omega)]
theorem drf_tol {d : Drum} {m : List Mark} {a b : Int} (h : colE d m a b = 0) (h1 : a < b) (h2 : (tolR d m).2 ≠ 0) : drfR d m a b = (⟨0, 0⟩, ⟨0, 0⟩, (tolR d m).2) := by
  have hz := col_zero h
  have e := bet_tol h h2
  rw [drfR_bet hz.1.e (by omega) (by rw [e]; exact h2), e]
theorem drf_sp {d : Drum} {m : List Mark} {a b : Int} (h : colE d m a b = 0) (h1 : a < b) (h2 : (tolR d m).2 = 0) : drfR d m a b = (lowR (betS (setC d m) a.toNat b.toNat).Lo (b - a), lowR (betS (setC d m) a.toNat b.toNat).Hi (b - a), 0) := by
  have hz := col_zero h
  have e := bet_sp h h2
  rw [drfR_ok hz.1.e (by omega) (by rw [e]), e]
end Go.Proofs.C2
