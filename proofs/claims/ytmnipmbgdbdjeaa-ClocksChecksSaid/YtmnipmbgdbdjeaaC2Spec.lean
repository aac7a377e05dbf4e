import Derived.Test.YtmnipmbgdbdjeaaC2Set
/- Clocks: what the functions compute, in plain Lean. -/
namespace Go.Proofs.C2
open Go Go.Kx

def spOk (s : Span) (lo hi : Int) : Prop := (lo ≤ s.Lo ∧ s.Lo ≤ s.Hi) ∧ s.Hi ≤ hi
instance (s : Span) (lo hi : Int) : Decidable (spOk s lo hi) := by unfold spOk; exact inferInstance
def rateB (d : Drum) (i : Nat) : Prop := ¬ spOk (gt d.Rates i) 1 40
def stopB (d : Drum) (i : Nat) : Prop := ¬ ((0 ≤ (gt d.Stops i).Column ∧ (gt d.Stops i).Column ≤ (d.Rates.length : Int) - 1) ∧ spOk (gt d.Stops i).Ticks 0 400)
instance (d : Drum) : DecidablePred (rateB d) := fun i => by unfold rateB; exact inferInstance
instance (d : Drum) : DecidablePred (stopB d) := fun i => by unfold stopB; exact inferInstance
def drumP (d : Drum) : Prop := ((1 ≤ d.Rates.length ∧ d.Rates.length ≤ 199) ∧ d.Stops.length ≤ 16) ∧ (∀ i, i < d.Rates.length → ¬ rateB d i) ∧ ∀ i, i < d.Stops.length → ¬ stopB d i
instance (d : Drum) : Decidable (drumP d) := by unfold drumP; exact inferInstance
def drumE (d : Drum) : Int := if drumP d then 0 else 20
theorem drumE_ok {d : Drum} (h : drumP d) : drumE d = 0 := if_pos h
theorem drumE_bad {d : Drum} (h : ¬ drumP d) : drumE d = 20 := if_neg h
theorem drumP_of {d : Drum} (h : drumE d = 0) : drumP d := by unfold drumE at h; split at h; assumption; cases h
theorem drumE_cases (d : Drum) : drumE d = 0 ∨ drumE d = 20 := by unfold drumE; split; exact .inl rfl; exact .inr rfl
def markB (d : Drum) (m : List Mark) (i : Nat) : Prop := ¬ ((0 ≤ (gt m i).Column ∧ (gt m i).Column ≤ (d.Rates.length : Int)) ∧ spOk (gt m i).Ticks 0 400)
instance (d : Drum) (m : List Mark) : DecidablePred (markB d m) := fun i => by unfold markB; exact inferInstance
def marksR (d : Drum) (m : List Mark) : Int × Int :=
  if drumE d ≠ 0 then (20, 0) else if 64 < m.length then (2, 0) else if first (markB d m) m.length < m.length then (21, first (markB d m) m.length) else (0, 0)
def chkE (d : Drum) (m : List Mark) : Int := if (marksR d m).1 = 2 then 21 else (marksR d m).1
theorem marksR_drum {d : Drum} {m : List Mark} (h : drumE d ≠ 0) : marksR d m = (20, 0) := by rw [marksR, if_pos h]
theorem marksR_big {d : Drum} {m : List Mark} (h : drumE d = 0) (h1 : 64 < m.length) : marksR d m = (2, 0) := by rw [marksR, if_neg (by omega), if_pos h1]
theorem marksR_bad {d : Drum} {m : List Mark} {k : Nat} (h : drumE d = 0) (h1 : ¬ 64 < m.length) (hk : k < m.length) (ha : ∀ j, j < k → ¬ markB d m j) (hb : markB d m k) : marksR d m = (21, (k : Int)) := by
  have := first_eq hk ha hb
  rw [marksR, if_neg (by omega), if_neg h1, if_pos (by omega), this]
theorem marksR_ok {d : Drum} {m : List Mark} (h : drumE d = 0) (h1 : ¬ 64 < m.length) (ha : ∀ j, j < m.length → ¬ markB d m j) : marksR d m = (0, 0) := by
  have := first_no ha
  rw [marksR, if_neg (by omega), if_neg h1, if_neg (by omega)]
theorem marksR_idx {d : Drum} {m : List Mark} (h : drumE d = 0) (h1 : ¬ 64 < m.length) (h2 : 0 ≤ idxF (markB d m) m.length) : marksR d m = (21, idxF (markB d m) m.length) := by
  have h3 := idxF_first h2
  rw [marksR, if_neg (by omega), if_neg h1, if_pos h3.2, h3.1]
/-- a valid drum with valid marks -/
structure Ok (d : Drum) (m : List Mark) : Prop where
  dr : drumP d
  n : m.length ≤ 64
  ma : ∀ j, j < m.length → ¬ markB d m j
theorem marks_zero {d : Drum} {m : List Mark} (h : (marksR d m).1 = 0) : Ok d m := by
  unfold marksR at h
  split at h
  · cases h
  · rename_i h0
    split at h
    · cases h
    · rename_i h1
      split at h
      · cases h
      · rename_i h2
        refine ⟨drumP_of (by omega), by omega, ?_⟩
        rcases first_cases (markB d m) m.length with h3 | h3
        · exact h3.2
        · exact absurd h3.1 h2
theorem Ok.of {d : Drum} {m : List Mark} (h : chkE d m = 0) : Ok d m := by
  unfold chkE at h; split at h
  · cases h
  · exact marks_zero h
theorem Ok.marks {d : Drum} {m : List Mark} (h : Ok d m) : marksR d m = (0, 0) := marksR_ok (drumE_ok h.dr) (by have := h.n; omega) h.ma
theorem Ok.e {d : Drum} {m : List Mark} (h : Ok d m) : chkE d m = 0 := by unfold chkE; rw [h.marks]; rfl
theorem marksR_cases (d : Drum) (m : List Mark) : (marksR d m).1 = 0 ∨ (marksR d m).1 = 2 ∨ (marksR d m).1 = 20 ∨ (marksR d m).1 = 21 := by
  unfold marksR; split
  · exact .inr (.inr (.inl rfl))
  · split
    · exact .inr (.inl rfl)
    · split
      · exact .inr (.inr (.inr rfl))
      · exact .inl rfl
theorem Ok.col {d : Drum} {m : List Mark} (h : Ok d m) {j : Nat} (hj : j < m.length) : (0 ≤ (gt m j).Column ∧ (gt m j).Column ≤ (d.Rates.length : Int)) ∧ spOk (gt m j).Ticks 0 400 := Decidable.of_not_not (h.ma j hj)
theorem rate_ok {d : Drum} (h : drumP d) {i : Nat} (hi : i < d.Rates.length) : spOk (gt d.Rates i) 1 40 := Decidable.of_not_not (h.2.1 i hi)
theorem stop_ok {d : Drum} (h : drumP d) {i : Nat} (hi : i < d.Stops.length) : (0 ≤ (gt d.Stops i).Column ∧ (gt d.Stops i).Column ≤ (d.Rates.length : Int) - 1) ∧ spOk (gt d.Stops i).Ticks 0 400 := Decidable.of_not_not (h.2.2 i hi)

/-! ### gaps -/
/-- the gap of a column, with the first n stops -/
def gapN (d : Drum) (c : Nat) : Nat → Span
  | 0 => gt d.Rates c
  | n + 1 => if (gt d.Stops n).Column = (c : Int) then ⟨(gapN d c n).Lo + (gt d.Stops n).Ticks.Lo, (gapN d c n).Hi + (gt d.Stops n).Ticks.Hi⟩ else gapN d c n
def gapS (d : Drum) (c : Nat) : Span := gapN d c d.Stops.length
def gapL (d : Drum) : List Span := (List.range d.Rates.length).map (gapS d)
theorem gapN_bd {d : Drum} (h : drumP d) {c : Nat} (hc : c < d.Rates.length) : ∀ n : Nat, n ≤ d.Stops.length → (1 ≤ (gapN d c n).Lo ∧ (gapN d c n).Lo ≤ (gapN d c n).Hi) ∧ (gapN d c n).Hi ≤ 40 + 400 * (n : Int)
  | 0, _ => by have := rate_ok h hc; unfold spOk at this; simp only [gapN]; omega
  | n + 1, hn => by
    have h1 := gapN_bd h hc n (by omega); have h2 := (stop_ok h (i := n) (by omega)).2; unfold spOk at h2
    rw [gapN]; split
    · (try dsimp only); omega
    · omega
theorem gapS_bd {d : Drum} (h : drumP d) {c : Nat} (hc : c < d.Rates.length) : (1 ≤ (gapS d c).Lo ∧ (gapS d c).Lo ≤ (gapS d c).Hi) ∧ (gapS d c).Hi ≤ 6440 := by
  have h1 := gapN_bd h hc d.Stops.length (Nat.le_refl _); have h2 := h.1.2; unfold gapS; omega
theorem gap_ok {d : Drum} (h : drumP d) : GapOk (gapS d) d.Rates.length := fun i hi => (gapS_bd h hi).1.2
theorem gapL_len (d : Drum) : (gapL d).length = d.Rates.length := map_len _ _
theorem gapL_at {d : Drum} {i : Nat} (h : i < d.Rates.length) : gt (gapL d) i = gapS d i := gt_map h
/-- one stop more, written into the list of gaps -/
theorem gap_step {d : Drum} (h : drumP d) {n : Nat} (hn : n < d.Stops.length) :
    ((List.range d.Rates.length).map (fun c => gapN d c n)).set (gt d.Stops n).Column.toNat ⟨(gapN d (gt d.Stops n).Column.toNat n).Lo + (gt d.Stops n).Ticks.Lo, (gapN d (gt d.Stops n).Column.toNat n).Hi + (gt d.Stops n).Ticks.Hi⟩
      = (List.range d.Rates.length).map (fun c => gapN d c (n + 1)) := by
  have h1 := (stop_ok h hn).1
  refine eq_map (by simp) fun i hi => ?_
  rw [gt_set _ _ (by simpa using hi), gt_map hi, gapN]
  by_cases hc : (gt d.Stops n).Column = (i : Int)
  · rw [if_pos (by omega), if_pos hc, show (gt d.Stops n).Column.toNat = i by omega]
  · rw [if_neg (by omega), if_neg hc]

/-! ### what each column may be -/
def atN (m : List Mark) : Nat → Nat → Span
  | 0, _ => ⟨0, 400⟩
  | n + 1, c => if (gt m n).Column = (c : Int) then meet (atN m n c) (gt m n).Ticks else atN m n c
def atS (m : List Mark) (c : Nat) : Span := atN m m.length c
def atL (d : Drum) (m : List Mark) : List Span := (List.range (d.Rates.length + 1)).map (atS m)
theorem atL_len (d : Drum) (m : List Mark) : (atL d m).length = d.Rates.length + 1 := map_len _ _
theorem atL_at {d : Drum} {m : List Mark} {i : Nat} (h : i ≤ d.Rates.length) : gt (atL d m) i = atS m i := gt_map (by omega)
theorem atN_bd {d : Drum} {m : List Mark} (h : ∀ j, j < m.length → ¬ markB d m j) (c : Nat) : ∀ n, n ≤ m.length → (0 ≤ (atN m n c).Lo ∧ (atN m n c).Lo ≤ 400) ∧ 0 ≤ (atN m n c).Hi ∧ (atN m n c).Hi ≤ 400
  | 0, _ => by simp only [atN]; omega
  | n + 1, hn => by
    have h1 := atN_bd h c n (by omega)
    have h2 : spOk (gt m n).Ticks 0 400 := (Decidable.of_not_not (h n (by omega))).2
    unfold spOk at h2
    rw [atN]; split
    · rw [meet_lo, meet_hi]; omega
    · exact h1
theorem atS_bd {d : Drum} {m : List Mark} (h : Ok d m) (c : Nat) : (0 ≤ (atS m c).Lo ∧ (atS m c).Lo ≤ 400) ∧ 0 ≤ (atS m c).Hi ∧ (atS m c).Hi ≤ 400 := atN_bd h.ma c _ (Nat.le_refl _)
theorem at_step {d : Drum} {m : List Mark} (h : ∀ j, j < m.length → ¬ markB d m j) {n : Nat} (hn : n < m.length) :
    ((List.range (d.Rates.length + 1)).map (fun c => atN m n c)).set (gt m n).Column.toNat (meet (atN m n (gt m n).Column.toNat) (gt m n).Ticks) = (List.range (d.Rates.length + 1)).map (fun c => atN m (n + 1) c) := by
  have h1 : (0 ≤ (gt m n).Column ∧ (gt m n).Column ≤ (d.Rates.length : Int)) ∧ spOk (gt m n).Ticks 0 400 := Decidable.of_not_not (h n hn)
  refine eq_map (by simp) fun i hi => ?_
  rw [gt_set _ _ (by simpa using hi), gt_map hi, atN]
  by_cases hc : (gt m n).Column = (i : Int)
  · rw [if_pos (by omega), if_pos hc, show (gt m n).Column.toNat = i by omega]
  · rw [if_neg (by omega), if_neg hc]

/-! ### readings -/
abbrev RdD (d : Drum) (m : List Mark) (x : Nat → Int) : Prop := Rd (gapS d) (atS m) d.Rates.length x
def okD (d : Drum) (m : List Mark) : Prop := okP (gapS d) (atS m) d.Rates.length
instance (d : Drum) (m : List Mark) : Decidable (okD d m) := by unfold okD; exact inferInstance
def stD (d : Drum) (m : List Mark) (i : Nat) : Span := st (gapS d) (atS m) d.Rates.length i
def keepP (d : Drum) (m : List Mark) (l : List Int) : Prop := l.length = d.Rates.length + 1 ∧ (∀ i, i < d.Rates.length + 1 → (atS m i).Lo ≤ gt l i ∧ gt l i ≤ (atS m i).Hi) ∧ ∀ i, i < d.Rates.length → (gapS d i).Lo ≤ gt l (i + 1) - gt l i ∧ gt l (i + 1) - gt l i ≤ (gapS d i).Hi
instance (d : Drum) (m : List Mark) (l : List Int) : Decidable (keepP d m l) := by unfold keepP; exact inferInstance
theorem keepP_rd {d : Drum} {m : List Mark} {l : List Int} : keepP d m l ↔ l.length = d.Rates.length + 1 ∧ RdD d m (gt l) :=
  ⟨fun h => ⟨h.1, fun i hi => h.2.1 i (by omega), h.2.2⟩, fun h => ⟨h.1, fun i hi => h.2.1 i (by omega), h.2.2⟩⟩
def keepE (d : Drum) (m : List Mark) (l : List Int) : Int := if chkE d m ≠ 0 then chkE d m else if keepP d m l then 0 else 22
def feasR (d : Drum) (m : List Mark) : Bool × Int := if chkE d m ≠ 0 then (false, chkE d m) else (decide (okD d m), 0)
/-- the error of a question: columns, ticks -/
def colB (d : Drum) (c : List Int) (i : Nat) : Prop := ¬ (0 ≤ gt c i ∧ gt c i ≤ (d.Rates.length : Int))
instance (d : Drum) (c : List Int) : DecidablePred (colB d c) := fun i => by unfold colB; exact inferInstance
def tickB (c : List Int) (i : Nat) : Prop := ¬ (0 ≤ gt c i ∧ gt c i ≤ 400)
instance (c : List Int) : DecidablePred (tickB c) := fun i => by unfold tickB; exact inferInstance
def argP (d : Drum) (cs ts : List Int) : Prop := (∀ i, i < cs.length → ¬ colB d cs i) ∧ ∀ i, i < ts.length → ¬ tickB ts i
instance (d : Drum) (cs ts : List Int) : Decidable (argP d cs ts) := by unfold argP; exact inferInstance
def openE (d : Drum) (m : List Mark) (cs ts : List Int) : Int := if chkE d m ≠ 0 then chkE d m else if ¬ argP d cs ts then 1 else if okD d m then 0 else 22
def setD (d : Drum) (m : List Mark) : List Span := (List.range (d.Rates.length + 1)).map (stD d m)
def openC (d : Drum) (m : List Mark) (cs ts : List Int) : Ck := if openE d m cs ts = 0 then ⟨gapL d, setD d m⟩ else ⟨[], []⟩
theorem openE_zero {d : Drum} {m : List Mark} {cs ts : List Int} (h : openE d m cs ts = 0) : Ok d m ∧ argP d cs ts ∧ okD d m := by
  unfold openE at h; split at h
  · omega
  · rename_i h0
    split at h
    · cases h
    · rename_i h1
      split at h
      · rename_i h2; exact ⟨Ok.of (by omega), Decidable.of_not_not h1, h2⟩
      · cases h
theorem openE_bad {d : Drum} {m : List Mark} {cs ts : List Int} (h : chkE d m ≠ 0) : openE d m cs ts = chkE d m := by rw [openE, if_pos h]
theorem openE_arg {d : Drum} {m : List Mark} {cs ts : List Int} (h : chkE d m = 0) (h1 : ¬ argP d cs ts) : openE d m cs ts = 1 := by rw [openE, if_neg (by omega), if_pos h1]
theorem openE_time {d : Drum} {m : List Mark} {cs ts : List Int} (h : chkE d m = 0) (h1 : argP d cs ts) (h2 : ¬ okD d m) : openE d m cs ts = 22 := by rw [openE, if_neg (by omega), if_neg (by simpa using h1), if_neg h2]
theorem openE_ok {d : Drum} {m : List Mark} {cs ts : List Int} (h : chkE d m = 0) (h1 : argP d cs ts) (h2 : okD d m) : openE d m cs ts = 0 := by rw [openE, if_neg (by omega), if_neg (by simpa using h1), if_pos h2]

/-! ### a clock by itself -/
structure CkW (c : Ck) : Prop where
  l : c.at_.length = c.gaps.length + 1
  n : c.gaps.length ≤ 199
  g : ∀ i, i < c.gaps.length → (1 ≤ (gt c.gaps i).Lo ∧ (gt c.gaps i).Lo ≤ (gt c.gaps i).Hi) ∧ (gt c.gaps i).Hi ≤ 6440
  a : ∀ i, i < c.at_.length → (0 ≤ (gt c.at_ i).Lo ∧ (gt c.at_ i).Lo ≤ 400) ∧ 0 ≤ (gt c.at_ i).Hi ∧ (gt c.at_ i).Hi ≤ 400
def setL (c : Ck) : List Span := (List.range (c.gaps.length + 1)).map (st (gt c.gaps) (gt c.at_) c.gaps.length)
def okC (c : Ck) : Prop := okP (gt c.gaps) (gt c.at_) c.gaps.length
instance (c : Ck) : Decidable (okC c) := by unfold okC; exact inferInstance
theorem CkW.of {d : Drum} {m : List Mark} (h : Ok d m) : CkW ⟨gapL d, atL d m⟩ := by
  refine ⟨by rw [gapL_len, atL_len], by rw [gapL_len]; exact h.dr.1.1.2, fun i hi => ?_, fun i hi => ?_⟩
  · rw [gapL_len] at hi; rw [gapL_at hi]; exact gapS_bd h.dr hi
  · rw [atL_len] at hi; rw [atL_at (by omega)]; exact atS_bd h i
theorem st_clock (d : Drum) (m : List Mark) {i : Nat} (hi : i ≤ d.Rates.length) : st (gt (gapL d)) (gt (atL d m)) d.Rates.length i = stD d m i :=
  st_congr (fun _ h => gapL_at h) (fun _ h => atL_at h) hi
theorem setL_clock (d : Drum) (m : List Mark) : setL ⟨gapL d, atL d m⟩ = setD d m := by
  unfold setL; (try dsimp only); rw [gapL_len]; exact map_congr fun i hi => st_clock d m (by omega)
theorem okC_clock (d : Drum) (m : List Mark) : okC ⟨gapL d, atL d m⟩ ↔ okD d m := by
  unfold okC okD okP; (try dsimp only); rw [gapL_len]
  exact ⟨fun h i hi => by have := h i hi; rw [st_clock d m (by omega)] at this; exact this, fun h i hi => by rw [st_clock d m (by omega)]; exact h i hi⟩
theorem setL_len (c : Ck) : (setL c).length = c.gaps.length + 1 := map_len _ _
theorem setL_at {c : Ck} {i : Nat} (h : i ≤ c.gaps.length) : gt (setL c) i = st (gt c.gaps) (gt c.at_) c.gaps.length i := gt_map (by omega)
theorem setD_len (d : Drum) (m : List Mark) : (setD d m).length = d.Rates.length + 1 := map_len _ _
theorem setD_at {d : Drum} {m : List Mark} {i : Nat} (h : i ≤ d.Rates.length) : gt (setD d m) i = stD d m i := gt_map (by omega)
/-- how much later each column can be than a column -/
def mosA (B : Nat → Span) (f i : Nat) : Span := ⟨0, if i = f then min ((B i).Hi - (B f).Lo) 0 else (B i).Hi - (B f).Lo⟩
def mos (g B : Nat → Span) (n f i : Nat) : Int := (st g (mosA B f) n i).Hi
def mostL (c : Ck) (f : Nat) : List Int := (List.range (c.gaps.length + 1)).map (mos (gt c.gaps) (gt c.at_) c.gaps.length f)
def betS (c : Ck) (a b : Nat) : Span := ⟨- mos (gt c.gaps) (gt c.at_) c.gaps.length b a, mos (gt c.gaps) (gt c.at_) c.gaps.length a b⟩
def narL (c : Ck) (k : Nat) (s : Span) : List Span := c.at_.set k (meet (gt c.at_ k) s)
def withC (c : Ck) (k : Nat) (t : Int) : Ck := ⟨c.gaps, narL c k ⟨t, t⟩⟩
end Go.Proofs.C2
