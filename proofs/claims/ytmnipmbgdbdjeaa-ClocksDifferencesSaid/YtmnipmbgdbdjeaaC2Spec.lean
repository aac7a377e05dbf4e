import Derived.Test.YtmnipmbgdbdjeaaC2Set
/- Clocks: what the functions compute, in plain Lean. -/
namespace Go.Proofs.C2
open Go Go.Kx

def spOk (s : Span) (lo hi : Int) : Prop := (lo ≤ s.Lo ∧ s.Lo ≤ s.Hi) ∧ s.Hi ≤ hi
instance (s : Span) (lo hi : Int) : Decidable (spOk s lo hi) := by unfold spOk; exact inferInstance
def rateB (d : Drum) (i : Nat) : Prop := ¬ spOk (gt d.Rates i) 1 40
def stopB (d : Drum) (i : Nat) : Prop := ¬ ((0 ≤ (gt d.Stops i).Column ∧ (gt d.Stops i).Column ≤ (d.Rates.length : Int) - 1) ∧ spOk (gt d.Stops i).Ticks 0 400)
instance (d : Drum) : DecidablePred (rateB d) := fun i => by unfold rateB; exact inferInstance
instance (d : Drum) : DecidablePred (stopB d) := fun i => by unfold stopB; exact inferInstance
def drumP (d : Drum) : Prop := ((1 ≤ d.Rates.length ∧ d.Rates.length ≤ 199) ∧ d.Stops.length ≤ 16) ∧ (∀ i, i < d.Rates.length → ¬ rateB d i) ∧ ∀ i, i < d.Stops.length → ¬ stopB d i
instance (d : Drum) : Decidable (drumP d) := by unfold drumP; exact inferInstance
def drumE (d : Drum) : Int := if drumP d then 0 else 20
theorem drumE_ok {d : Drum} (h : drumP d) : drumE d = 0 := if_pos h
theorem drumE_bad {d : Drum} (h : ¬ drumP d) : drumE d = 20 := if_neg h
theorem drumP_of {d : Drum} (h : drumE d = 0) : drumP d := by unfold drumE at h; split at h; assumption; cases h
def markB (d : Drum) (m : List Mark) (i : Nat) : Prop := ¬ ((0 ≤ (gt m i).Column ∧ (gt m i).Column ≤ (d.Rates.length : Int)) ∧ spOk (gt m i).Ticks 0 400)
instance (d : Drum) (m : List Mark) : DecidablePred (markB d m) := fun i => by unfold markB; exact inferInstance
def marksR (d : Drum) (m : List Mark) : Int × Int :=
  if drumE d ≠ 0 then (20, 0) else if 64 < m.length then (2, 0) else if first (markB d m) m.length < m.length then (21, first (markB d m) m.length) else (0, 0)
def chkE (d : Drum) (m : List Mark) : Int := if (marksR d m).1 = 2 then 21 else (marksR d m).1
theorem marksR_drum {d : Drum} {m : List Mark} (h : drumE d ≠ 0) : marksR d m = (20, 0) := by rw [marksR, if_pos h]
theorem marksR_big {d : Drum} {m : List Mark} (h : drumE d = 0) (h1 : 64 < m.length) : marksR d m = (2, 0) := by rw [marksR, if_neg (by omega), if_pos h1]
theorem marksR_bad {d : Drum} {m : List Mark} {k : Nat} (h : drumE d = 0) (h1 : ¬ 64 < m.length) (hk : k < m.length) (ha : ∀ j, j < k → ¬ markB d m j) (hb : markB d m k) : marksR d m = (21, (k : Int)) := by
  have := first_eq hk ha hb
  rw [marksR, if_neg (by omega), if_neg h1, if_pos (by omega), this]
theorem marksR_ok {d : Drum} {m : List Mark} (h : drumE d = 0) (h1 : ¬ 64 < m.length) (ha : ∀ j, j < m.length → ¬ markB d m j) : marksR d m = (0, 0) := by
  have := first_no ha
  rw [marksR, if_neg (by omega), if_neg h1, if_neg (by omega)]
theorem marksR_idx {d : Drum} {m : List Mark} (h : drumE d = 0) (h1 : ¬ 64 < m.length) (h2 : 0 ≤ idxF (markB d m) m.length) : marksR d m = (21, idxF (markB d m) m.length) := by
  have h3 := idxF_first h2
  rw [marksR, if_neg (by omega), if_neg h1, if_pos h3.2, h3.1]
/-- a valid drum with valid marks -/
structure Ok (d : Drum) (m : List Mark) : Prop where
  dr : drumP d
  n : m.length ≤ 64
  ma : ∀ j, j < m.length → ¬ markB d m j
theorem marks_zero {d : Drum} {m : List Mark} (h : (marksR d m).1 = 0) : Ok d m := by
  unfold marksR at h
  split at h
  · cases h
  · rename_i h0
    split at h
    · cases h
    · rename_i h1
      split at h
      · cases h
      · rename_i h2
        refine ⟨drumP_of (by omega), by omega, ?_⟩
        rcases first_cases (markB d m) m.length with h3 | h3
        · exact h3.2
        · exact absurd h3.1 h2
theorem Ok.of {d : Drum} {m : List Mark} (h : chkE d m = 0) : Ok d m := by
  unfold chkE at h; split at h
  · cases h
  · exact marks_zero h
theorem Ok.marks {d : Drum} {m : List Mark} (h : Ok d m) : marksR d m = (0, 0) := marksR_ok (drumE_ok h.dr) (by have := h.n; omega) h.ma
theorem Ok.e {d : Drum} {m : List Mark} (h : Ok d m) : chkE d m = 0 := by unfold chkE; rw [h.marks]; rfl
theorem marksR_cases (d : Drum) (m : List Mark) : (marksR d m).1 = 0 ∨ (marksR d m).1 = 2 ∨ (marksR d m).1 = 20 ∨ (marksR d m).1 = 21 := by
  unfold marksR; split
  · exact .inr (.inr (.inl rfl))
  · split
    · exact .inr (.inl rfl)
    · split
      · exact .inr (.inr (.inr rfl))
      · exact .inl rfl
theorem chkE_cases (d : Drum) (m : List Mark) : chkE d m = 0 ∨ chkE d m = 20 ∨ chkE d m = 21 := by
  have := marksR_cases d m; unfold chkE; split <;> omega
theorem Ok.col {d : Drum} {m : List Mark} (h : Ok d m) {j : Nat} (hj : j < m.length) : (0 ≤ (gt m j).Column ∧ (gt m j).Column ≤ (d.Rates.length : Int)) ∧ spOk (gt m j).Ticks 0 400 := Decidable.of_not_not (h.ma j hj)
theorem rate_ok {d : Drum} (h : drumP d) {i : Nat} (hi : i < d.Rates.length) : spOk (gt d.Rates i) 1 40 := Decidable.of_not_not (h.2.1 i hi)
theorem stop_ok {d : Drum} (h : drumP d) {i : Nat} (hi : i < d.Stops.length) : (0 ≤ (gt d.Stops i).Column ∧ (gt d.Stops i).Column ≤ (d.Rates.length : Int) - 1) ∧ spOk (gt d.Stops i).Ticks 0 400 := Decidable.of_not_not (h.2.2 i hi)

/-! ### gaps -/
/-- the gap of a column, with the first n stops -/
def gapN (d : Drum) (c : Nat) : Nat → Span
  | 0 => gt d.Rates c
  | n + 1 => if (gt d.Stops n).Column = (c : Int) then ⟨(gapN d c n).Lo + (gt d.Stops n).Ticks.Lo, (gapN d c n).Hi + (gt d.Stops n).Ticks.Hi⟩ else gapN d c n
def gapS (d : Drum) (c : Nat) : Span := gapN d c d.Stops.length
def gapL (d : Drum) : List Span := (List.range d.Rates.length).map (gapS d)
theorem gapN_bd {d : Drum} (h : drumP d) {c : Nat} (hc : c < d.Rates.length) : ∀ n : Nat, n ≤ d.Stops.length → (1 ≤ (gapN d c n).Lo ∧ (gapN d c n).Lo ≤ (gapN d c n).Hi) ∧ (gapN d c n).Hi ≤ 40 + 400 * (n : Int)
  | 0, _ => by have := rate_ok h hc; unfold spOk at this; simp only [gapN]; omega
  | n + 1, hn => by
    have h1 := gapN_bd h hc n (by omega); have h2 := (stop_ok h (i := n) (by omega)).2; unfold spOk at h2
    rw [gapN]; split
    · (try dsimp only); omega
    · omega
theorem gapS_bd {d : Drum} (h : drumP d) {c : Nat} (hc : c < d.Rates.length) : (1 ≤ (gapS d c).Lo ∧ (gapS d c).Lo ≤ (gapS d c).Hi) ∧ (gapS d c).Hi ≤ 6440 := by
  have h1 := gapN_bd h hc d.Stops.length (Nat.le_refl _); have h2 := h.1.2; unfold gapS; omega
theorem gap_ok {d : Drum} (h : drumP d) : GapOk (gapS d) d.Rates.length := fun i hi => (gapS_bd h hi).1.2
theorem gapL_len (d : Drum) : (gapL d).length = d.Rates.length := map_len _ _
theorem gapL_at {d : Drum} {i : Nat} (h : i < d.Rates.length) : gt (gapL d) i = gapS d i := gt_map h
/-- one stop more, written into the list of gaps -/
theorem gap_step {d : Drum} (h : drumP d) {n : Nat} (hn : n < d.Stops.length) :
    ((List.range d.Rates.length).map (fun c => gapN d c n)).set (gt d.Stops n).Column.toNat ⟨(gapN d (gt d.Stops n).Column.toNat n).Lo + (gt d.Stops n).Ticks.Lo, (gapN d (gt d.Stops n).Column.toNat n).Hi + (gt d.Stops n).Ticks.Hi⟩
      = (List.range d.Rates.length).map (fun c => gapN d c (n + 1)) := by
  have h1 := (stop_ok h hn).1
  refine eq_map (by simp) fun i hi => ?_
  rw [gt_set _ _ (by simpa using hi), gt_map hi, gapN]
  by_cases hc : (gt d.Stops n).Column = (i : Int)
  · rw [if_pos (by omega), if_pos hc, show (gt d.Stops n).Column.toNat = i by omega]
  · rw [if_neg (by omega), if_neg hc]

/-! ### what each column may be -/
def atN (m : List Mark) : Nat → Nat → Span
  | 0, _ => ⟨0, 400⟩
  | n + 1, c => if (gt m n).Column = (c : Int) then meet (atN m n c) (gt m n).Ticks else atN m n c
def atS (m : List Mark) (c : Nat) : Span := atN m m.length c
def atL (d : Drum) (m : List Mark) : List Span := (List.range (d.Rates.length + 1)).map (atS m)
theorem atL_len (d : Drum) (m : List Mark) : (atL d m).length = d.Rates.length + 1 := map_len _ _
theorem atL_at {d : Drum} {m : List Mark} {i : Nat} (h : i ≤ d.Rates.length) : gt (atL d m) i = atS m i := gt_map (by omega)
theorem atN_bd {d : Drum} {m : List Mark} (h : ∀ j, j < m.length → ¬ markB d m j) (c : Nat) : ∀ n, n ≤ m.length → (0 ≤ (atN m n c).Lo ∧ (atN m n c).Lo ≤ 400) ∧ 0 ≤ (atN m n c).Hi ∧ (atN m n c).Hi ≤ 400
  | 0, _ => by simp only [atN]; omega
  | n + 1, hn => by
    have h1 := atN_bd h c n (by omega)
    have h2 : spOk (gt m n).Ticks 0 400 := (Decidable.of_not_not (h n (by omega))).2
    unfold spOk at h2
    rw [atN]; split
    · rw [meet_lo, meet_hi]; omega
    · exact h1
theorem atS_bd {d : Drum} {m : List Mark} (h : Ok d m) (c : Nat) : (0 ≤ (atS m c).Lo ∧ (atS m c).Lo ≤ 400) ∧ 0 ≤ (atS m c).Hi ∧ (atS m c).Hi ≤ 400 := atN_bd h.ma c _ (Nat.le_refl _)
theorem atN_iff (m : List Mark) (c : Nat) (v : Int) : ∀ n, ((atN m n c).Lo ≤ v ∧ v ≤ (atN m n c).Hi) ↔ ((0 ≤ v ∧ v ≤ 400) ∧ ∀ j, j < n → (gt m j).Column = (c : Int) → (gt m j).Ticks.Lo ≤ v ∧ v ≤ (gt m j).Ticks.Hi)
  | 0 => ⟨fun h => ⟨h, fun j hj => absurd hj (Nat.not_lt_zero _)⟩, fun h => h.1⟩
  | n + 1 => by
    have ih := atN_iff m c v n
    rw [atN]; split
    · rename_i hc
      rw [meet_lo, meet_hi]
      constructor
      · intro h
        have h1 := ih.1 (by omega)
        exact ⟨h1.1, fun j hj hcj => by rcases Nat.lt_succ_iff_lt_or_eq.1 hj with h2 | h2; exact h1.2 j h2 hcj; subst h2; omega⟩
      · intro h
        have h1 := ih.2 ⟨h.1, fun j hj => h.2 j (by omega)⟩
        have h2 := h.2 n (by omega) hc
        omega
    · rename_i hc
      rw [ih]
      exact ⟨fun h => ⟨h.1, fun j hj hcj => by rcases Nat.lt_succ_iff_lt_or_eq.1 hj with h2 | h2; exact h.2 j h2 hcj; subst h2; exact absurd hcj hc⟩, fun h => ⟨h.1, fun j hj => h.2 j (by omega)⟩⟩
theorem atS_iff (m : List Mark) (c : Nat) (v : Int) : ((atS m c).Lo ≤ v ∧ v ≤ (atS m c).Hi) ↔ ((0 ≤ v ∧ v ≤ 400) ∧ ∀ j, j < m.length → (gt m j).Column = (c : Int) → (gt m j).Ticks.Lo ≤ v ∧ v ≤ (gt m j).Ticks.Hi) := atN_iff m c v _
theorem at_step {d : Drum} {m : List Mark} (h : ∀ j, j < m.length → ¬ markB d m j) {n : Nat} (hn : n < m.length) :
    ((List.range (d.Rates.length + 1)).map (fun c => atN m n c)).set (gt m n).Column.toNat (meet (atN m n (gt m n).Column.toNat) (gt m n).Ticks) = (List.range (d.Rates.length + 1)).map (fun c => atN m (n + 1) c) := by
  have h1 : (0 ≤ (gt m n).Column ∧ (gt m n).Column ≤ (d.Rates.length : Int)) ∧ spOk (gt m n).Ticks 0 400 := Decidable.of_not_not (h n hn)
  refine eq_map (by simp) fun i hi => ?_
  rw [gt_set _ _ (by simpa using hi), gt_map hi, atN]
  by_cases hc : (gt m n).Column = (i : Int)
  · rw [if_pos (by omega), if_pos hc, show (gt m n).Column.toNat = i by omega]
  · rw [if_neg (by omega), if_neg hc]

/-! ### readings -/
abbrev RdD (d : Drum) (m : List Mark) (x : Nat → Int) : Prop := Rd (gapS d) (atS m) d.Rates.length x
def okD (d : Drum) (m : List Mark) : Prop := okP (gapS d) (atS m) d.Rates.length
instance (d : Drum) (m : List Mark) : Decidable (okD d m) := by unfold okD; exact inferInstance
def stD (d : Drum) (m : List Mark) (i : Nat) : Span := st (gapS d) (atS m) d.Rates.length i
def keepP (d : Drum) (m : List Mark) (l : List Int) : Prop := l.length = d.Rates.length + 1 ∧ (∀ i, i < d.Rates.length + 1 → (atS m i).Lo ≤ gt l i ∧ gt l i ≤ (atS m i).Hi) ∧ ∀ i, i < d.Rates.length → (gapS d i).Lo ≤ gt l (i + 1) - gt l i ∧ gt l (i + 1) - gt l i ≤ (gapS d i).Hi
instance (d : Drum) (m : List Mark) (l : List Int) : Decidable (keepP d m l) := by unfold keepP; exact inferInstance
theorem keepP_rd {d : Drum} {m : List Mark} {l : List Int} : keepP d m l ↔ l.length = d.Rates.length + 1 ∧ RdD d m (gt l) :=
  ⟨fun h => ⟨h.1, fun i hi => h.2.1 i (by omega), h.2.2⟩, fun h => ⟨h.1, fun i hi => h.2.1 i (by omega), h.2.2⟩⟩
def keepE (d : Drum) (m : List Mark) (l : List Int) : Int := if chkE d m ≠ 0 then chkE d m else if keepP d m l then 0 else 22
def feasR (d : Drum) (m : List Mark) : Bool × Int := if chkE d m ≠ 0 then (false, chkE d m) else (decide (okD d m), 0)
/-- the error of a question: columns, ticks -/
def colB (d : Drum) (c : List Int) (i : Nat) : Prop := ¬ (0 ≤ gt c i ∧ gt c i ≤ (d.Rates.length : Int))
instance (d : Drum) (c : List Int) : DecidablePred (colB d c) := fun i => by unfold colB; exact inferInstance
def tickB (c : List Int) (i : Nat) : Prop := ¬ (0 ≤ gt c i ∧ gt c i ≤ 400)
instance (c : List Int) : DecidablePred (tickB c) := fun i => by unfold tickB; exact inferInstance
def argP (d : Drum) (cs ts : List Int) : Prop := (∀ i, i < cs.length → ¬ colB d cs i) ∧ ∀ i, i < ts.length → ¬ tickB ts i
instance (d : Drum) (cs ts : List Int) : Decidable (argP d cs ts) := by unfold argP; exact inferInstance
def openE (d : Drum) (m : List Mark) (cs ts : List Int) : Int := if chkE d m ≠ 0 then chkE d m else if ¬ argP d cs ts then 1 else if okD d m then 0 else 22
def setD (d : Drum) (m : List Mark) : List Span := (List.range (d.Rates.length + 1)).map (stD d m)
def openC (d : Drum) (m : List Mark) (cs ts : List Int) : Ck := if openE d m cs ts = 0 then ⟨gapL d, setD d m⟩ else ⟨[], []⟩
theorem openE_zero {d : Drum} {m : List Mark} {cs ts : List Int} (h : openE d m cs ts = 0) : Ok d m ∧ argP d cs ts ∧ okD d m := by
  unfold openE at h; split at h
  · omega
  · rename_i h0
    split at h
    · cases h
    · rename_i h1
      split at h
      · rename_i h2; exact ⟨Ok.of (by omega), Decidable.of_not_not h1, h2⟩
      · cases h
theorem openE_bad {d : Drum} {m : List Mark} {cs ts : List Int} (h : chkE d m ≠ 0) : openE d m cs ts = chkE d m := by rw [openE, if_pos h]
theorem openE_arg {d : Drum} {m : List Mark} {cs ts : List Int} (h : chkE d m = 0) (h1 : ¬ argP d cs ts) : openE d m cs ts = 1 := by rw [openE, if_neg (by omega), if_pos h1]
theorem openE_time {d : Drum} {m : List Mark} {cs ts : List Int} (h : chkE d m = 0) (h1 : argP d cs ts) (h2 : ¬ okD d m) : openE d m cs ts = 22 := by rw [openE, if_neg (by omega), if_neg (by simpa using h1), if_neg h2]
theorem openE_ok {d : Drum} {m : List Mark} {cs ts : List Int} (h : chkE d m = 0) (h1 : argP d cs ts) (h2 : okD d m) : openE d m cs ts = 0 := by rw [openE, if_neg (by omega), if_neg (by simpa using h1), if_pos h2]

/-! ### a clock by itself -/
structure CkW (c : Ck) : Prop where
  l : c.at_.length = c.gaps.length + 1
  n : c.gaps.length ≤ 199
  g : ∀ i, i < c.gaps.length → (1 ≤ (gt c.gaps i).Lo ∧ (gt c.gaps i).Lo ≤ (gt c.gaps i).Hi) ∧ (gt c.gaps i).Hi ≤ 6440
  a : ∀ i, i < c.at_.length → (0 ≤ (gt c.at_ i).Lo ∧ (gt c.at_ i).Lo ≤ 400) ∧ 0 ≤ (gt c.at_ i).Hi ∧ (gt c.at_ i).Hi ≤ 400
def setL (c : Ck) : List Span := (List.range (c.gaps.length + 1)).map (st (gt c.gaps) (gt c.at_) c.gaps.length)
def okC (c : Ck) : Prop := okP (gt c.gaps) (gt c.at_) c.gaps.length
instance (c : Ck) : Decidable (okC c) := by unfold okC; exact inferInstance
theorem CkW.of {d : Drum} {m : List Mark} (h : Ok d m) : CkW ⟨gapL d, atL d m⟩ := by
  refine ⟨by rw [gapL_len, atL_len], by rw [gapL_len]; exact h.dr.1.1.2, fun i hi => ?_, fun i hi => ?_⟩
  · rw [gapL_len] at hi; rw [gapL_at hi]; exact gapS_bd h.dr hi
  · rw [atL_len] at hi; rw [atL_at (by omega)]; exact atS_bd h i
theorem st_clock (d : Drum) (m : List Mark) {i : Nat} (hi : i ≤ d.Rates.length) : st (gt (gapL d)) (gt (atL d m)) d.Rates.length i = stD d m i :=
  st_congr (fun _ h => gapL_at h) (fun _ h => atL_at h) hi
theorem setL_clock (d : Drum) (m : List Mark) : setL ⟨gapL d, atL d m⟩ = setD d m := by
  unfold setL; (try dsimp only); rw [gapL_len]; exact map_congr fun i hi => st_clock d m (by omega)
theorem okC_clock (d : Drum) (m : List Mark) : okC ⟨gapL d, atL d m⟩ ↔ okD d m := by
  unfold okC okD okP; (try dsimp only); rw [gapL_len]
  exact ⟨fun h i hi => by have := h i hi; rw [st_clock d m (by omega)] at this; exact this, fun h i hi => by rw [st_clock d m (by omega)]; exact h i hi⟩
theorem setL_len (c : Ck) : (setL c).length = c.gaps.length + 1 := map_len _ _
theorem setL_at {c : Ck} {i : Nat} (h : i ≤ c.gaps.length) : gt (setL c) i = st (gt c.gaps) (gt c.at_) c.gaps.length i := gt_map (by omega)
theorem setD_len (d : Drum) (m : List Mark) : (setD d m).length = d.Rates.length + 1 := map_len _ _
theorem setD_at {d : Drum} {m : List Mark} {i : Nat} (h : i ≤ d.Rates.length) : gt (setD d m) i = stD d m i := gt_map (by omega)
/-- how much later each column can be than a column -/
def mosA (B : Nat → Span) (f i : Nat) : Span := ⟨0, if i = f then min ((B i).Hi - (B f).Lo) 0 else (B i).Hi - (B f).Lo⟩
def mos (g B : Nat → Span) (n f i : Nat) : Int := (st g (mosA B f) n i).Hi
def mostL (c : Ck) (f : Nat) : List Int := (List.range (c.gaps.length + 1)).map (mos (gt c.gaps) (gt c.at_) c.gaps.length f)
def betS (c : Ck) (a b : Nat) : Span := ⟨- mos (gt c.gaps) (gt c.at_) c.gaps.length b a, mos (gt c.gaps) (gt c.at_) c.gaps.length a b⟩
def narL (c : Ck) (k : Nat) (s : Span) : List Span := c.at_.set k (meet (gt c.at_ k) s)
def withC (c : Ck) (k : Nat) (t : Int) : Ck := ⟨c.gaps, narL c k ⟨t, t⟩⟩
end Go.Proofs.C2
/- Clocks: readings of a chain: the lesser, the greater, the median ones; what is between; in plain Lean. -/
namespace Go.Proofs.C2
open Go Go.Kx

theorem Rd.min {g a : Nat → Span} {n : Nat} {x y : Nat → Int} (hx : Rd g a n x) (hy : Rd g a n y) : Rd g a n (fun i => Min.min (x i) (y i)) :=
  ⟨fun i hi => by have h1 := hx.1 i hi; have h2 := hy.1 i hi; (try dsimp only); omega, fun i hi => by have h1 := hx.2 i hi; have h2 := hy.2 i hi; (try dsimp only); omega⟩
theorem Rd.max {g a : Nat → Span} {n : Nat} {x y : Nat → Int} (hx : Rd g a n x) (hy : Rd g a n y) : Rd g a n (fun i => Max.max (x i) (y i)) :=
  ⟨fun i hi => by have h1 := hx.1 i hi; have h2 := hy.1 i hi; (try dsimp only); omega, fun i hi => by have h1 := hx.2 i hi; have h2 := hy.2 i hi; (try dsimp only); omega⟩
/-- the median as the program has it -/
def med (a b c : Int) : Int := Max.max (Min.min a b) (Min.min (Max.max a b) c)
theorem Rd.med {g a : Nat → Span} {n : Nat} {x y z : Nat → Int} (hx : Rd g a n x) (hy : Rd g a n y) (hz : Rd g a n z) : Rd g a n (fun i => C2.med (x i) (y i) (z i)) :=
  (hx.min hy).max ((hx.max hy).min hz)
theorem ediv_mid {p D lo hi : Int} (hD : 0 < D) (h1 : D * lo ≤ p) (h2 : p ≤ D * hi) : lo ≤ p / D ∧ p / D ≤ hi := by
  have e1 : D * lo / D = lo := Int.mul_ediv_cancel_left lo (by omega)
  have e2 : D * hi / D = hi := Int.mul_ediv_cancel_left hi (by omega)
  exact ⟨by rw [← e1]; exact Int.ediv_le_ediv hD h1, by rw [← e2]; exact Int.ediv_le_ediv hD h2⟩
theorem ediv_shift {p q D c : Int} (hD : 0 < D) (h : p ≤ q + D * c) : p / D ≤ q / D + c := by
  have := Int.ediv_le_ediv hD h
  rwa [Int.add_mul_ediv_left _ _ (by omega)] at this
theorem ediv_shift2 {p q D c : Int} (hD : 0 < D) (h : q + D * c ≤ p) : q / D + c ≤ p / D := by
  have := Int.ediv_le_ediv hD h
  rwa [Int.add_mul_ediv_left _ _ (by omega)] at this
theorem mul_le {s a b : Int} (hs : 0 ≤ s) (h : a ≤ b) : s * a ≤ s * b := Int.mul_le_mul_of_nonneg_left h hs
/-- between two readings lie others -/
theorem Rd.conv {g a : Nat → Span} {n : Nat} {x y : Nat → Int} (hx : Rd g a n x) (hy : Rd g a n y) {s t : Int} (hs : 0 ≤ s) (ht : 0 ≤ t) (hD : 0 < s + t) : Rd g a n (fun i => (s * x i + t * y i) / (s + t)) := by
  refine ⟨fun i hi => ?_, fun i hi => ?_⟩
  · have h1 := hx.1 i hi; have h2 := hy.1 i hi
    refine ediv_mid hD ?_ ?_
    · rw [Int.add_mul]; have := mul_le hs h1.1; have := mul_le ht h2.1; omega
    · rw [Int.add_mul]; have := mul_le hs h1.2; have := mul_le ht h2.2; omega
  · have h1 := hx.2 i hi; have h2 := hy.2 i hi
    have a1 := mul_le hs h1.1; have a2 := mul_le ht h2.1; have a3 := mul_le hs h1.2; have a4 := mul_le ht h2.2
    rw [Int.mul_sub] at a1 a2 a3 a4
    have b1 := ediv_shift2 (p := s * x (i + 1) + t * y (i + 1)) (q := s * x i + t * y i) (c := (g i).Lo) hD (by rw [Int.add_mul]; omega)
    have b2 := ediv_shift (p := s * x (i + 1) + t * y (i + 1)) (q := s * x i + t * y i) (c := (g i).Hi) hD (by rw [Int.add_mul]; omega)
    (try dsimp only)
    omega
/-- each tick between the bounds is one of a reading -/
theorem tick_rd {g a : Nat → Span} {n : Nat} (hg : GapOk g n) (ho : okP g a n) {i : Nat} {v : Int} (h : (st g a n i).Lo ≤ v ∧ v ≤ (st g a n i).Hi) : ∃ x, Rd g a n x ∧ x i = v := by
  rcases Int.lt_or_le (st g a n i).Lo (st g a n i).Hi with h1 | h1
  · refine ⟨_, (lo_rd hg ho).conv (hi_rd hg ho) (s := (st g a n i).Hi - v) (t := v - (st g a n i).Lo) (by omega) (by omega) (by omega), ?_⟩
    (try dsimp only)
    have e : ((st g a n i).Hi - v) * (st g a n i).Lo + (v - (st g a n i).Lo) * (st g a n i).Hi = ((st g a n i).Hi - v + (v - (st g a n i).Lo)) * v := by
      simp only [Int.sub_mul, Int.add_mul]; rw [Int.mul_comm (st g a n i).Hi (st g a n i).Lo]; rw [Int.mul_comm v, Int.mul_comm v]; rw [Int.mul_comm (st g a n i).Lo v, Int.mul_comm (st g a n i).Hi v]; omega
    rw [e, Int.mul_ediv_cancel_left _ (by omega)]
  · exact ⟨_, lo_rd hg ho, by (try dsimp only); omega⟩
/-! ### two columns -/
/-- the greatest difference of two columns: no reading passes it, one reaches it -/
theorem mos_up {g B : Nat → Span} {n f i : Nat} {x : Nat → Int} (hx : Rd g B n x) (hf : f ≤ n) (hi : i ≤ n) : x i - x f ≤ mos g B n f i := by
  refine hi_st (x := fun j => x j - x f) (fun j hj => ?_) (fun j hj => ?_) hi
  · have h1 := hx.1 j hj; have h2 := hx.1 f hf
    unfold mosA; (try dsimp only); split
    · subst_vars; omega
    · omega
  · have := hx.2 j hj; (try dsimp only); omega
theorem mos_rd {g a : Nat → Span} {n f i : Nat} (hg : GapOk g n) (ho : okP g a n) (hf : f ≤ n) (hi : i ≤ n) : ∃ x, Rd g a n x ∧ x i - x f = mos g (st g a n) n f i := by
  have hlo := lo_rd hg ho
  have hlb : Rd g (st g a n) n (fun j => (st g a n j).Lo) := ⟨fun j hj => by have := ho j (by omega); (try dsimp only); omega, hlo.2⟩
  have hhb : Rd g (st g a n) n (fun j => (st g a n j).Hi) := ⟨fun j hj => by have := ho j (by omega); (try dsimp only); omega, (hi_rd hg ho).2⟩
  have hu := fun j (hj : j ≤ n) => mos_up hlb hf hj
  have hyd : ∀ j, j < n → (g j).Lo ≤ mos g (st g a n) n f (j + 1) - mos g (st g a n) n f j ∧ mos g (st g a n) n f (j + 1) - mos g (st g a n) n f j ≤ (g j).Hi := fun j hj => by
    have := st_fix hg (mosA (st g a n) f) hj; unfold mos; omega
  have hyh : ∀ j, j ≤ n → mos g (st g a n) n f j + (st g a n f).Lo ≤ (st g a n j).Hi := fun j hj => by
    have h1 := (st_in g (mosA (st g a n) f) hj).2
    have h2 : (mosA (st g a n) f j).Hi ≤ (st g a n j).Hi - (st g a n f).Lo := by unfold mosA; (try dsimp only); split <;> omega
    unfold mos; omega
  have hz : mos g (st g a n) n f f = 0 := by
    have h1 := (st_in g (mosA (st g a n) f) hf).2
    have h2 : (mosA (st g a n) f f).Hi ≤ 0 := by unfold mosA; (try dsimp only); rw [if_pos rfl]; omega
    have h3 := hu f hf
    (try dsimp only at h3)
    unfold mos at h3 ⊢
    omega
  have hR : Rd g a n (fun j => Max.max (st g a n j).Lo ((st g a n f).Lo + mos g (st g a n) n f j)) := by
    refine ⟨fun j hj => ?_, fun j hj => ?_⟩
    · have h1 := st_in g a hj; have h2 := ho j (by omega); have h3 := hyh j hj; (try dsimp only); omega
    · have h1 := hlo.2 j hj; have h2 := hyd j hj; (try dsimp only at h1 ⊢); omega
  refine ⟨_, hR, ?_⟩
  have h1 := hu i hi
  (try dsimp only at h1 ⊢)
  rw [hz]
  omega

/-! ### two marks are enough -/
end Go.Proofs.C2
/- Clocks: questions and answers, in plain Lean. -/
namespace Go.Proofs.C2
open Go Go.Kx

/-! ### answers -/
def losL (l : List Span) : List Int := (List.range l.length).map fun i => (gt l i).Lo
def hisL (l : List Span) : List Int := (List.range l.length).map fun i => (gt l i).Hi
def earR (d : Drum) (m : List Mark) : List Int × Int := if openE d m [] [] ≠ 0 then ([], openE d m [] []) else (losL (setD d m), 0)
def latR (d : Drum) (m : List Mark) : List Int × Int := if openE d m [] [] ≠ 0 then ([], openE d m [] []) else (hisL (setD d m), 0)
def spanR (d : Drum) (m : List Mark) (c : Int) : Span × Int := if openE d m [c] [] ≠ 0 then (⟨0, 0⟩, openE d m [c] []) else (gt (setD d m) c.toNat, 0)
/-- the settled clock -/
def setC (d : Drum) (m : List Mark) : Ck := ⟨gapL d, setD d m⟩
def betR (d : Drum) (m : List Mark) (a b : Int) : Span × Int := if openE d m [a, b] [] ≠ 0 then (⟨0, 0⟩, openE d m [a, b] []) else (betS (setC d m) a.toNat b.toNat, 0)
def wiC (d : Drum) (m : List Mark) (c : Nat) (t : Int) : Ck := withC (setC d m) c t
def withR (d : Drum) (m : List Mark) (c t : Int) : List Int × Int :=
  if openE d m [c] [t] ≠ 0 then ([], openE d m [c] [t]) else if okC (wiC d m c.toNat t) then (losL (setL (wiC d m c.toNat t)), 0) else ([], 3)
def runR (d : Drum) (m : List Mark) (t : Int) : List Span × Int :=
  if openE d m [] [t] ≠ 0 then ([], openE d m [] [t]) else if okC (wiC d m 0 t) then (setL (wiC d m 0 t), 0) else ([], 3)
/-- how many numbers at the head are at most a number, less one -/
def cntN (l : List Int) (t : Int) : Nat → Nat
  | 0 => 0
  | n + 1 => if gt l n ≤ t then n + 1 else cntN l t n
def pasS (l : List Int) (t : Int) : Int := (cntN l t l.length : Int) - 1
def atR (d : Drum) (m : List Mark) (t : Int) : Span × Int :=
  if openE d m [] [t] ≠ 0 then (⟨0, 0⟩, openE d m [] [t]) else (⟨pasS (hisL (setD d m)) t, pasS (losL (setD d m)) t⟩, 0)
def medL (a b c : List Int) : List Int := (List.range a.length).map fun i => med (gt a i) (gt b i) (gt c i)
def medR (d : Drum) (m : List Mark) (a b c : List Int) : List Int × Int :=
  if chkE d m ≠ 0 then ([], chkE d m) else if ¬ keepP d m a ∨ ¬ keepP d m b ∨ ¬ keepP d m c then ([], 22) else (medL a b c, 0)
def gapR (d : Drum) (c : Int) : Span × Int := if drumE d ≠ 0 then (⟨0, 0⟩, drumE d) else if 0 ≤ c ∧ c ≤ (d.Rates.length : Int) - 1 then (gapS d c.toNat, 0) else (⟨0, 0⟩, 1)
def agrR (d : Drum) (a b : Mark) : Bool × Int := feasR d [a, b]
def winD (d : Drum) (s : Stop) : Drum := ⟨d.Rates, d.Stops ++ [s]⟩
def winR (d : Drum) (s : Stop) : Drum × Int := if drumE d ≠ 0 then (⟨[], []⟩, drumE d) else if 16 ≤ d.Stops.length then (⟨[], []⟩, 2) else if drumE (winD d s) ≠ 0 then (⟨[], []⟩, 1) else (winD d s, 0)
def lowR (num den : Int) : Ratio := ⟨num.tdiv (Int.gcd num den), den.tdiv (Int.gcd num den)⟩
def drfR (d : Drum) (m : List Mark) (a b : Int) : Ratio × Ratio × Int :=
  if chkE d m ≠ 0 then (⟨0, 0⟩, ⟨0, 0⟩, chkE d m) else if ¬ (0 ≤ a ∧ a ≤ (d.Rates.length : Int)) ∨ ¬ (0 ≤ b ∧ b ≤ (d.Rates.length : Int)) ∨ b ≤ a then (⟨0, 0⟩, ⟨0, 0⟩, 1)
  else if (betR d m a b).2 ≠ 0 then (⟨0, 0⟩, ⟨0, 0⟩, (betR d m a b).2) else (lowR (betR d m a b).1.Lo (b - a), lowR (betR d m a b).1.Hi (b - a), 0)

/-! ### contradictions -/
def snglN (d : Drum) (m : List Mark) : Nat → List (List Int)
  | 0 => []
  | k + 1 => if okD d [gt m k] then snglN d m k else snglN d m k ++ [[(k : Int)]]
def pairP (d : Drum) (m : List Mark) (i k : Nat) : Prop := okD d [gt m i] ∧ okD d [gt m k] ∧ ¬ okD d [gt m i, gt m k]
instance (d : Drum) (m : List Mark) (i k : Nat) : Decidable (pairP d m i k) := by unfold pairP; exact inferInstance
/-- the pairs of i and a number from i + 1 on, below k -/
def rowN (d : Drum) (m : List Mark) (i : Nat) : Nat → List (List Int)
  | 0 => []
  | k + 1 => if i < k ∧ pairP d m i k then rowN d m i k ++ [[(i : Int), (k : Int)]] else rowN d m i k
def dblN (d : Drum) (m : List Mark) : Nat → List (List Int)
  | 0 => []
  | i + 1 => dblN d m i ++ rowN d m i m.length
def pairL (d : Drum) (m : List Mark) : List (List Int) := if okD d [] then snglN d m m.length ++ dblN d m m.length else [[]]
def prsR (d : Drum) (m : List Mark) : List (List Int) × Int := if chkE d m ≠ 0 then ([], chkE d m) else if pairL d m = [] then ([], 3) else (pairL d m, 0)
def conR (d : Drum) (m : List Mark) : List Int × Int := if (prsR d m).2 ≠ 0 then ([], (prsR d m).2) else (gt (prsR d m).1 0, 0)
/-- all sets of so many numbers below n, in order -/
def setsF (n : Nat) : Nat → List Int → Nat → List (List Int)
  | 0, l, _ => [l]
  | s + 1, l, next => (List.range (n - next)).flatMap fun j => setsF n s (l ++ [((next + j : Nat) : Int)]) (next + j + 1)
def hitB (bad : List (List Int)) (l : List Int) : Bool := bad.all fun p => p.any fun i => l.contains i
def drpN (bad : List (List Int)) (n size : Nat) : List (List Int) := (setsF n size [] 0).filter (hitB bad)
def drpF (bad : List (List Int)) (n : Nat) : Nat → Nat → List (List Int)
  | 0, _ => []
  | f + 1, s => if drpN bad n s = [] then drpF bad n f (s + 1) else drpN bad n s
def drpL (bad : List (List Int)) (n : Nat) : List (List Int) := drpF bad n (n + 1) 0
def drpR (d : Drum) (m : List Mark) : List (List Int) × Int :=
  if chkE d m ≠ 0 then ([], chkE d m) else if 12 < m.length then ([], 2) else if okD d [] then (drpL (pairL d m) m.length, 0) else ([], 22)
end Go.Proofs.C2
