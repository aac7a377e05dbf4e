import Derived.Test.YtmnipmbgdbdjeaaC2Spec2
/- Clocks: readings and further marks, in plain Lean. -/
namespace Go.Proofs.C2
open Go Go.Kx

theorem losL_len (l : List Span) : (losL l).length = l.length := map_len _ _
theorem hisL_len (l : List Span) : (hisL l).length = l.length := map_len _ _
theorem losL_at {l : List Span} {i : Nat} (h : i < l.length) : gt (losL l) i = (gt l i).Lo := gt_map h
theorem hisL_at {l : List Span} {i : Nat} (h : i < l.length) : gt (hisL l) i = (gt l i).Hi := gt_map h
theorem Rd.congr {g a : Nat → Span} {n : Nat} {x y : Nat → Int} (h : Rd g a n x) (he : ∀ i, i ≤ n → y i = x i) : Rd g a n y :=
  ⟨fun i hi => by rw [he i hi]; exact h.1 i hi, fun i hi => by rw [he i (by omega), he (i + 1) (by omega)]; exact h.2 i hi⟩
theorem lo_at {d : Drum} {m : List Mark} {i : Nat} (h : i ≤ d.Rates.length) : gt (losL (setD d m)) i = (stD d m i).Lo := by rw [losL_at (by rw [setD_len]; omega), setD_at h]
theorem hi_at {d : Drum} {m : List Mark} {i : Nat} (h : i ≤ d.Rates.length) : gt (hisL (setD d m)) i = (stD d m i).Hi := by rw [hisL_at (by rw [setD_len]; omega), setD_at h]
theorem los_keep {d : Drum} {m : List Mark} (hd : drumP d) (ho : okD d m) : keepP d m (losL (setD d m)) :=
  keepP_rd.2 ⟨by rw [losL_len, setD_len], (lo_rd (gap_ok hd) ho).congr fun _ hi => lo_at hi⟩
theorem his_keep {d : Drum} {m : List Mark} (hd : drumP d) (ho : okD d m) : keepP d m (hisL (setD d m)) :=
  keepP_rd.2 ⟨by rw [hisL_len, setD_len], (hi_rd (gap_ok hd) ho).congr fun _ hi => hi_at hi⟩
def minL (a b : List Int) : List Int := (List.range a.length).map fun i => min (gt a i) (gt b i)
def maxL (a b : List Int) : List Int := (List.range a.length).map fun i => max (gt a i) (gt b i)
/-! ### marks one by one -/
def colsOk (d : Drum) (m : List Mark) : Prop := ∀ x, x ∈ m → 0 ≤ x.Column ∧ x.Column ≤ (d.Rates.length : Int)
theorem stD_bd {d : Drum} {m : List Mark} (h : Ok d m) (ho : okD d m) {i : Nat} (hi : i ≤ d.Rates.length) : (0 ≤ (stD d m i).Lo ∧ (stD d m i).Lo ≤ (stD d m i).Hi) ∧ (stD d m i).Hi ≤ 400 := by
  have h1 := ho i (by omega); have h2 := st_in (gapS d) (atS m) hi; have h3 := atS_bd h i; unfold stD; omega
theorem setC_w {d : Drum} {m : List Mark} (h : Ok d m) (ho : okD d m) : CkW (setC d m) := by
  refine ⟨by show (setD d m).length = (gapL d).length + 1; rw [gapL_len, setD_len], by show (gapL d).length ≤ 199; rw [gapL_len]; exact h.dr.1.1.2, fun i hi => ?_, fun i hi => ?_⟩
  · have hi' : i < (gapL d).length := hi
    rw [gapL_len] at hi'
    show (1 ≤ (gt (gapL d) i).Lo ∧ _) ∧ _
    have : gt (setC d m).gaps i = gapS d i := gapL_at hi'
    rw [this]; rw [gapL_at hi']; exact gapS_bd h.dr hi'
  · have hi' : i < (setD d m).length := hi
    rw [setD_len] at hi'
    have : gt (setC d m).at_ i = stD d m i := setD_at (by omega)
    rw [this]; have := stD_bd h ho (i := i) (by omega); omega
theorem narL_len (c : Ck) (k : Nat) (s : Span) : (narL c k s).length = c.at_.length := by simp [narL]
theorem narL_at (c : Ck) {k i : Nat} (s : Span) (hi : i < c.at_.length) : gt (narL c k s) i = if k = i then meet (gt c.at_ i) s else gt c.at_ i := by
  rw [narL, gt_set _ _ hi]; split
  · subst_vars; rfl
  · rfl
theorem withC_w {c : Ck} (h : CkW c) (k : Nat) {t : Int} (ht : 0 ≤ t ∧ t ≤ 400) : CkW (withC c k t) := by
  refine ⟨by show (narL c k _).length = _; rw [narL_len]; exact h.l, h.n, h.g, fun i hi => ?_⟩
  have hi' : i < (narL c k ⟨t, t⟩).length := hi
  rw [narL_len] at hi'
  have : gt (withC c k t).at_ i = if k = i then meet (gt c.at_ i) ⟨t, t⟩ else gt c.at_ i := narL_at c _ hi'
  rw [this]; have h1 := h.a i hi'; split
  · rw [meet_lo, meet_hi]; (try dsimp only); omega
  · exact h1
theorem wi_w {d : Drum} {m : List Mark} (h : Ok d m) (ho : okD d m) (k : Nat) {t : Int} (ht : 0 ≤ t ∧ t ≤ 400) : CkW (wiC d m k t) := withC_w (setC_w h ho) k ht
/-- a tick is a mark -/
def oneM (k : Nat) (t : Int) : Mark := ⟨(k : Int), ⟨t, t⟩⟩
end Go.Proofs.C2
