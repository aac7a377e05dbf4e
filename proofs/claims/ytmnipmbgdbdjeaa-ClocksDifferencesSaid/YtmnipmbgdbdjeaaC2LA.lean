import Derived.Test.YtmnipmbgdbdjeaaC2Spec
/- Clocks: readings and further marks, in plain Lean. -/
namespace Go.Proofs.C2
open Go Go.Kx

theorem losL_len (l : List Span) : (losL l).length = l.length := map_len _ _
theorem hisL_len (l : List Span) : (hisL l).length = l.length := map_len _ _
theorem losL_at {l : List Span} {i : Nat} (h : i < l.length) : gt (losL l) i = (gt l i).Lo := gt_map h
theorem hisL_at {l : List Span} {i : Nat} (h : i < l.length) : gt (hisL l) i = (gt l i).Hi := gt_map h
theorem Rd.congr {g a : Nat → Span} {n : Nat} {x y : Nat → Int} (h : Rd g a n x) (he : ∀ i, i ≤ n → y i = x i) : Rd g a n y :=
  ⟨fun i hi => by rw [he i hi]; exact h.1 i hi, fun i hi => by rw [he i (by omega), he (i + 1) (by omega)]; exact h.2 i hi⟩
theorem lo_at {d : Drum} {m : List Mark} {i : Nat} (h : i ≤ d.Rates.length) : gt (losL (setD d m)) i = (stD d m i).Lo := by rw [losL_at (by rw [setD_len]; omega), setD_at h]
theorem hi_at {d : Drum} {m : List Mark} {i : Nat} (h : i ≤ d.Rates.length) : gt (hisL (setD d m)) i = (stD d m i).Hi := by rw [hisL_at (by rw [setD_len]; omega), setD_at h]
theorem los_keep {d : Drum} {m : List Mark} (hd : drumP d) (ho : okD d m) : keepP d m (losL (setD d m)) :=
  keepP_rd.2 ⟨by rw [losL_len, setD_len], (lo_rd (gap_ok hd) ho).congr fun _ hi => lo_at hi⟩
theorem his_keep {d : Drum} {m : List Mark} (hd : drumP d) (ho : okD d m) : keepP d m (hisL (setD d m)) :=
  keepP_rd.2 ⟨by rw [hisL_len, setD_len], (hi_rd (gap_ok hd) ho).congr fun _ hi => hi_at hi⟩
def minL (a b : List Int) : List Int := (List.range a.length).map fun i => min (gt a i) (gt b i)
def maxL (a b : List Int) : List Int := (List.range a.length).map fun i => max (gt a i) (gt b i)
/-! ### marks one by one -/
def colsOk (d : Drum) (m : List Mark) : Prop := ∀ x, x ∈ m → 0 ≤ x.Column ∧ x.Column ≤ (d.Rates.length : Int)
theorem Ok.cols {d : Drum} {m : List Mark} (h : Ok d m) : colsOk d m := fun x hx => by
  obtain ⟨i, hi, rfl⟩ := mem_gt hx
  exact (h.col hi).1
theorem rd_mem {d : Drum} {m : List Mark} (hc : colsOk d m) {y : Nat → Int} : RdD d m y ↔ RdD d [] y ∧ ∀ x, x ∈ m → x.Ticks.Lo ≤ y x.Column.toNat ∧ y x.Column.toNat ≤ x.Ticks.Hi := by
  constructor
  · intro h
    refine ⟨⟨fun i hi => ?_, h.2⟩, fun x hx => ?_⟩
    · exact ((atS_iff m i _).1 (h.1 i hi)).1
    · have h1 := hc x hx
      obtain ⟨j, hj, rfl⟩ := mem_gt hx
      exact ((atS_iff m _ _).1 (h.1 (gt m j).Column.toNat (by omega))).2 j hj (by omega)
  · intro h
    refine ⟨fun i hi => (atS_iff m i _).2 ⟨h.1.1 i hi, fun j hj hcj => ?_⟩, h.1.2⟩
    have h1 := h.2 _ (gt_mem hj)
    rwa [show (gt m j).Column.toNat = i by omega] at h1
theorem cols_app {d : Drum} {m p : List Mark} (h1 : colsOk d m) (h2 : colsOk d p) : colsOk d (m ++ p) := fun x hx => by
  rcases List.mem_append.1 hx with h | h
  · exact h1 x h
  · exact h2 x h
theorem rd_app {d : Drum} {m p : List Mark} (h1 : colsOk d m) (h2 : colsOk d p) {y : Nat → Int} : RdD d (m ++ p) y ↔ RdD d m y ∧ ∀ x, x ∈ p → x.Ticks.Lo ≤ y x.Column.toNat ∧ y x.Column.toNat ≤ x.Ticks.Hi := by
  rw [rd_mem (cols_app h1 h2), rd_mem h1]
  constructor
  · intro h; exact ⟨⟨h.1, fun x hx => h.2 x (List.mem_append_left _ hx)⟩, fun x hx => h.2 x (List.mem_append_right _ hx)⟩
  · intro h; exact ⟨h.1.1, fun x hx => by rcases List.mem_append.1 hx with hx | hx; exact h.1.2 x hx; exact h.2 x hx⟩
theorem ok_ex {d : Drum} (hd : drumP d) {m : List Mark} : okD d m ↔ ∃ x, RdD d m x := ok_iff (gap_ok hd)
/-- readings lie within the settled bounds, and what lies within them is a reading -/
theorem rd_set {d : Drum} {m : List Mark} {x : Nat → Int} : Rd (gapS d) (stD d m) d.Rates.length x ↔ RdD d m x :=
  ⟨fun h => ⟨fun i hi => by have h1 := h.1 i hi; have h2 := st_in (gapS d) (atS m) hi; unfold stD at h1; omega, h.2⟩, fun h => ⟨fun i hi => h.st hi, h.2⟩⟩
theorem stD_bd {d : Drum} {m : List Mark} (h : Ok d m) (ho : okD d m) {i : Nat} (hi : i ≤ d.Rates.length) : (0 ≤ (stD d m i).Lo ∧ (stD d m i).Lo ≤ (stD d m i).Hi) ∧ (stD d m i).Hi ≤ 400 := by
  have h1 := ho i (by omega); have h2 := st_in (gapS d) (atS m) hi; have h3 := atS_bd h i; unfold stD; omega
theorem setC_w {d : Drum} {m : List Mark} (h : Ok d m) (ho : okD d m) : CkW (setC d m) := by
  refine ⟨by show (setD d m).length = (gapL d).length + 1; rw [gapL_len, setD_len], by show (gapL d).length ≤ 199; rw [gapL_len]; exact h.dr.1.1.2, fun i hi => ?_, fun i hi => ?_⟩
  · have hi' : i < (gapL d).length := hi
    rw [gapL_len] at hi'
    show (1 ≤ (gt (gapL d) i).Lo ∧ _) ∧ _
    have : gt (setC d m).gaps i = gapS d i := gapL_at hi'
    rw [this]; rw [gapL_at hi']; exact gapS_bd h.dr hi'
  · have hi' : i < (setD d m).length := hi
    rw [setD_len] at hi'
    have : gt (setC d m).at_ i = stD d m i := setD_at (by omega)
    rw [this]; have := stD_bd h ho (i := i) (by omega); omega
theorem narL_len (c : Ck) (k : Nat) (s : Span) : (narL c k s).length = c.at_.length := by simp [narL]
theorem narL_at (c : Ck) {k i : Nat} (s : Span) (hi : i < c.at_.length) : gt (narL c k s) i = if k = i then meet (gt c.at_ i) s else gt c.at_ i := by
  rw [narL, gt_set _ _ hi]; split
  · subst_vars; rfl
  · rfl
theorem withC_w {c : Ck} (h : CkW c) (k : Nat) {t : Int} (ht : 0 ≤ t ∧ t ≤ 400) : CkW (withC c k t) := by
  refine ⟨by show (narL c k _).length = _; rw [narL_len]; exact h.l, h.n, h.g, fun i hi => ?_⟩
  have hi' : i < (narL c k ⟨t, t⟩).length := hi
  rw [narL_len] at hi'
  have : gt (withC c k t).at_ i = if k = i then meet (gt c.at_ i) ⟨t, t⟩ else gt c.at_ i := narL_at c _ hi'
  rw [this]; have h1 := h.a i hi'; split
  · rw [meet_lo, meet_hi]; (try dsimp only); omega
  · exact h1
theorem wi_w {d : Drum} {m : List Mark} (h : Ok d m) (ho : okD d m) (k : Nat) {t : Int} (ht : 0 ≤ t ∧ t ≤ 400) : CkW (wiC d m k t) := withC_w (setC_w h ho) k ht
/-- a clock with a tick: its readings -/
theorem wi_rd {d : Drum} {m : List Mark} {k : Nat} (hk : k ≤ d.Rates.length) {t : Int} {x : Nat → Int} : Rd (gt (wiC d m k t).gaps) (gt (wiC d m k t).at_) (wiC d m k t).gaps.length x ↔ RdD d m x ∧ x k = t := by
  have hn : (wiC d m k t).gaps.length = d.Rates.length := gapL_len d
  have hg : ∀ i, i < d.Rates.length → gt (wiC d m k t).gaps i = gapS d i := fun i hi => gapL_at hi
  have ha : ∀ i, i ≤ d.Rates.length → gt (wiC d m k t).at_ i = if k = i then meet (stD d m i) ⟨t, t⟩ else stD d m i := fun i hi => by
    have h1 : i < (setC d m).at_.length := by show i < (setD d m).length; rw [setD_len]; omega
    have h2 : gt (setC d m).at_ i = stD d m i := setD_at hi
    show gt (narL (setC d m) k ⟨t, t⟩) i = _
    rw [narL_at _ _ h1, h2]
  rw [hn]
  rw [← rd_set]
  constructor
  · intro h
    refine ⟨⟨fun i hi => ?_, fun i hi => by rw [← hg i hi]; exact h.2 i hi⟩, ?_⟩
    · have h1 := h.1 i hi
      rw [ha i hi] at h1
      split at h1
      · rw [meet_lo, meet_hi] at h1; omega
      · exact h1
    · have h1 := h.1 k hk
      rw [ha k hk, if_pos rfl, meet_lo, meet_hi] at h1
      (try dsimp only at h1); omega
  · intro h
    refine ⟨fun i hi => ?_, fun i hi => by rw [hg i hi]; exact h.1.2 i hi⟩
    have h1 := h.1.1 i hi
    rw [ha i hi]; split
    · subst_vars; rw [meet_lo, meet_hi]; (try dsimp only); omega
    · exact h1
theorem wi_gap {d : Drum} {m : List Mark} (h : drumP d) (k : Nat) (t : Int) : GapOk (gt (wiC d m k t).gaps) (wiC d m k t).gaps.length := fun i hi => by
  have hi' : i < d.Rates.length := by have : i < (gapL d).length := hi; rwa [gapL_len] at this
  have : gt (wiC d m k t).gaps i = gapS d i := gapL_at hi'
  rw [this]; exact gap_ok h i hi'
theorem wi_ok {d : Drum} {m : List Mark} (h : drumP d) {k : Nat} (hk : k ≤ d.Rates.length) {t : Int} : okC (wiC d m k t) ↔ okD d m ∧ (stD d m k).Lo ≤ t ∧ t ≤ (stD d m k).Hi := by
  unfold okC
  rw [ok_iff (wi_gap h k t)]
  constructor
  · rintro ⟨x, hx⟩
    have h1 := (wi_rd hk).1 hx
    have h2 := h1.1.st hk
    rw [h1.2] at h2
    exact ⟨h1.1.ok, h2⟩
  · intro h1
    obtain ⟨x, hx, he⟩ := tick_rd (gap_ok h) h1.1 h1.2
    exact ⟨x, (wi_rd hk).2 ⟨hx, he⟩⟩
/-- a tick is a mark -/
def oneM (k : Nat) (t : Int) : Mark := ⟨(k : Int), ⟨t, t⟩⟩
theorem cols_one {d : Drum} {k : Nat} (hk : k ≤ d.Rates.length) (t : Int) : colsOk d [oneM k t] := fun x hx => by
  rw [List.mem_singleton.1 hx]; unfold oneM; (try dsimp only); omega
theorem rd_one {d : Drum} {m : List Mark} (h : colsOk d m) {k : Nat} (hk : k ≤ d.Rates.length) {t : Int} {x : Nat → Int} : RdD d (m ++ [oneM k t]) x ↔ RdD d m x ∧ x k = t := by
  rw [rd_app h (cols_one hk t)]
  refine and_congr_right fun _ => ?_
  constructor
  · intro hx
    have := hx _ (List.mem_singleton.2 rfl)
    unfold oneM at this; (try dsimp only at this)
    rw [Int.toNat_natCast] at this; omega
  · intro hx y hy
    rw [List.mem_singleton.1 hy]; unfold oneM; (try dsimp only)
    rw [Int.toNat_natCast]; omega
theorem ok_one {d : Drum} (hd : drumP d) {m : List Mark} (h : colsOk d m) {k : Nat} (hk : k ≤ d.Rates.length) {t : Int} : okD d (m ++ [oneM k t]) ↔ okD d m ∧ (stD d m k).Lo ≤ t ∧ t ≤ (stD d m k).Hi := by
  rw [← wi_ok hd hk]
  unfold okC
  rw [ok_ex hd, ok_iff (wi_gap hd k t)]
  exact ⟨fun ⟨x, hx⟩ => ⟨x, (wi_rd hk).2 ((rd_one h hk).1 hx)⟩, fun ⟨x, hx⟩ => ⟨x, (rd_one h hk).2 ((wi_rd hk).1 hx)⟩⟩
theorem wi_set {d : Drum} (hd : drumP d) {m : List Mark} (h : colsOk d m) {k : Nat} (hk : k ≤ d.Rates.length) {t : Int} (ho : okC (wiC d m k t)) : setL (wiC d m k t) = setD d (m ++ [oneM k t]) := by
  have hn : (wiC d m k t).gaps.length = d.Rates.length := gapL_len d
  unfold setL setD
  rw [hn]
  refine map_congr fun i hi => ?_
  have hu := (st_uniq (b := atS (m ++ [oneM k t])) (wi_gap (m := m) hd k t) (fun x => ?_)).2 ho i (by omega)
  · rw [hn] at hu
    rw [hu]
    exact st_congr (fun j hj => gapL_at hj) (fun _ _ => rfl) (by omega)
  · rw [wi_rd hk, ← rd_one h hk, hn]
    constructor
    · intro hx; exact ⟨hx.1, fun j hj => by rw [show gt (wiC d m k t).gaps j = gapS d j from gapL_at hj]; exact hx.2 j hj⟩
    · intro hx; exact ⟨hx.1, fun j hj => by rw [← show gt (wiC d m k t).gaps j = gapS d j from gapL_at hj]; exact hx.2 j hj⟩
end Go.Proofs.C2
