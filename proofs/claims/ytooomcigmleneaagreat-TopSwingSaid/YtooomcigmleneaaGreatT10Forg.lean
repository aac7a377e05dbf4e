import Derived.Test.YtooomcigmleneaaGreatT10Seg
import Derived.Test.YtooomcigmleneaaGreatKxY
import Derived.Test.YtooomcigmleneaaGreatKyA
import Derived.Test.YtooomcigmleneaaGreatKxX
/- Top: how the program finds where a pen forgets, in plain Lean. -/
namespace Go.Proofs.T10
open Go Go.Kx
theorem listedE_of {p : Pen} {l : List Int} (h : listedE p l = 0) : penP p ∧ (1 ≤ l.length ∧ l.length ≤ 401) ∧ lvlP l := by
  unfold listedE at h
  split at h
  · contradiction
  · exact ⟨penP_of (by omega), listE_of h⟩
theorem lo_step {b : Int} (hb : 0 ≤ b) (L : List Int) : ∀ k : Nat, clampN b (loN b L (k - 1)) (gt L k) = loN b L k
  | 0 => by show clampN b (gt L 0 - b) (gt L 0) = gt L 0 - b; unfold clampN; omega
  | k + 1 => rfl
theorem hi_step {b : Int} (L : List Int) : ∀ k : Nat, clampN b (hiN b L (k - 1)) (gt L k) = hiN b L k
  | 0 => by show clampN b (gt L 0 + b) (gt L 0) = gt L 0 + b; unfold clampN; omega
  | k + 1 => rfl
def OutI (b : Int) (L : List Int) (k : Nat) (out : Int) : Prop := (out = -1 ∧ ∀ j, j < k → ¬ loN b L j = hiN b L j) ∨ (∃ f : Nat, out = f ∧ f < k ∧ isFrom b L f)
theorem out_start (b : Int) (L : List Int) : OutI b L 0 (-1) := .inl ⟨rfl, fun _ hj => absurd hj (Nat.not_lt_zero _)⟩
theorem out_hit {b : Int} {L : List Int} {k : Nat} {out : Int} (h : OutI b L k out) (h0 : out < 0) (he : loN b L k = hiN b L k) : OutI b L (k + 1) k := by
  rcases h with ⟨_, h2⟩ | ⟨f, h1, _⟩
  · exact .inr ⟨k, rfl, by omega, he, h2⟩
  · omega
theorem out_miss {b : Int} {L : List Int} {k : Nat} {out : Int} (h : OutI b L k out) (hm : ¬ (out < 0 ∧ loN b L k = hiN b L k)) : OutI b L (k + 1) out := by
  rcases h with ⟨h1, h2⟩ | ⟨f, h1, h2, h3⟩
  · refine .inl ⟨h1, fun j hj he => ?_⟩
    rcases Nat.lt_succ_iff_lt_or_eq.1 hj with h3 | h3
    · exact h2 j h3 he
    · subst h3; exact hm ⟨by omega, he⟩
  · exact .inr ⟨f, h1, by omega, h3⟩
theorem out_end {b : Int} {L : List Int} {k : Nat} {out : Int} (h : OutI b L k out) (h0 : ¬ out < 0) : ∃ f : Nat, out = f ∧ f < k ∧ isFrom b L f := by
  rcases h with ⟨h1, _⟩ | h1
  · omega
  · exact h1
end Go.Proofs.T10
/- Top: lists of spans that are levels, in plain Lean. -/
namespace Go.Proofs.T10
open Go Go.Kx
def spB (L : List Span) : Prop := ∀ s ∈ L, (0 ≤ s.Lo ∧ s.Lo ≤ 12000) ∧ 0 ≤ s.Hi ∧ s.Hi ≤ 12000
theorem spB_at {L : List Span} (h : spB L) {i : Nat} (hi : i < L.length) : (0 ≤ (gt L i).Lo ∧ (gt L i).Lo ≤ 12000) ∧ 0 ≤ (gt L i).Hi ∧ (gt L i).Hi ≤ 12000 := h _ (mem_gt0 hi)
theorem spB_nil : spB [] := fun _ h => by simp at h
theorem spB_snoc {L : List Span} {s : Span} (h : spB L) (hs : (0 ≤ s.Lo ∧ s.Lo ≤ 12000) ∧ 0 ≤ s.Hi ∧ s.Hi ≤ 12000) : spB (L ++ [s]) := fun x hx => by
  rcases List.mem_append.1 hx with h1 | h1
  · exact h x h1
  · rw [List.mem_singleton.1 h1]; exact hs
theorem spB_set {L : List Span} {s : Span} {i : Nat} (h : spB L) (hs : (0 ≤ s.Lo ∧ s.Lo ≤ 12000) ∧ 0 ≤ s.Hi ∧ s.Hi ≤ 12000) : spB (L.set i s) := fun x hx => by
  rcases List.mem_or_eq_of_mem_set hx with h1 | h1
  · exact h x h1
  · rw [h1]; exact hs
theorem spB_app {L M : List Span} (h : spB L) (h' : spB M) : spB (L ++ M) := fun x hx => by
  rcases List.mem_append.1 hx with h1 | h1
  · exact h x h1
  · exact h' x h1
theorem spB_perm {L M : List Span} (h : spB L) (hp : M.Perm L) : spB M := fun x hx => h x (hp.mem_iff.1 hx)
end Go.Proofs.T10
/- Top: the printed heights of a point, and what a sheet shows in a column; in plain Lean. -/
namespace Go.Proofs.T10
open Go Go.Kx
def yLo (f : Paper) (t : Point) : Int := (placesS t.Y t.Half f.Across).Lo
def yHi (f : Paper) (t : Point) : Int := min (placesS t.Y t.Half f.Across).Hi f.Height
def lineNo (f : Paper) (t : Point) : Nat := (yHi f t + 1 - yLo f t).toNat
def lineC (f : Paper) (t : Point) (y : Int) : Span := ⟨((placesS t.X t.Half f.Along).Lo - arcI f y) / f.Pitch, ((placesS t.X t.Half f.Along).Hi - arcI f y) / f.Pitch⟩
abbrev yK (f : Paper) (t : Point) (i : Nat) : Int := yLo f t + (i : Int)
abbrev lnC (f : Paper) (t : Point) (i : Nat) : Span := lineC f t (yK f t i)
def lineA (f : Paper) (t : Point) : Nat → Mem → Array Value → Prop := fun i _ args => args = #[.int .i64 (yLo f t + i), .agg [.int .i64 (lineC f t (yLo f t + i)).Lo, .int .i64 (lineC f t (yLo f t + i)).Hi].toArray]
theorem lineA_eq {f : Paper} {t : Point} {k : Nat} {y a b : Int} (h1 : y = yLo f t + k) (h2 : a = (lineC f t y).Lo) (h3 : b = (lineC f t y).Hi) (m : Mem) : lineA f t k m #[.int .i64 y, .agg [.int .i64 a, .int .i64 b].toArray] := by subst h1 h2 h3; rfl
theorem yLo_bd {f : Paper} {t : Point} (hf : paperP f) (ht : pointP t) : 0 ≤ yLo f t ∧ yLo f t ≤ 405000000 ∧ yHi f t ≤ f.Height := by
  unfold pointP at ht
  have h := places_bd ht.2.1 ht.2.2 hf.2.2.2.2
  unfold yLo yHi
  omega
theorem line_y {f : Paper} {t : Point} (hf : paperP f) (ht : pointP t) {k : Nat} (hk : k < lineNo f t) : 0 ≤ yLo f t + k ∧ yLo f t + k ≤ f.Height := by
  have := yLo_bd hf ht
  unfold lineNo at hk
  omega
theorem line_bd {f : Paper} {t : Point} (hf : paperP f) (ht : pointP t) {y : Int} (hy : 0 ≤ y ∧ y ≤ f.Height) : (-1000000000000 ≤ (lineC f t y).Lo ∧ (lineC f t y).Lo ≤ 1000000000000) ∧ (-1000000000000 ≤ (lineC f t y).Hi ∧ (lineC f t y).Hi ≤ 1000000000000) := by
  have ha := arc_bd hf hy
  unfold pointP at ht
  have h := places_bd ht.1 ht.2.2 hf.2.2.2.1
  have hp := hf.1.1
  unfold lineC
  exact ⟨ediv_bd (by omega) (by omega) (by omega), ediv_bd (by omega) (by omega) (by omega)⟩
def readE (p : Paper) (l : List Point) : Int := if paperE p ≠ 0 then paperE p else traceE l
theorem readE_bad {p : Paper} {l : List Point} (h : paperE p ≠ 0) : readE p l = paperE p := if_pos h
theorem readE_ok {p : Paper} {l : List Point} (h : ¬ paperE p ≠ 0) : readE p l = traceE l := if_neg h
theorem readE_of {p : Paper} {l : List Point} (h : readE p l = 0) : paperP p ∧ l.length ≤ 2000 ∧ traceP l := by
  unfold readE at h
  split at h
  · contradiction
  · exact ⟨paperP_of (by omega), traceE_of h⟩
end Go.Proofs.T10
/- Top: what a sheet shows in its columns, in plain Lean. -/
namespace Go.Proofs.T10
open Go Go.Kx
theorem spB_mrg1 {L : List Span} {x : Span} (h : spB L) (hx : (0 ≤ x.Lo ∧ x.Lo ≤ 12000) ∧ 0 ≤ x.Hi ∧ x.Hi ≤ 12000) : spB (mrg1 L x) := by
  unfold mrg1
  split
  · rename_i h1
    have h2 := spB_at h (i := L.length - 1) (by omega)
    refine spB_set h ?_
    dsimp only
    omega
  · exact spB_snoc h hx
theorem set_at {xs : List Value} {off : Nat} {v : Value} (h : off < xs.length) : (xs.set off v)[off]? = some v := by simp [h]
theorem mrg1_len (L : List Span) (x : Span) : L.length ≤ (mrg1 L x).length ∧ (mrg1 L x).length ≤ L.length + 1 := by
  unfold mrg1; split <;> simp
theorem spB_mrgL {l : List Span} (h : spB l) : spB (mrgL l) ∧ (mrgL l).length ≤ l.length := by
  induction hn : l.length generalizing l with
  | zero => obtain rfl := List.length_eq_zero_iff.1 hn; exact ⟨spB_nil, Nat.le_refl _⟩
  | succ n ih =>
    obtain ⟨r, x, rfl⟩ := snoc_cases l (by omega)
    have h1 := ih (l := r) (fun s hs => h s (List.mem_append_left _ hs)) (by simpa using hn)
    rw [mrgL_snoc]
    have h2 := mrg1_len (mrgL r) x
    exact ⟨spB_mrg1 h1.1 (h x (by simp)), by omega⟩
theorem mrgL_take {R : List Span} {k : Nat} (hk : k < R.length) : mrgL (R.take (k + 1)) = mrg1 (mrgL (R.take k)) (gt R k) := by
  rw [List.take_succ_eq_append_getElem hk, mrgL_snoc]
  congr 1
  simp [gt, List.getD, hk]
theorem mrg1_yes {L : List Span} {x : Span} (h : 0 < L.length ∧ x.Lo ≤ (gt L (L.length - 1)).Hi + 1) : mrg1 L x = L.set (L.length - 1) ⟨(gt L (L.length - 1)).Lo, max (gt L (L.length - 1)).Hi x.Hi⟩ := if_pos h
theorem mrg1_no {L : List Span} {x : Span} (h : ¬ (0 < L.length ∧ x.Lo ≤ (gt L (L.length - 1)).Hi + 1)) : mrg1 L x = L ++ [x] := if_neg h
theorem bdS_spB {L : List Span} (h : spB L) : bdS L := bdS_of fun s hs => by have := h s hs; omega
theorem two_len {A B : List Span} (ha : A.length ≤ 50000) (hb : B.length ≤ 50000) : ∀ i, i < [A, B].length → (gt [A, B] i).length ≤ 50000 := fun i hi => by
  match i, hi with
  | 0, _ => exact ha
  | 1, _ => exact hb
theorem can_len {lo hi : Int} : ∀ {l : List Span}, Can l → (∀ s ∈ l, lo ≤ s.Lo ∧ s.Hi ≤ hi) → 0 < l.length → 2 * (l.length : Int) ≤ hi - lo + 2
  | [], _, _, h => absurd h (Nat.lt_irrefl _)
  | [s], hc, hb, _ => by have h1 := hb s (by simp); have h2 : s.Lo ≤ s.Hi := hc; show 2 * ((1 : Nat) : Int) ≤ _; omega
  | s :: t :: r, hc, hb, _ => by
    have h1 := hc.1
    have h2 := hc.2.1
    have h3 := hb s (by simp)
    have ih := can_len (lo := s.Hi + 2) (hi := hi) hc.2.2 (fun x hx => ⟨by
      have := Can.above hc x.Lo ⟨x, hx, Int.le_refl _, can_valid hc.2.2 x hx⟩; omega, (hb x (List.mem_cons_of_mem _ hx)).2⟩) (by simp)
    simp only [List.length_cons] at ih ⊢
    omega
theorem can_short {l : List Span} (hc : Can l) (hb : spB l) : l.length ≤ 6001 := by
  by_cases h0 : 0 < l.length
  · have := can_len (lo := 0) (hi := 12000) hc (fun s hs => by have := hb s hs; omega) h0; omega
  · omega
def risN (f : Paper) (t : Point) (c : Int) : Nat → List Span
  | 0 => []
  | k + 1 => if (lnC f t k).Lo ≤ c ∧ c ≤ (lnC f t k).Hi then mrg1 (risN f t c k) ⟨levelI f (yK f t k), levelI f (yK f t k)⟩ else risN f t c k
theorem risN_yes {f : Paper} {t : Point} {c : Int} {k : Nat} (h : (lnC f t k).Lo ≤ c ∧ c ≤ (lnC f t k).Hi) : risN f t c (k + 1) = mrg1 (risN f t c k) ⟨levelI f (yK f t k), levelI f (yK f t k)⟩ := if_pos h
theorem risN_no {f : Paper} {t : Point} {c : Int} {k : Nat} (h : ¬ ((lnC f t k).Lo ≤ c ∧ c ≤ (lnC f t k).Hi)) : risN f t c (k + 1) = risN f t c k := if_neg h
theorem level_mono {f : Paper} (hf : paperP f) {y z : Int} (h : y ≤ z) : levelI f y ≤ levelI f z := by
  have h1 := hf.1.2.1
  have h2 := hf.2.1
  unfold levelI
  have h3 : y * (f.High - f.Low) ≤ z * (f.High - f.Low) := Int.mul_le_mul_of_nonneg_right h (by omega)
  have := Int.ediv_le_ediv (show 0 < f.Height by omega) h3
  omega
def tkN (f : Paper) (t : Point) (c : Int) : Nat → List Span
  | 0 => []
  | k + 1 => if (lnC f t k).Lo ≤ c ∧ c ≤ (lnC f t k).Hi then tkN f t c k ++ [⟨levelI f (yK f t k), levelI f (yK f t k)⟩] else tkN f t c k
theorem ris_tk (f : Paper) (t : Point) (c : Int) : ∀ k, risN f t c k = mrgL (tkN f t c k)
  | 0 => rfl
  | k + 1 => by
    rw [risN, tkN, ris_tk f t c k]
    split
    · rw [mrgL_snoc]
    · rfl
theorem tk_has {f : Paper} {t : Point} {c : Int} {s : Span} : ∀ {k : Nat}, s ∈ tkN f t c k → ∃ j, j < k ∧ s = ⟨levelI f (yK f t j), levelI f (yK f t j)⟩
  | 0, h => by cases h
  | k + 1, h => by
    rw [tkN] at h
    split at h
    · rcases List.mem_append.1 h with h1 | h1
      · obtain ⟨j, h2, h3⟩ := tk_has h1; exact ⟨j, by omega, h3⟩
      · exact ⟨k, by omega, List.mem_singleton.1 h1⟩
    · obtain ⟨j, h2, h3⟩ := tk_has h; exact ⟨j, by omega, h3⟩
theorem tk_sorted {f : Paper} (hf : paperP f) (t : Point) (c : Int) : ∀ k, (tkN f t c k).Pairwise (fun a b => a.Lo ≤ b.Lo)
  | 0 => .nil
  | k + 1 => by
    rw [tkN]
    split
    · refine List.pairwise_append.2 ⟨tk_sorted hf t c k, List.pairwise_singleton _ _, fun a ha b hb => ?_⟩
      obtain ⟨j, h1, rfl⟩ := tk_has ha
      rw [List.mem_singleton.1 hb]
      exact level_mono hf (show yLo f t + j ≤ yLo f t + k by omega)
    · exact tk_sorted hf t c k
structure RisP (l : List Span) : Prop where
  can : Can l
  bd : spB l
theorem RisP.len {l : List Span} (h : RisP l) : l.length ≤ 6001 := can_short h.can h.bd
theorem RisP.valid {l : List Span} (h : RisP l) : ∀ s ∈ l, s.Lo ≤ s.Hi := can_valid h.can
theorem RisP.nil : RisP [] := ⟨trivial, spB_nil⟩
theorem ris_P {f : Paper} (hf : paperP f) {t : Point} (ht : pointP t) (c : Int) {k : Nat} (hk : k ≤ lineNo f t) : RisP (risN f t c k) := by
  have hb : spB (tkN f t c k) := fun s hs => by
    obtain ⟨j, h1, rfl⟩ := tk_has hs
    have := level_bd hf (show 0 ≤ yK f t j ∧ yK f t j ≤ f.Height from line_y hf ht (k := j) (by omega))
    dsimp only
    omega
  rw [ris_tk]
  refine ⟨(mrgI_all (fun s hs => ?_) (tk_sorted hf t c k)).can, (spB_mrgL hb).1⟩
  obtain ⟨j, h1, rfl⟩ := tk_has hs
  exact Int.le_refl _
theorem union_P {A B : List Span} (ha : RisP A) (hb : RisP B) : RisP (unionC (A ++ B)) := by
  have hv : ∀ s ∈ A ++ B, s.Lo ≤ s.Hi := fun s hs => (List.mem_append.1 hs).elim (ha.valid s) (hb.valid s)
  exact ⟨unionC_can hv, (spB_mrgL (spB_perm (spB_app ha.bd hb.bd) (sortS_perm _))).1⟩
def allN (f : Paper) (l : List Point) (c : Int) : Nat → List Span
  | 0 => []
  | k + 1 => unionC (allN f l c k ++ risN f (gt l k) c (lineNo f (gt l k)))
theorem all_P {f : Paper} (hf : paperP f) {l : List Point} (hl : traceP l) (c : Int) : ∀ k, k ≤ l.length → RisP (allN f l c k)
  | 0, _ => .nil
  | k + 1, h => union_P (all_P hf hl c k (by omega)) (ris_P hf (hl k (by omega)) c (Nat.le_refl _))
def blotP (f : Paper) (b : List Int) : Prop := ∀ i, i < b.length → (0 ≤ gt b i ∧ gt b i ≤ f.Columns - 1) ∧ (0 < i → gt b (i - 1) < gt b i)
instance (f : Paper) (b : List Int) : Decidable (blotP f b) := by unfold blotP; exact inferInstance
def colS (f : Paper) (l : List Point) (b : List Int) (c : Nat) : List Span := if ((c : Int) ∈ b) then [] else allN f l c l.length
def inkB (f : Paper) (l : List Point) (b : List Int) : Prop := ∀ c : Nat, c < f.Columns.toNat → (colS f l b c).length ≤ 8
instance (f : Paper) (l : List Point) (b : List Int) : Decidable (inkB f l b) := by unfold inkB; exact inferInstance
def inkE (f : Paper) (l : List Point) (b : List Int) : Int := if readE f l ≠ 0 then readE f l else if ¬ blotP f b then 1 else if ¬ inkB f l b then 2 else 0
def inkC (f : Paper) (l : List Point) (b : List Int) : List (List Span) := if inkE f l b ≠ 0 then [] else (List.range f.Columns.toNat).map (colS f l b)
end Go.Proofs.T10
/- Top: columns as cells; columns that are told one by one; in plain Lean. -/
namespace Go.Proofs.T10
open Go Go.Kx
def colX : List Value → List Bool → List Value
  | v :: vs, b :: bs => v :: .bool b :: colX vs bs
  | _, _ => []
theorem colX_len : ∀ {vs : List Value} {bs : List Bool}, vs.length = bs.length → (colX vs bs).length = vs.length * 2
  | [], [], _ => rfl
  | [], _ :: _, h => by simp at h
  | _ :: _, [], h => by simp at h
  | v :: vs, b :: bs, h => by rw [colX, List.length_cons, List.length_cons, colX_len (by simpa using h), List.length_cons]; omega
theorem colX_s : ∀ {vs : List Value} {bs : List Bool} {i : Nat}, vs.length = bs.length → i < vs.length → (colX vs bs)[i * 2]? = some (gt vs i)
  | [], _, _, _, h => by simp at h
  | _ :: _, [], _, h, _ => by simp at h
  | v :: vs, b :: bs, 0, _, _ => by rw [gt_zero]; rfl
  | v :: vs, b :: bs, i + 1, h, hi => by
    rw [gt_succ, colX, show (i + 1) * 2 = i * 2 + 1 + 1 by omega, List.getElem?_cons_succ, List.getElem?_cons_succ]
    exact colX_s (by simpa using h) (by simpa using hi)
theorem colX_b : ∀ {vs : List Value} {bs : List Bool} {i : Nat}, vs.length = bs.length → i < vs.length → (colX vs bs)[i * 2 + 1]? = some (.bool (gt bs i))
  | [], _, _, _, h => by simp at h
  | _ :: _, [], _, h, _ => by simp at h
  | v :: vs, b :: bs, 0, _, _ => by rw [gt_zero]; rfl
  | v :: vs, b :: bs, i + 1, h, hi => by
    rw [gt_succ, colX, show (i + 1) * 2 + 1 = i * 2 + 1 + 1 + 1 by omega, List.getElem?_cons_succ, List.getElem?_cons_succ]
    exact colX_b (by simpa using h) (by simpa using hi)
theorem colX_set : ∀ {vs : List Value} {bs : List Bool} {i : Nat} (u : Value), vs.length = bs.length → (colX vs bs).set (i * 2) u = colX (vs.set i u) bs
  | [], [], _, _, _ => rfl
  | [], _ :: _, _, _, h => by simp at h
  | _ :: _, [], _, _, h => by simp at h
  | v :: vs, b :: bs, 0, u, _ => rfl
  | v :: vs, b :: bs, i + 1, u, h => by
    rw [List.set_cons_succ, colX, colX, show (i + 1) * 2 = i * 2 + 1 + 1 by omega, List.set_cons_succ, List.set_cons_succ, colX_set u (by simpa using h)]
theorem colX_setb : ∀ {vs : List Value} {bs : List Bool} {i : Nat} (c : Bool), vs.length = bs.length → (colX vs bs).set (i * 2 + 1) (.bool c) = colX vs (bs.set i c)
  | [], [], _, _, _ => rfl
  | [], _ :: _, _, _, h => by simp at h
  | _ :: _, [], _, _, h => by simp at h
  | v :: vs, b :: bs, 0, u, _ => rfl
  | v :: vs, b :: bs, i + 1, u, h => by
    rw [List.set_cons_succ, colX, colX, show (i + 1) * 2 + 1 = i * 2 + 1 + 1 + 1 by omega, List.set_cons_succ, List.set_cons_succ, colX_setb u (by simpa using h)]
structure ColV where
  u : Unit
  deriving Inhabited
instance : Flat ColV := ⟨2, by decide, fun _ => [.slice none 0 0, .bool false], fun _ => rfl, fun _ v hv => by simp at hv; rcases hv with rfl | rfl <;> rfl⟩
theorem colX_zero (v : Value) (e : TypeId) (n : Nat) : rowF v e (List.replicate n (⟨()⟩ : ColV)) = row v e 2 n (colX (List.replicate n (.slice none 0 0)) (List.replicate n false)) := by
  have h : ∀ n, flat (List.replicate n (⟨()⟩ : ColV)) = colX (List.replicate n (.slice none 0 0)) (List.replicate n false) := fun n => by
    induction n with
    | zero => rfl
    | succ n ih => rw [List.replicate_succ, List.replicate_succ, List.replicate_succ, colX, ← ih]; rfl
  show row v e 2 (List.replicate n (⟨()⟩ : ColV)).length (flat (List.replicate n (⟨()⟩ : ColV))) = _
  rw [h, List.length_replicate]
theorem raw_zero (v : Value) (e : TypeId) (n : Nat) : rowF v e (List.replicate n (⟨.slice none 0 0, rfl⟩ : RawV)) = row v e 1 n (List.replicate n (.slice none 0 0)) := by
  have h : ∀ n, flat (List.replicate n (⟨.slice none 0 0, rfl⟩ : RawV)) = List.replicate n (.slice none 0 0) := fun n => by
    induction n with
    | zero => rfl
    | succ n ih => rw [List.replicate_succ, List.replicate_succ, ← ih]; rfl
  show row v e 1 (List.replicate n (⟨.slice none 0 0, rfl⟩ : RawV)).length (flat (List.replicate n (⟨.slice none 0 0, rfl⟩ : RawV))) = _
  rw [h, List.length_replicate]
/-! ### lists over columns -/
section
variable {α : Type}
def ovr (n : Nat) (f : Nat → α) : List α := (List.range n).map f
theorem ovr_len (n : Nat) (f : Nat → α) : (ovr n f).length = n := by simp [ovr]
theorem ovr_gt [Inhabited α] {n i : Nat} (f : Nat → α) (h : i < n) : gt (ovr n f) i = f i := by simp [ovr, gt, List.getD, h]
theorem ovr_ext {n : Nat} {f g : Nat → α} (h : ∀ i, i < n → f i = g i) : ovr n f = ovr n g := by
  unfold ovr
  apply List.map_congr_left
  intro i hi
  exact h i (List.mem_range.1 hi)
theorem ovr_set {n i : Nat} {f g : Nat → α} {x : α} (hx : g i = x) (h : ∀ j, j < n → j ≠ i → f j = g j) : (ovr n f).set i x = ovr n g := by
  apply List.ext_getElem?
  intro j
  by_cases hj : j < n
  · rw [List.getElem?_set]
    by_cases hi : i = j
    · subst hi; rw [if_pos rfl, if_pos (by rw [ovr_len]; exact hj)]; simp [ovr, hj, hx]
    · rw [if_neg hi]; simp [ovr, hj, h j hj (fun e => hi e.symm)]
  · rw [List.getElem?_eq_none (by rw [List.length_set, ovr_len]; omega), List.getElem?_eq_none (by rw [ovr_len]; omega)]
theorem ovr_mem {n : Nat} {f : Nat → α} {x : α} (h : x ∈ ovr n f) : ∃ j, j < n ∧ f j = x := by
  obtain ⟨j, h1, h2⟩ := List.mem_map.1 h
  exact ⟨j, List.mem_range.1 h1, h2⟩
theorem ovr_nil (n : Nat) : (List.replicate n ([] : List α)) = ovr n (fun _ => []) := by
  apply List.ext_getElem?
  intro j
  by_cases hj : j < n
  · simp [ovr, hj]
  · rw [List.getElem?_eq_none (by simp; omega), List.getElem?_eq_none (by rw [ovr_len]; omega)]
theorem ovr_rep (n : Nat) (x : α) : List.replicate n x = ovr n (fun _ => x) := by
  apply List.ext_getElem?
  intro j
  by_cases hj : j < n
  · simp [ovr, hj]
  · rw [List.getElem?_eq_none (by simp; omega), List.getElem?_eq_none (by rw [ovr_len]; omega)]
end
def risL (f : Paper) (t : Point) (n i : Nat) (c : Nat) : List (List Span) := ovr n fun j => if j < c then risN f t j (i + 1) else risN f t j i
theorem risL_start {f : Paper} {t : Point} {n i c : Nat} (h : (c : Int) = max (lnC f t i).Lo 0) : ovr n (fun j => risN f t j i) = risL f t n i c := ovr_ext fun j hj => by
  by_cases hc : j < c
  · rw [if_pos hc, risN_no (by omega)]
  · rw [if_neg hc]
theorem risL_step {f : Paper} {t : Point} {n i c : Nat} (h1 : (lnC f t i).Lo ≤ c) (h2 : (c : Int) ≤ (lnC f t i).Hi) (hn : c < n) :
    (risL f t n i c).set c (mrg1 (gt (risL f t n i c) c) ⟨levelI f (yK f t i), levelI f (yK f t i)⟩) = risL f t n i (c + 1) := by
  refine ovr_set ?_ fun j hj hne => ?_
  · rw [if_pos (by omega), risN_yes ⟨h1, h2⟩]
    congr 1
    rw [risL, ovr_gt _ hn, if_neg (by omega)]
  · by_cases hc : j < c
    · rw [if_pos hc, if_pos (by omega)]
    · rw [if_neg hc, if_neg (by omega)]
theorem risL_gt {f : Paper} {t : Point} {n i c : Nat} (hn : c < n) : gt (risL f t n i c) c = risN f t c i := by rw [risL, ovr_gt _ hn, if_neg (by omega)]
theorem risL_end {f : Paper} {t : Point} {n i c : Nat} (h : ∀ j : Nat, j < n → c ≤ j → ¬ (j : Int) ≤ (lnC f t i).Hi) : risL f t n i c = ovr n (fun j => risN f t j (i + 1)) := ovr_ext fun j hj => by
  by_cases hc : j < c
  · rw [if_pos hc]
  · rw [if_neg hc, risN_no (fun hn => h j hj (by omega) hn.2)]
theorem risL_len (f : Paper) (t : Point) (n i c : Nat) : (risL f t n i c).length = n := ovr_len _ _
def allL (f : Paper) (l : List Point) (n k : Nat) (c : Nat) : List (List Span) := ovr n fun j => if j < c then allN f l j (k + 1) else allN f l j k
theorem allL_len (f : Paper) (l : List Point) (n k c : Nat) : (allL f l n k c).length = n := ovr_len _ _
theorem allL_zero (f : Paper) (l : List Point) (n k : Nat) : ovr n (fun j => allN f l j k) = allL f l n k 0 := ovr_ext fun j hj => by rw [if_neg (Nat.not_lt_zero _)]
theorem allL_end (f : Paper) (l : List Point) (n k : Nat) : allL f l n k n = ovr n (fun j => allN f l j (k + 1)) := ovr_ext fun j hj => by rw [if_pos hj]
theorem allL_gt {f : Paper} {l : List Point} {n k c : Nat} (hn : c < n) : gt (allL f l n k c) c = allN f l c k := by rw [allL, ovr_gt _ hn, if_neg (by omega)]
theorem allL_step {f : Paper} {l : List Point} {n k c : Nat} {M : List Span} (hn : c < n) (hM : M = risN f (gt l k) c (lineNo f (gt l k))) : (allL f l n k c).set c (unionC (gt (allL f l n k c) c ++ M)) = allL f l n k (c + 1) := by
  refine ovr_set ?_ fun j hj hne => ?_
  · rw [if_pos (by omega), allL_gt hn, hM]; rfl
  · by_cases hc : j < c
    · rw [if_pos hc, if_pos (by omega)]
    · rw [if_neg hc, if_neg (by omega)]
def outL (f : Paper) (l : List Point) (b : List Int) (n k : Nat) : List (List Span) := ovr n fun j => if j < k then colS f l b j else []
theorem outL_len (f : Paper) (l : List Point) (b : List Int) (n k : Nat) : (outL f l b n k).length = n := ovr_len _ _
theorem outL_zero (f : Paper) (l : List Point) (b : List Int) (n : Nat) : List.replicate n ([] : List Span) = outL f l b n 0 := by
  rw [ovr_nil]; exact ovr_ext fun j hj => by rw [if_neg (Nat.not_lt_zero _)]
theorem outL_step {f : Paper} {l : List Point} {b : List Int} {n k : Nat} {M : List Span} (hM : M = colS f l b k) : (outL f l b n k).set k M = outL f l b n (k + 1) := by
  refine ovr_set ?_ fun j hj hne => ?_
  · rw [if_pos (by omega), hM]
  · by_cases hc : j < k
    · rw [if_pos hc, if_pos (by omega)]
    · rw [if_neg hc, if_neg (by omega)]
theorem outL_skip {f : Paper} {l : List Point} {b : List Int} {n k : Nat} (h : colS f l b k = []) : outL f l b n k = outL f l b n (k + 1) := ovr_ext fun j hj => by
  by_cases hc : j < k
  · rw [if_pos hc, if_pos (by omega)]
  · rw [if_neg hc]
    by_cases hk : j = k
    · subst hk; rw [if_pos (by omega), h]
    · rw [if_neg (by omega)]
theorem outL_end (f : Paper) (l : List Point) (b : List Int) (n : Nat) : outL f l b n n = (List.range n).map (colS f l b) := ovr_ext fun j hj => by rw [if_pos hj]
/-! ### blots -/
def blN (b : List Int) (n k : Nat) : List Bool := ovr n fun j => decide (∃ i, i < k ∧ gt b i = j)
theorem blN_len (b : List Int) (n k : Nat) : (blN b n k).length = n := ovr_len _ _
theorem blN_zero (b : List Int) (n : Nat) : List.replicate n false = blN b n 0 := by
  rw [ovr_rep]; exact ovr_ext fun j hj => by rw [decide_eq_false (fun ⟨i, h, _⟩ => absurd h (Nat.not_lt_zero _))]
theorem blN_step {b : List Int} {n k c : Nat} (hc : gt b k = c) : (blN b n k).set c true = blN b n (k + 1) := by
  refine ovr_set (decide_eq_true ⟨k, by omega, hc⟩) fun j hj hne => ?_
  congr 1
  apply propext
  constructor
  · rintro ⟨i, h1, h2⟩; exact ⟨i, by omega, h2⟩
  · rintro ⟨i, h1, h2⟩
    by_cases hi : i = k
    · subst hi; exact absurd (Int.ofNat.inj (h2.symm.trans hc)) hne
    · exact ⟨i, by omega, h2⟩
theorem blN_gt {b : List Int} {n j : Nat} (hj : j < n) : gt (blN b n b.length) j = decide ((j : Int) ∈ b) := by
  rw [blN, ovr_gt _ hj]
  congr 1
  apply propext
  constructor
  · rintro ⟨i, h1, h2⟩; rw [← h2]; exact mem_gt0 h1
  · intro h; obtain ⟨i, h1, h2⟩ := gt_mem0 h; exact ⟨i, h1, h2⟩
theorem col_blot {f : Paper} {l : List Point} {b : List Int} {c : Nat} (h : (c : Int) ∈ b) : colS f l b c = [] := if_pos h
theorem col_ink {f : Paper} {l : List Point} {b : List Int} {c : Nat} (h : ¬ (c : Int) ∈ b) : colS f l b c = allN f l c l.length := if_neg h
/-! ### the whole -/
theorem inkE_err {f : Paper} {l : List Point} {b : List Int} (h : readE f l ≠ 0) : inkE f l b = readE f l := if_pos h
theorem inkE_blot {f : Paper} {l : List Point} {b : List Int} (h : ¬ readE f l ≠ 0) (h1 : ¬ blotP f b) : inkE f l b = 1 := by rw [inkE, if_neg h, if_pos h1]
theorem inkE_big {f : Paper} {l : List Point} {b : List Int} (h : ¬ readE f l ≠ 0) (h1 : blotP f b) (h2 : ¬ inkB f l b) : inkE f l b = 2 := by rw [inkE, if_neg h, if_neg (fun h_ => h_ h1), if_pos h2]
theorem inkE_ok {f : Paper} {l : List Point} {b : List Int} (h : ¬ readE f l ≠ 0) (h1 : blotP f b) (h2 : inkB f l b) : inkE f l b = 0 := by rw [inkE, if_neg h, if_neg (fun h_ => h_ h1), if_neg (fun h_ => h_ h2)]
theorem inkC_bad {f : Paper} {l : List Point} {b : List Int} (h : inkE f l b ≠ 0) : inkC f l b = [] := if_pos h
theorem inkC_ok {f : Paper} {l : List Point} {b : List Int} (h : inkE f l b = 0) : inkC f l b = (List.range f.Columns.toNat).map (colS f l b) := by rw [inkC, if_neg (fun h_ => h_ h)]
theorem ris_short {f : Paper} (hf : paperP f) {t : Point} (ht : pointP t) {n : Nat} : ∀ L ∈ ovr n (fun j => risN f t j (lineNo f t)), L.length ≤ lenB := fun L hL => by
  obtain ⟨j, _, rfl⟩ := ovr_mem hL
  have := (ris_P hf ht j (Nat.le_refl _)).len
  unfold lenB; omega
theorem all_short {f : Paper} (hf : paperP f) {l : List Point} (hl : traceP l) {n : Nat} : ∀ L ∈ ovr n (fun j => allN f l j l.length), L.length ≤ lenB := fun L hL => by
  obtain ⟨j, _, rfl⟩ := ovr_mem hL
  have := (all_P hf hl j l.length (Nat.le_refl _)).len
  unfold lenB; omega
theorem two_at {xs : List Value} {off : Nat} {a b : Value} (h1 : xs[off]? = some a) (h2 : xs[off + 1]? = some b) : ∀ j u, [a, b][j]? = some u → xs[off + j]? = some u := fun j u hj => by
  match j, hj with
  | 0, hj => cases hj; exact h1
  | 1, hj => cases hj; exact h2
end Go.Proofs.T10
/- Top: courses that a sheet can have drawn, in plain Lean. -/
namespace Go.Proofs.T10
open Go Go.Kx
def gapW (d : Drum) (i : Nat) : Nat → Span
  | 0 => gt d.Rates i
  | k + 1 => if (gt d.Stops k).Column = i then ⟨wr ((gapW d i k).Lo + (gt d.Stops k).Ticks.Lo), wr ((gapW d i k).Hi + (gt d.Stops k).Ticks.Hi)⟩ else gapW d i k
theorem gapW_yes {d : Drum} {i k : Nat} (h : (gt d.Stops k).Column = i) : gapW d i (k + 1) = ⟨wr ((gapW d i k).Lo + (gt d.Stops k).Ticks.Lo), wr ((gapW d i k).Hi + (gt d.Stops k).Ticks.Hi)⟩ := if_pos h
theorem gapW_no {d : Drum} {i k : Nat} (h : ¬ (gt d.Stops k).Column = i) : gapW d i (k + 1) = gapW d i k := if_neg h
def drawH (x : Sheet) (ticks : Int) (c : Course) : Prop := ((c.Ticks.length = x.Drum.Rates.length + 1 ∧ (c.Shown.length : Int) = ticks + 1) ∧ ((c.Levels.length : Int) = ticks + 1 ∧ x.Pen.Zero.Lo ≤ c.Zero ∧ c.Zero ≤ x.Pen.Zero.Hi)) ∧ inkE x.Paper x.Trace x.Blots = 0 ∧ (inkC x.Paper x.Trace x.Blots).length = c.Ticks.length
instance (x : Sheet) (t : Int) (c : Course) : Decidable (drawH x t c) := by unfold drawH; exact inferInstance
def drawC (x : Sheet) (ticks : Int) (c : Course) (i : Nat) : Prop := (0 ≤ gt c.Ticks i ∧ gt c.Ticks i ≤ ticks) ∧ (0 < (gt (inkC x.Paper x.Trace x.Blots) i).length → inP (gt (inkC x.Paper x.Trace x.Blots) i) (gt c.Shown (gt c.Ticks i).toNat)) ∧ (0 < i → (gapW x.Drum (i - 1) x.Drum.Stops.length).Lo ≤ gt c.Ticks i - gt c.Ticks (i - 1) ∧ gt c.Ticks i - gt c.Ticks (i - 1) ≤ (gapW x.Drum (i - 1) x.Drum.Stops.length).Hi)
instance (x : Sheet) (t : Int) (c : Course) (i : Nat) : Decidable (drawC x t c i) := by unfold drawC; exact inferInstance
def drawT (x : Sheet) (c : Course) (t : Nat) : Prop := ((0 ≤ gt c.Shown t ∧ gt c.Shown t ≤ 12000) ∧ (0 ≤ gt c.Levels t ∧ gt c.Levels t ≤ 12000) ∧ gt c.Levels t - c.Zero - gt c.Shown t ≤ x.Pen.Band ∧ gt c.Shown t - (gt c.Levels t - c.Zero) ≤ x.Pen.Band) ∧ (0 < t → (gt c.Levels t - gt c.Levels (t - 1) ≤ x.Pen.Rate ∧ -(gt c.Levels t - gt c.Levels (t - 1)) ≤ x.Pen.Rate) ∧ gt c.Shown t = clampN x.Pen.Band (gt c.Shown (t - 1)) (gt c.Levels t - c.Zero))
instance (x : Sheet) (c : Course) (t : Nat) : Decidable (drawT x c t) := by unfold drawT; exact inferInstance
def drawnP (x : Sheet) (ticks : Int) (c : Course) : Prop := drawH x ticks c ∧ (∀ i, i < c.Ticks.length → drawC x ticks c i) ∧ (∀ t, t < (ticks + 1).toNat → drawT x c t)
instance (x : Sheet) (t : Int) (c : Course) : Decidable (drawnP x t c) := by unfold drawnP; exact inferInstance
end Go.Proofs.T10
/- Top: what a pen shows of a list of levels, in plain Lean. -/
namespace Go.Proofs.T10
open Go Go.Kx
def shN (b first : Int) (L : List Int) : Nat → Int
  | 0 => first
  | k + 1 => clampN b (shN b first L k) (gt L (k + 1))
def rightP (p : Pen) (m : Moment) : Prop := apartI m.Real m.Shown ≤ p.Band
instance (p : Pen) (m : Moment) : Decidable (rightP p m) := by unfold rightP; exact inferInstance
def stepP (p : Pen) (m : Moment) (r : Int) : Prop := rightP p m ∧ apartI r m.Real ≤ p.Rate
instance (p : Pen) (m : Moment) (r : Int) : Decidable (stepP p m r) := by unfold stepP; exact inferInstance
def stepM (p : Pen) (m : Moment) (r : Int) : Moment := if stepP p m r then ⟨clampN p.Band m.Shown r, r⟩ else ⟨0, 0⟩
theorem stepM_yes {p : Pen} {m : Moment} {r : Int} (h : stepP p m r) : stepM p m r = ⟨clampN p.Band m.Shown r, r⟩ := if_pos h
theorem stepM_no {p : Pen} {m : Moment} {r : Int} (h : ¬ stepP p m r) : stepM p m r = ⟨0, 0⟩ := if_neg h
def okM (p : Pen) (first : Int) (L : List Int) : Nat → Bool
  | 0 => decide (rightP p ⟨first, gt L 0⟩)
  | k + 1 => okM p first L k && decide (stepP p ⟨shN p.Band first L k, gt L k⟩ (gt L (k + 1)))
def folC (p : Pen) (first : Int) (L : List Int) : Nat → Nat
  | 0 => 0
  | k + 1 => if okM p first L k = true then k + 1 else folC p first L k
theorem okM_le {p : Pen} {first : Int} {L : List Int} : ∀ {k j : Nat}, j ≤ k → okM p first L k = true → okM p first L j = true
  | 0, j, h, h1 => by obtain rfl : j = 0 := by omega
                      exact h1
  | k + 1, j, h, h1 => by
    rcases Nat.lt_or_eq_of_le h with h2 | h2
    · rw [okM, Bool.and_eq_true] at h1
      exact okM_le (by omega) h1.1
    · subst h2; exact h1
theorem folC_stop {p : Pen} {first : Int} {L : List Int} {i : Nat} (h : okM p first L i = false) (h1 : ∀ j, j < i → okM p first L j = true) : ∀ n, i ≤ n → folC p first L n = i
  | 0, hn => by obtain rfl : i = 0 := by omega
                rfl
  | n + 1, hn => by
    rw [folC]
    rcases Nat.lt_or_eq_of_le hn with h2 | h2
    · rw [if_neg (fun h3 => by have := okM_le (j := i) (by omega) h3; rw [h] at this; cases this)]
      exact folC_stop h h1 n (by omega)
    · subst h2; rw [if_pos (h1 n (by omega))]
theorem folC_full {p : Pen} {first : Int} {L : List Int} {n : Nat} (h : okM p first L n = true) : folC p first L (n + 1) = n + 1 := if_pos h
theorem folC_le {p : Pen} {first : Int} {L : List Int} : ∀ n, folC p first L n ≤ n
  | 0 => Nat.le_refl _
  | n + 1 => by have := folC_le (p := p) (first := first) (L := L) n; rw [folC]; split <;> omega
theorem folC_ge {p : Pen} {first : Int} {L : List Int} {i n : Nat} (h : okM p first L i = true) (hi : i < n) : i < folC p first L n := by
  induction n with
  | zero => omega
  | succ n ih =>
    rw [folC]
    split
    · omega
    · rcases Nat.lt_succ_iff_lt_or_eq.1 hi with h1 | h1
      · exact ih h1
      · subst h1; contradiction
def folA (p : Pen) (first : Int) (L : List Int) : Nat → Mem → Array Value → Prop := fun i _ args => args = #[.agg [.int .i64 (shN p.Band first L i), .int .i64 (gt L i)].toArray]
theorem clampN_bd {b s r : Int} (hb : 0 ≤ b) : r - b ≤ clampN b s r ∧ clampN b s r ≤ r + b := by unfold clampN; omega
theorem shN_bd {p : Pen} (hp : penP p) {first : Int} (hf : -50000 ≤ first ∧ first ≤ 50000) {L : List Int} (hL : lvlP L) : ∀ k, k < L.length → -60000 ≤ shN p.Band first L k ∧ shN p.Band first L k ≤ 60000
  | 0, _ => by rw [shN]; omega
  | k + 1, h => by
    have h1 := hL (k + 1) h
    have h2 := hp.1
    have h3 := clampN_bd (b := p.Band) (s := shN p.Band first L k) (r := gt L (k + 1)) h2.1
    rw [shN]; omega
def shL (b first : Int) (L : List Int) : List Int := ovr L.length (shN b first L)
def folE (p : Pen) (first : Int) (L : List Int) : Int := if askE p [first] ≠ 0 then askE p [first] else if listE L ≠ 0 then listE L else if folC p first L L.length < L.length then 31 else 0
def folR (p : Pen) (first : Int) (L : List Int) : List Int := if folE p first L ≠ 0 then [] else shL p.Band first L
theorem folE_ask {p : Pen} {first : Int} {L : List Int} (h : askE p [first] ≠ 0) : folE p first L = askE p [first] := if_pos h
theorem folE_list {p : Pen} {first : Int} {L : List Int} (h : ¬ askE p [first] ≠ 0) (h1 : listE L ≠ 0) : folE p first L = listE L := by rw [folE, if_neg h, if_pos h1]
theorem folE_short {p : Pen} {first : Int} {L : List Int} (h : ¬ askE p [first] ≠ 0) (h1 : ¬ listE L ≠ 0) (h2 : folC p first L L.length < L.length) : folE p first L = 31 := by rw [folE, if_neg h, if_neg h1, if_pos h2]
theorem folE_ok {p : Pen} {first : Int} {L : List Int} (h : ¬ askE p [first] ≠ 0) (h1 : ¬ listE L ≠ 0) (h2 : ¬ folC p first L L.length < L.length) : folE p first L = 0 := by rw [folE, if_neg h, if_neg h1, if_neg h2]
theorem folR_bad {p : Pen} {first : Int} {L : List Int} (h : folE p first L ≠ 0) : folR p first L = [] := if_pos h
theorem folR_ok {p : Pen} {first : Int} {L : List Int} (h : folE p first L = 0) : folR p first L = shL p.Band first L := if_neg (fun h1 => h1 h)
theorem askE_of {p : Pen} {first : Int} (h : askE p [first] = 0) : penP p ∧ -50000 ≤ first ∧ first ≤ 50000 := by
  unfold askE at h
  split at h
  · contradiction
  · split at h
    · rename_i h1 h2; exact ⟨penP_of (by omega), h2 0 (by simp)⟩
    · cases h
theorem ovr_snoc {α : Type} (n : Nat) (f : Nat → α) : ovr (n + 1) f = ovr n f ++ [f n] := by unfold ovr; rw [List.range_succ, List.map_append]; rfl
end Go.Proofs.T10
/- Top: sets of tracks, in plain Lean. -/
namespace Go.Proofs.T10
open Go Go.Kx
def lastN (l : List Span) : Nat → Int
  | 0 => -100002
  | k + 1 => (gt l k).Hi
def setP (l : List Span) : Prop := ∀ i, i < l.length → lastN l i + 2 ≤ (gt l i).Lo ∧ (gt l i).Lo ≤ (gt l i).Hi ∧ (gt l i).Hi ≤ 100000
instance (l : List Span) : Decidable (setP l) := by unfold setP; exact inferInstance
def smallP (l : List Span) : Prop := l.length ≤ 64 ∧ setP l
instance (l : List Span) : Decidable (smallP l) := by unfold smallP; exact inferInstance
theorem lastN_bd {l : List Span} {k : Nat} (h : ∀ i, i < k → lastN l i + 2 ≤ (gt l i).Lo ∧ (gt l i).Lo ≤ (gt l i).Hi ∧ (gt l i).Hi ≤ 100000) : ∀ i, i ≤ k → -100002 ≤ lastN l i ∧ lastN l i ≤ 100000
  | 0, _ => by rw [lastN]; omega
  | i + 1, hi => by
    have h1 := h i (by omega)
    have h2 := lastN_bd h i (by omega)
    rw [lastN]; omega
def spV (l : List Span) : Prop := ∀ s ∈ l, -1000000000 ≤ s.Lo ∧ s.Lo ≤ s.Hi ∧ s.Hi ≤ 1000000000
theorem spV_nil : spV [] := fun _ h => by cases h
theorem spV_app {l r : List Span} (h : spV l) (h' : spV r) : spV (l ++ r) := fun s hs => (List.mem_append.1 hs).elim (h s) (h' s)
theorem spV_valid {l : List Span} (h : spV l) : ∀ s ∈ l, s.Lo ≤ s.Hi := fun s hs => (h s hs).2.1
theorem spV_bdS {l : List Span} (h : spV l) : bdS l := bdS_of fun s hs => by have := h s hs; omega
theorem spV_perm {l r : List Span} (h : spV l) (hp : r.Perm l) : spV r := fun s hs => h s (hp.mem_iff.1 hs)
theorem spV_at {l : List Span} (h : spV l) {i : Nat} (hi : i < l.length) : -1000000000 ≤ (gt l i).Lo ∧ (gt l i).Lo ≤ (gt l i).Hi ∧ (gt l i).Hi ≤ 1000000000 := h _ (mem_gt0 hi)
theorem spV_mrg1 {L : List Span} {x : Span} (h : spV L) (hx : -1000000000 ≤ x.Lo ∧ x.Lo ≤ x.Hi ∧ x.Hi ≤ 1000000000) : spV (mrg1 L x) := by
  unfold mrg1
  split
  · rename_i h1
    have h2 := spV_at h (i := L.length - 1) (by omega)
    intro s hs
    rcases List.mem_or_eq_of_mem_set hs with h3 | rfl
    · exact h s h3
    · dsimp only; omega
  · intro s hs
    rcases List.mem_append.1 hs with h3 | h3
    · exact h s h3
    · rw [List.mem_singleton.1 h3]; exact hx
theorem spV_mrgL {l : List Span} (h : spV l) : spV (mrgL l) ∧ (mrgL l).length ≤ l.length := by
  induction hn : l.length generalizing l with
  | zero => obtain rfl := List.length_eq_zero_iff.1 hn; exact ⟨spV_nil, Nat.le_refl _⟩
  | succ n ih =>
    obtain ⟨r, x, rfl⟩ := snoc_cases l (by omega)
    have h1 := ih (l := r) (fun s hs => h s (List.mem_append_left _ hs)) (by simpa using hn)
    rw [mrgL_snoc]
    have h2 := mrg1_len (mrgL r) x
    exact ⟨spV_mrg1 h1.1 (h x (by simp)), by omega⟩
theorem unionC_len {l : List Span} (h : spV l) : (unionC l).length ≤ l.length := by
  have := (spV_mrgL (spV_perm h (sortS_perm l))).2
  rw [(sortS_perm l).length_eq] at this; exact this
theorem setP_spV {l : List Span} (h : setP l) : spV l := fun s hs => by
  obtain ⟨i, hi, rfl⟩ := gt_mem0 hs
  have h1 := h i hi
  have h2 := lastN_bd (l := l) (k := i) (fun j hj => h j (by omega)) i (Nat.le_refl _)
  omega
def spA (L : List Span) : Nat → Mem → Array Value → Prop := fun i _ args => args = #[.agg [.int .i64 (gt L i).Lo, .int .i64 (gt L i).Hi].toArray]
def cmpI (x y : Int) : Int := if x < y then -1 else if y < x then 1 else 0
theorem cmpI_lt {x y : Int} (h : x < y) : cmpI x y = -1 := if_pos h
theorem cmpI_gt {x y : Int} (h : ¬ x < y) (h1 : y < x) : cmpI x y = 1 := by rw [cmpI, if_neg h, if_pos h1]
theorem cmpI_eq {x y : Int} (h : ¬ x < y) (h1 : ¬ y < x) : cmpI x y = 0 := by rw [cmpI, if_neg h, if_neg h1]
theorem cmpI_neg {x y : Int} : cmpI x y < 0 ↔ x < y := by unfold cmpI; split <;> (try split) <;> omega
theorem ovr_gts {α : Type} [Inhabited α] (L : List α) : ovr L.length (gt L) = L := by
  apply List.ext_getElem?
  intro j
  by_cases hj : j < L.length
  · simp [ovr, hj, gt, List.getD]
  · rw [List.getElem?_eq_none (by rw [ovr_len]; omega), List.getElem?_eq_none (by omega)]
def uniE (a b : List Span) : Int := if smallP a ∧ smallP b then 0 else 1
def uniR (a b : List Span) : List Span := if smallP a ∧ smallP b then unionC (a ++ b) else []
theorem uniE_no {a b : List Span} (h : ¬ (smallP a ∧ smallP b)) : uniE a b = 1 := if_neg h
theorem uniR_no {a b : List Span} (h : ¬ (smallP a ∧ smallP b)) : uniR a b = [] := if_neg h
theorem uniE_yes {a b : List Span} (h : smallP a ∧ smallP b) : uniE a b = 0 := if_pos h
theorem uniR_yes {a b : List Span} (h : smallP a ∧ smallP b) : uniR a b = unionC (a ++ b) := if_pos h
end Go.Proofs.T10
/- Top: two courses with the same levels show the same from where the pen forgets, in plain Lean. -/
namespace Go.Proofs.T10
open Go Go.Kx
def realN (c : Course) (n : Nat) : List Int := ovr n (fun t => gt c.Levels t - c.Zero)
theorem realN_len (c : Course) (n : Nat) : (realN c n).length = n := ovr_len _ _
theorem realN_gt {c : Course} {n t : Nat} (h : t < n) : gt (realN c n) t = gt c.Levels t - c.Zero := ovr_gt _ h
theorem realN_snoc (c : Course) (n : Nat) : realN c (n + 1) = realN c n ++ [gt c.Levels n - c.Zero] := ovr_snoc _ _
theorem realN_same {c d : Course} (hz : c.Zero = d.Zero) (hl : c.Levels = d.Levels) (n : Nat) : realN c n = realN d n := by unfold realN; rw [hz, hl]
theorem realN_shown {x : Sheet} {ticks : Int} {c : Course} (h : drawnP x ticks c) (h0 : 0 ≤ ticks) : ShownN x.Pen.Band (realN c (ticks + 1).toNat) c.Shown ticks.toNat := by
  refine ⟨?_, fun i hi => ?_⟩
  · have h1 := (h.2.2 0 (by omega)).1
    rw [realN_gt (by omega)]; omega
  · have h1 := ((h.2.2 (i + 1) (by omega)).2 (by omega)).2
    rw [realN_gt (by omega)]
    simpa using h1
theorem realN_bd {x : Sheet} {ticks : Int} {c : Course} (h : drawnP x ticks c) (hp : penP x.Pen) {i : Nat} (hi : i < (ticks + 1).toNat) : -20000 ≤ gt c.Levels i - c.Zero ∧ gt c.Levels i - c.Zero ≤ 20000 := by
  have h1 := (h.2.2 i hi).1.2.1
  have h2 := h.1.1.2
  have h3 := hp.2.1
  have h4 := hp.2.2.1
  omega
theorem listedE_ok {p : Pen} {l : List Int} (hp : penP p) (hl : 1 ≤ l.length ∧ l.length ≤ 401) (hv : lvlP l) : listedE p l = 0 := by
  unfold listedE; rw [penE_yes hp, if_neg (fun h => h rfl)]; unfold listE; rw [if_pos ⟨hl, hv⟩]
theorem realN_ok {x : Sheet} {ticks : Int} {c : Course} (h : drawnP x ticks c) (hp : penP x.Pen) (h0 : 0 ≤ ticks ∧ ticks ≤ 60) : listedE x.Pen (realN c (ticks + 1).toNat) = 0 :=
  listedE_ok hp (by rw [realN_len]; omega) (fun i hi => by
    rw [realN_len] at hi
    rw [realN_gt hi]
    have := realN_bd h hp hi
    omega)
theorem realN_step {x : Sheet} {ticks : Int} {c : Course} (h : drawnP x ticks c) : ∀ i, 0 < i → i < (realN c (ticks + 1).toNat).length → apartI (gt (realN c (ticks + 1).toNat) i) (gt (realN c (ticks + 1).toNat) (i - 1)) ≤ x.Pen.Rate := by
  intro i h0 hi
  rw [realN_len] at hi
  have h1 := ((h.2.2 i hi).2 h0).1
  rw [realN_gt hi, realN_gt (by omega)]
  unfold apartI
  omega
theorem mn_step (L : List Int) : ∀ k : Nat, min (mnN L (k - 1)) (gt L k) = mnN L k
  | 0 => by show min (gt L 0) (gt L 0) = gt L 0; omega
  | _ + 1 => rfl
theorem mx_step (L : List Int) : ∀ k : Nat, max (mxN L (k - 1)) (gt L k) = mxN L k
  | 0 => by show max (gt L 0) (gt L 0) = gt L 0; omega
  | _ + 1 => rfl
theorem mn_bd {L : List Int} {n : Nat} (h : ∀ i, i ≤ n → -20000 ≤ gt L i ∧ gt L i ≤ 20000) : ∀ k, k ≤ n → -20000 ≤ mnN L k ∧ mnN L k ≤ 20000
  | 0, _ => h 0 (Nat.zero_le _)
  | k + 1, hk => by have h1 := mn_bd h k (by omega); have h2 := h (k + 1) hk; rw [mnN]; omega
theorem mx_bd {L : List Int} {n : Nat} (h : ∀ i, i ≤ n → -20000 ≤ gt L i ∧ gt L i ≤ 20000) : ∀ k, k ≤ n → -20000 ≤ mxN L k ∧ mxN L k ≤ 20000
  | 0, _ => h 0 (Nat.zero_le _)
  | k + 1, hk => by have h1 := mx_bd h k (by omega); have h2 := h (k + 1) hk; rw [mxN]; omega
theorem swing_iff {b : Int} (hb : 0 ≤ b) {L : List Int} {f : Nat} (hf : isFrom b L f) (t : Nat) : ((f : Int) ≤ (t : Int)) ↔ 2 * b ≤ mxN L t - mnN L t := by
  rw [← from_iff hb hf]; omega
theorem swing_same {x : Sheet} {ticks : Int} {one two : Course} (h1 : drawnP x ticks one) (h2 : drawnP x ticks two) (hz : one.Zero = two.Zero) (hl : one.Levels = two.Levels) (h0 : 0 ≤ ticks)
    {f : Nat} (hf : isFrom x.Pen.Band (realN one (ticks + 1).toNat) f) {t : Nat} (ht : (t : Int) ≤ ticks) (hft : (f : Int) ≤ (t : Int)) : gt one.Shown t = gt two.Shown t := by
  have h3 := realN_shown h1 h0
  have h4 := realN_shown h2 h0
  rw [← realN_same hz hl] at h4
  exact shown_same h3 h4 (by omega) (pen_stays hf.1 t (by omega))
end Go.Proofs.T10
