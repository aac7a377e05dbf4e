/- Stations: the least sea levels, in plain Lean: no stations' code in sight. -/
import Derived.Test.YtcpecjgppbiplaaS5Tri
namespace Go.Proofs.S5
open Go Go.Kx

/-- the greatest one of a number and the first n values of f -/
def maxTo (f : Nat → Int) (c : Int) : Nat → Int
  | 0 => c
  | n + 1 => max (maxTo f c n) (f n)
theorem maxTo_ge (f : Nat → Int) (c : Int) : ∀ n, c ≤ maxTo f c n ∧ ∀ k, k < n → f k ≤ maxTo f c n
  | 0 => ⟨Int.le_refl _, fun k hk => absurd hk (Nat.not_lt_zero _)⟩
  | n + 1 => by
    obtain ⟨h1, h2⟩ := maxTo_ge f c n
    rw [maxTo]
    refine ⟨by omega, fun k hk => ?_⟩
    rcases Nat.lt_succ_iff_lt_or_eq.1 hk with h | h
    · have := h2 k h; omega
    · subst h; omega
theorem maxTo_le {f : Nat → Int} {c d : Int} (hc : c ≤ d) : ∀ n, (∀ k, k < n → f k ≤ d) → maxTo f c n ≤ d
  | 0, _ => hc
  | n + 1, h => by
    have h1 := maxTo_le hc n (fun k hk => h k (by omega))
    have h2 := h n (by omega)
    rw [maxTo]; omega

/-- bounds that no way by a third one goes below -/
structure TT (n : Nat) (t : Nat → Nat → Int) : Prop where
  nn : ∀ i j, i < n → j < n → 0 ≤ t i j
  zero : ∀ i, i < n → t i i = 0
  tri : ∀ i j m, i < n → j < n → m < n → t i j ≤ t i m + t m j
theorem tight_tt {w : Wind} {l : List Station} (h : windedE w l = 0) : TT l.length (tightM w l) :=
  ⟨fun i j hi hj => (tightM_bd h i j hi hj).1, fun _ hi => tight_zero h hi, fun _ _ _ hi hj hm => tight_tri h hi hj hm⟩

/-- the least level at the sea of a station, when those of all are at least lo -/
def xF (lo : Nat → Int) (t : Nat → Nat → Int) (n i : Nat) : Int := maxTo (fun k => lo k - t k i) (lo i) n
section
variable {lo : Nat → Int} {t : Nat → Nat → Int} {n : Nat}
theorem xF_lo (i : Nat) : lo i ≤ xF lo t n i := (maxTo_ge _ _ n).1
theorem xF_ge {i k : Nat} (hk : k < n) : lo k - t k i ≤ xF lo t n i := (maxTo_ge (fun k => lo k - t k i) (lo i) n).2 k hk
theorem xF_le {i : Nat} {c : Int} (h0 : lo i ≤ c) (h : ∀ k, k < n → lo k - t k i ≤ c) : xF lo t n i ≤ c := maxTo_le h0 n h
theorem xF_step (h : TT n t) {i k : Nat} (hi : i < n) (hk : k < n) : xF lo t n k - t k i ≤ xF lo t n i := by
  have : xF lo t n k ≤ xF lo t n i + t k i := by
    refine xF_le ?_ fun j hj => ?_
    · have := xF_ge (lo := lo) (t := t) (i := i) hk; omega
    · have h1 := xF_ge (lo := lo) (t := t) (i := i) hj
      have h2 := h.tri j i k hj hi hk
      omega
  omega
theorem xF_bd (h : TT n t) {C : Int} (hC : ∀ k, k < n → lo k ≤ C) {i : Nat} (hi : i < n) : xF lo t n i ≤ C :=
  xF_le (hC i hi) fun k hk => by have := hC k hk; have := h.nn k i hk hi; omega

structure SOk (lo : Nat → Int) (t : Nat → Nat → Int) (n : Nat) (L : List Int) : Prop where
  len : L.length = n
  bd : ∀ j, j < n → lo j ≤ gt L j ∧ gt L j ≤ xF lo t n j
def sumD (x : Nat → Int) (L : List Int) : Nat → Nat
  | 0 => 0
  | n + 1 => sumD x L n + (x n - gt L n).toNat
theorem sumD_congr {x : Nat → Int} {L L' : List Int} : ∀ n, (∀ j, j < n → gt L j = gt L' j) → sumD x L n = sumD x L' n
  | 0, _ => rfl
  | n + 1, h => by rw [sumD, sumD, sumD_congr n (fun j hj => h j (by omega)), h n (by omega)]
theorem sumD_set {x : Nat → Int} {L : List Int} {i : Nat} {v : Int} (hi : i < L.length) (h1 : gt L i < v) (h2 : v ≤ x i) : ∀ n, i < n → sumD x (L.set i v) n < sumD x L n
  | 0, h => by omega
  | n + 1, h => by
    rw [sumD, sumD]
    by_cases e : i = n
    · subst e
      have e1 : sumD x (L.set i v) i = sumD x L i := sumD_congr i fun j hj => by rw [gt_set hi, if_neg (by omega)]
      have e2 : gt (L.set i v) i = v := by rw [gt_set hi, if_pos rfl]
      rw [e1, e2]; omega
    · have := sumD_set hi h1 h2 n (by omega)
      have e2 : gt (L.set i v) n = gt L n := by rw [gt_set hi, if_neg e]
      rw [e2]; omega
def sMu (lo : Nat → Int) (t : Nat → Nat → Int) (n : Nat) (L : List Int) : Nat := sumD (xF lo t n) L n
theorem SOk.set {L : List Int} (h : SOk lo t n L) (ht : TT n t) {i k : Nat} {v : Int} (hi : i < n) (hk : k < n) (hv : v = gt L k - t k i) (hlt : gt L i < v) : SOk lo t n (L.set i v) ∧ sMu lo t n (L.set i v) < sMu lo t n L := by
  have h1 := (h.bd k hk).2
  have h2 := xF_step (lo := lo) ht hi hk
  have hil : i < L.length := by rw [h.len]; exact hi
  refine ⟨⟨by rw [List.length_set]; exact h.len, fun j hj => ?_⟩, sumD_set hil hlt (by omega) n hi⟩
  rw [gt_set hil]
  by_cases e : i = j
  · subst e
    rw [if_pos rfl]
    have := (h.bd i hi).1
    omega
  · rw [if_neg e]; exact h.bd j hj
/-- what has been gone through without a change -/
def SDn (t : Nat → Nat → Int) (n : Nat) (L : List Int) (i k : Nat) : Prop := ∀ a b, a < n → b < n → (a < i ∨ a = i ∧ b < k) → gt L b - t b a ≤ gt L a
theorem SDn.zero {L : List Int} : SDn t n L 0 0 := fun a b _ _ h => by omega
theorem SDn.next {L : List Int} {i k : Nat} {v : Int} (h : SDn t n L i k) (hv : v = gt L k - t k i) (hn : ¬ gt L i < v) : SDn t n L i (k + 1) := fun a b ha hb hc => by
  by_cases e : a = i ∧ b = k
  · obtain ⟨rfl, rfl⟩ := e; omega
  · exact h a b ha hb (by omega)
theorem SDn.row {L : List Int} {i k : Nat} (h : SDn t n L i k) (hk : n ≤ k) : SDn t n L (i + 1) 0 := fun a b ha hb hc => h a b ha hb (by omega)
theorem SOk.fix {L : List Int} {i : Nat} (h : SOk lo t n L) (hd : SDn t n L i 0) (hi : n ≤ i) {j : Nat} (hj : j < n) : gt L j = xF lo t n j := by
  have h1 := h.bd j hj
  have h2 : xF lo t n j ≤ gt L j := xF_le h1.1 fun k hk => by
    have h3 := hd j k hj hk (by omega)
    have h4 := (h.bd k hk).1
    omega
  omega
end

/-- the least sea levels of levels -/
def loS (l : List Station) (week : Int) (list : List Int) (k : Nat) : Int := (gt (seasL l week list) k).Lo
def xS (w : Wind) (l : List Station) (week : Int) (list : List Int) (i : Nat) : Int := xF (loS l week list) (tightM w l) l.length i
def fitsS (w : Wind) (l : List Station) (week : Int) (list : List Int) : Prop := ∀ i, i < l.length → xS w l week list i ≤ (gt (seasL l week list) i).Hi
instance (w : Wind) (l : List Station) (week : Int) (list : List Int) : Decidable (fitsS w l week list) := by unfold fitsS; exact inferInstance
def sideL (w : Wind) (l : List Station) (week : Int) (list : List Int) : List Int := (List.range l.length).map (xS w l week list)
def sideR (w : Wind) (l : List Station) (week : Int) (list : List Int) : List Int × Int :=
  if levelsE w l week list ≠ 0 then ([], levelsE w l week list) else if fitsS w l week list then (sideL w l week list, 0) else ([], 3)
abbrev SeaOk (w : Wind) (l : List Station) (week : Int) (list : List Int) (L : List Int) : Prop := SOk (loS l week list) (tightM w l) l.length L
abbrev SeaDn (w : Wind) (l : List Station) (L : List Int) (i k : Nat) : Prop := SDn (tightM w l) l.length L i k
abbrev seaMu (w : Wind) (l : List Station) (week : Int) (list : List Int) (L : List Int) : Nat := sMu (loS l week list) (tightM w l) l.length L
theorem SeaOk.range {w : Wind} {l : List Station} {week : Int} {list L : List Int} (hz : levelsE w l week list = 0) (h : SeaOk w l week list L) {j : Nat} (hj : j < l.length) : 0 ≤ gt L j ∧ gt L j ≤ 100000 := by
  have hb := h.bd j hj
  have h1 := seasL_bd hz hj
  have h2 := xF_bd (lo := loS l week list) (tight_tt (levelsE_zero hz).1) (C := 100000) (fun k hk => (seasL_bd hz hk).1.2) hj
  unfold loS at *
  omega
theorem SeaOk.start {w : Wind} {l : List Station} {week : Int} {list L : List Int} (hl : L.length = l.length) (h : ∀ j, j < l.length → gt L j = (gt (seasL l week list) j).Lo) : SeaOk w l week list L :=
  ⟨hl, fun j hj => by rw [h j hj]; exact ⟨Int.le_refl _, xF_lo j⟩⟩
/-- behind the raising: the least sea levels, or one that is too great -/
def SeaEnd (w : Wind) (l : List Station) (week : Int) (list L : List Int) : Prop := SeaOk w l week list L ∧ ((∀ j, j < l.length → gt L j = xS w l week list j) ∨ ∃ j, j < l.length ∧ (gt (seasL l week list) j).Hi < gt L j)
theorem SeaEnd.over {w : Wind} {l : List Station} {week : Int} {list L : List Int} (h : SeaEnd w l week list L) {j : Nat} (hj : j < l.length) (hh : (gt (seasL l week list) j).Hi < gt L j) : ¬ fitsS w l week list := fun hf => by
  have h1 := hf j hj
  have h2 := (h.1.bd j hj).2
  unfold xS at h1
  omega
theorem SeaEnd.all {w : Wind} {l : List Station} {week : Int} {list L : List Int} (h : SeaEnd w l week list L) (hh : ∀ j, j < l.length → gt L j ≤ (gt (seasL l week list) j).Hi) : fitsS w l week list ∧ L = sideL w l week list := by
  rcases h.2 with h2 | ⟨j, hj, h3⟩
  · refine ⟨fun i hi => by rw [← h2 i hi]; exact hh i hi, ?_⟩
    refine ext_gt (by rw [h.1.len]; simp [sideL]) fun j hj => ?_
    rw [h.1.len] at hj
    rw [sideL, gt_map _ hj, h2 j hj]
  · have := hh j hj; omega
theorem sideR_err {w : Wind} {l : List Station} {week : Int} {list : List Int} (h : ¬ levelsE w l week list = 0) : sideR w l week list = ([], levelsE w l week list) := by unfold sideR; rw [if_pos h]
theorem sideR_no {w : Wind} {l : List Station} {week : Int} {list : List Int} (h : levelsE w l week list = 0) (hf : ¬ fitsS w l week list) : sideR w l week list = ([], 3) := by unfold sideR; rw [if_neg (by simp [h]), if_neg hf]
theorem sideR_yes {w : Wind} {l : List Station} {week : Int} {list : List Int} (h : levelsE w l week list = 0) (hf : fitsS w l week list) : sideR w l week list = (sideL w l week list, 0) := by unfold sideR; rw [if_neg (by simp [h]), if_pos hf]
end Go.Proofs.S5
