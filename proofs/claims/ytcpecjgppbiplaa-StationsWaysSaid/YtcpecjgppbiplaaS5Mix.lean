/- Stations: what the further laws say, in plain Lean: no stations' code in sight. -/
import Derived.Test.YtcpecjgppbiplaaS5Rel
import Derived.Test.YtcpecjgppbiplaaS5Law
namespace Go.Proofs.S5
open Go Go.Kx

def midI (a b c : Int) : Int := max (max (min a b) (min b c)) (min a c)
def mapL (f : Nat → Int) (n : Nat) : List Int := (List.range n).map f
def lowL (a b : List Int) : List Int := mapL (fun i => min (gt a i) (gt b i)) a.length
def highL (a b : List Int) : List Int := mapL (fun i => max (gt a i) (gt b i)) a.length
def midL (a b c : List Int) : List Int := mapL (fun i => midI (gt a i) (gt b i) (gt c i)) a.length
theorem mapL_len (f : Nat → Int) (n : Nat) : (mapL f n).length = n := by simp [mapL]
theorem mapL_at {f : Nat → Int} {n i : Nat} (h : i < n) : gt (mapL f n) i = f i := gt_map f h

/-! ### the wind -/
def windyAt (w : Wind) (l : List Station) (s : List Int) (i k : Nat) : Prop :=
  (withinR w (gt l i) (gt l k)).2 = 0 ∧ i < s.length ∧ k < s.length ∧ gt s i - gt s k ≤ (withinR w (gt l i) (gt l k)).1
instance (w : Wind) (l : List Station) (s : List Int) (i k : Nat) : Decidable (windyAt w l s i k) := by unfold windyAt; exact inferInstance
def smallL (s : List Int) : Prop := ∀ i, i < s.length → -1000000 ≤ gt s i ∧ gt s i ≤ 1000000
instance (s : List Int) : Decidable (smallL s) := by unfold smallL; exact inferInstance
def windyP (w : Wind) (l : List Station) (s : List Int) : Prop := smallL s ∧ (∀ i, i < l.length → ∀ k, k < l.length → windyAt w l s i k) ∧ s.length = l.length
instance (w : Wind) (l : List Station) (s : List Int) : Decidable (windyP w l s) := by unfold windyP; exact inferInstance
theorem withinR_bd (w : Wind) (a b : Station) : 0 ≤ (withinR w a b).1 ∧ (withinR w a b).1 ≤ 1000000000 := by
  unfold withinR
  split
  · simp
  · rename_i h1
    split
    · simp
    · rename_i h2
      have hz := twoE_zero (Decidable.of_not_not h1)
      exact boundS_bd (Decidable.of_not_not h2) (oneE_zero hz.1).1 (oneE_zero hz.2).1

/-! ### heights, sea levels -/
def heightR (s : Station) (week : Int) : Span × Int := if oneE s ≠ 0 then (⟨0, 0⟩, oneE s) else if 0 ≤ week ∧ week ≤ 10000 then (heightS s week, 0) else (⟨0, 0⟩, 1)
theorem aloneE_one (s : Station) : aloneE [s] = oneE s := by
  unfold aloneE; split
  · rfl
  · rename_i h; unfold aloneE; exact (Decidable.of_not_not h).symm
def seaIn (l : List Station) (week : Int) (levels s : List Int) (i : Nat) : Prop :=
  (heightR (gt l i) week).2 = 0 ∧ (seasR (gt levels i) (heightR (gt l i) week).1).2 = 0 ∧ (seasR (gt levels i) (heightR (gt l i) week).1).1.Lo ≤ gt s i ∧ gt s i ≤ (seasR (gt levels i) (heightR (gt l i) week).1).1.Hi
instance (l : List Station) (week : Int) (levels s : List Int) (i : Nat) : Decidable (seaIn l week levels s i) := by unfold seaIn; exact inferInstance
def isSeaP (w : Wind) (l : List Station) (week : Int) (levels s : List Int) : Prop :=
  (s.length = l.length ∧ levels.length = l.length) ∧ windyP w l s ∧ ∀ i, i < l.length → seaIn l week levels s i
instance (w : Wind) (l : List Station) (week : Int) (levels s : List Int) : Decidable (isSeaP w l week levels s) := by unfold isSeaP; exact inferInstance

/-- what is between each two of three lists -/
structure Mid (f : Int → Int → Int → Int) : Prop where
  ge : ∀ lo a b c : Int, lo ≤ a → lo ≤ b → lo ≤ c → lo ≤ f a b c
  le : ∀ hi a b c : Int, a ≤ hi → b ≤ hi → c ≤ hi → f a b c ≤ hi
  df : ∀ n a b c a' b' c' : Int, a - a' ≤ n → b - b' ≤ n → c - c' ≤ n → f a b c - f a' b' c' ≤ n
theorem mid_min : Mid (fun a b _ => min a b) := ⟨fun _ _ _ _ _ _ _ => by omega, fun _ _ _ _ _ _ _ => by omega, fun _ _ _ _ _ _ _ _ _ _ => by omega⟩
theorem mid_max : Mid (fun a b _ => max a b) := ⟨fun _ _ _ _ _ _ _ => by omega, fun _ _ _ _ _ _ _ => by omega, fun _ _ _ _ _ _ _ _ _ _ => by omega⟩
theorem mid_mid : Mid midI := ⟨fun _ _ _ _ _ _ _ => by unfold midI; omega, fun _ _ _ _ _ _ _ => by unfold midI; omega, fun _ _ _ _ _ _ _ _ _ _ => by unfold midI; omega⟩
theorem isSea_mid {f : Int → Int → Int → Int} (hf : Mid f) {w : Wind} {l : List Station} {week : Int} {levels a b c : List Int} (ha : isSeaP w l week levels a) (hb : isSeaP w l week levels b) (hc : isSeaP w l week levels c) :
    isSeaP w l week levels (mapL (fun i => f (gt a i) (gt b i) (gt c i)) a.length) := by
  obtain ⟨⟨a1, a2⟩, ⟨a3, a4, _⟩, a5⟩ := ha
  obtain ⟨⟨b1, _⟩, ⟨b3, b4, _⟩, b5⟩ := hb
  obtain ⟨⟨c1, _⟩, ⟨c3, c4, _⟩, c5⟩ := hc
  have hl := mapL_len (fun i => f (gt a i) (gt b i) (gt c i)) a.length
  refine ⟨⟨by omega, a2⟩, ⟨fun i hi => ?_, fun i hi k hk => ?_, by omega⟩, fun i hi => ?_⟩
  · rw [hl] at hi
    have h1 := a3 i hi
    have h2 := b3 i (by omega)
    have h3 := c3 i (by omega)
    rw [mapL_at hi]
    exact ⟨hf.ge _ _ _ _ h1.1 h2.1 h3.1, hf.le _ _ _ _ h1.2 h2.2 h3.2⟩
  · have h1 := a4 i hi k hk
    have h2 := b4 i hi k hk
    have h3 := c4 i hi k hk
    refine ⟨h1.1, by omega, by omega, ?_⟩
    rw [mapL_at (by omega), mapL_at (by omega)]
    exact hf.df _ _ _ _ _ _ _ h1.2.2.2 h2.2.2.2 h3.2.2.2
  · have h1 := a5 i hi
    have h2 := b5 i hi
    have h3 := c5 i hi
    refine ⟨h1.1, h1.2.1, ?_, ?_⟩
    · rw [mapL_at (by omega)]; exact hf.ge _ _ _ _ h1.2.2.1 h2.2.2.1 h3.2.2.1
    · rw [mapL_at (by omega)]; exact hf.le _ _ _ _ h1.2.2.2 h2.2.2.2 h3.2.2.2

/-! ### levels that can be at one time -/
/-- sea levels that keep the tight bounds -/
structure Fit (lo hi : Nat → Int) (t : Nat → Nat → Int) (n : Nat) (s : Nat → Int) : Prop where
  lo : ∀ i, i < n → lo i ≤ s i
  hi : ∀ i, i < n → s i ≤ hi i
  df : ∀ i k, i < n → k < n → s i - s k ≤ t i k
theorem xF_fit {lo hi : Nat → Int} {t : Nat → Nat → Int} {n : Nat} (ht : TT n t) (h : ∀ i, i < n → xF lo t n i ≤ hi i) (hs : ∀ i k, i < n → k < n → t i k = t k i) : Fit lo hi t n (xF lo t n) :=
  ⟨fun i _ => xF_lo i, h, fun i k hi hk => by have := xF_step (lo := lo) ht hi hk; have := xF_step (lo := lo) ht hk hi; have := hs i k hi hk; omega⟩
theorem Fit.least {lo hi : Nat → Int} {t : Nat → Nat → Int} {n : Nat} {s : Nat → Int} (h : Fit lo hi t n s) {i : Nat} (hi' : i < n) : xF lo t n i ≤ s i :=
  xF_le (h.lo i hi') fun k hk => by have h1 := h.lo k hk; have h2 := h.df k i hk hi'; omega
theorem Fit.mid {f : Int → Int → Int → Int} (hf : Mid f) {t : Nat → Nat → Int} {n : Nat} {l1 l2 l3 h1 h2 h3 lo hi s1 s2 s3 : Nat → Int} (f1 : Fit l1 h1 t n s1) (f2 : Fit l2 h2 t n s2) (f3 : Fit l3 h3 t n s3)
    (hmono : ∀ a b c a' b' c' : Int, a ≤ a' → b ≤ b' → c ≤ c' → f a b c ≤ f a' b' c') (hlo : ∀ i, i < n → lo i = f (l1 i) (l2 i) (l3 i)) (hhi : ∀ i, i < n → hi i = f (h1 i) (h2 i) (h3 i)) : Fit lo hi t n (fun i => f (s1 i) (s2 i) (s3 i)) :=
  ⟨fun i h => by rw [hlo i h]; exact hmono _ _ _ _ _ _ (f1.lo i h) (f2.lo i h) (f3.lo i h), fun i h => by rw [hhi i h]; exact hmono _ _ _ _ _ _ (f1.hi i h) (f2.hi i h) (f3.hi i h),
    fun i k h h' => hf.df _ _ _ _ _ _ _ (f1.df i k h h') (f2.df i k h h') (f3.df i k h h')⟩
def hiS (l : List Station) (week : Int) (list : List Int) (k : Nat) : Int := (gt (seasL l week list) k).Hi
theorem fits_iff {w : Wind} {l : List Station} {week : Int} {list : List Int} (h : windedE w l = 0) : fitsS w l week list ↔ ∃ s, Fit (loS l week list) (hiS l week list) (tightM w l) l.length s :=
  ⟨fun hf => ⟨_, xF_fit (tight_tt h) hf (fun _ _ hi hk => tight_comm h hi hk)⟩, fun ⟨_, hs⟩ i hi => Int.le_trans (hs.least hi) (hs.hi i hi)⟩
theorem loS_eq {l : List Station} {week : Int} {list : List Int} {i : Nat} (hi : i < l.length) : loS l week list i = seaS (gt list i) (heightS (gt l i) week).Lo := by
  rw [loS, seasL, gt_map _ hi]; rfl
theorem hiS_eq {l : List Station} {week : Int} {list : List Int} {i : Nat} (hi : i < l.length) : hiS l week list i = seaS (gt list i) (heightS (gt l i) week).Hi := by
  rw [hiS, seasL, gt_map _ hi]; rfl
theorem mono_min {g : Int → Int} (hg : ∀ x y, 0 ≤ x → x ≤ y → g x ≤ g y) {a b : Int} (ha : 0 ≤ a) (hb : 0 ≤ b) : min (g a) (g b) = g (min a b) := by
  rcases Int.le_total a b with h | h
  · have := hg a b ha h; rw [Int.min_eq_left this, Int.min_eq_left h]
  · have := hg b a hb h; rw [Int.min_eq_right this, Int.min_eq_right h]
theorem mono_max {g : Int → Int} (hg : ∀ x y, 0 ≤ x → x ≤ y → g x ≤ g y) {a b : Int} (ha : 0 ≤ a) (hb : 0 ≤ b) : max (g a) (g b) = g (max a b) := by
  rcases Int.le_total a b with h | h
  · have := hg a b ha h; rw [Int.max_eq_right this, Int.max_eq_right h]
  · have := hg b a hb h; rw [Int.max_eq_left this, Int.max_eq_left h]
theorem mono_mid {g : Int → Int} (hg : ∀ x y, 0 ≤ x → x ≤ y → g x ≤ g y) {a b c : Int} (ha : 0 ≤ a) (hb : 0 ≤ b) (hc : 0 ≤ c) : midI (g a) (g b) (g c) = g (midI a b c) := by
  unfold midI
  rw [mono_min hg ha hb, mono_min hg hb hc, mono_min hg ha hc, mono_max hg (by omega) (by omega), mono_max hg (by omega) (by omega)]
theorem keepsR_true {w : Wind} {l : List Station} {week : Int} {list : List Int} (h : (keepsR w l week list).1 = true) : levelsE w l week list = 0 ∧ fitsS w l week list := by simpa [keepsR] using h
theorem keepsR_of {w : Wind} {l : List Station} {week : Int} {list : List Int} (h : levelsE w l week list = 0) (hf : fitsS w l week list) : keepsR w l week list = (true, 0) := by
  unfold keepsR; rw [decide_eq_true ⟨h, hf⟩, h]
theorem keeps_mid {f : Int → Int → Int → Int} (hf : Mid f) (hmono : ∀ a b c a' b' c' : Int, a ≤ a' → b ≤ b' → c ≤ c' → f a b c ≤ f a' b' c')
    (hcm : ∀ (g : Int → Int), (∀ x y, 0 ≤ x → x ≤ y → g x ≤ g y) → ∀ a b c : Int, 0 ≤ a → 0 ≤ b → 0 ≤ c → f (g a) (g b) (g c) = g (f a b c)) {w : Wind} {l : List Station} {week : Int} {a b c : List Int}
    (ha : (keepsR w l week a).1 = true) (hb : (keepsR w l week b).1 = true) (hc : (keepsR w l week c).1 = true) : keepsR w l week (mapL (fun i => f (gt a i) (gt b i) (gt c i)) a.length) = (true, 0) := by
  obtain ⟨a1, a2⟩ := keepsR_true ha
  obtain ⟨b1, b2⟩ := keepsR_true hb
  obtain ⟨c1, c2⟩ := keepsR_true hc
  obtain ⟨hw, a3, a4, a5⟩ := levelsE_zero a1
  obtain ⟨_, _, b4, b5⟩ := levelsE_zero b1
  obtain ⟨_, _, c4, c5⟩ := levelsE_zero c1
  have hl := mapL_len (fun i => f (gt a i) (gt b i) (gt c i)) a.length
  have hlv : levelsE w l week (mapL (fun i => f (gt a i) (gt b i) (gt c i)) a.length) = 0 := levelsE_ok hw a3 (by omega) fun i hi => by
    have h1 := a5 i hi; have h2 := b5 i hi; have h3 := c5 i hi
    unfold lvOk at *
    rw [mapL_at (by omega)]
    exact ⟨hf.ge _ _ _ _ h1.1 h2.1 h3.1, hf.le _ _ _ _ h1.2 h2.2 h3.2⟩
  refine keepsR_of hlv ((fits_iff hw).2 ?_)
  obtain ⟨s1, f1⟩ := (fits_iff hw).1 a2
  obtain ⟨s2, f2⟩ := (fits_iff hw).1 b2
  obtain ⟨s3, f3⟩ := (fits_iff hw).1 c2
  refine ⟨_, Fit.mid hf f1 f2 f3 hmono (fun i hi => ?_) (fun i hi => ?_)⟩
  · have h1 := a5 i hi; have h2 := b5 i hi; have h3 := c5 i hi
    unfold lvOk at h1 h2 h3
    have hs := heightS_ok (week := week) (checkS_placed (windedE_zero hw).1 hi).2
    rw [loS_eq hi, loS_eq hi, loS_eq hi, loS_eq hi, mapL_at (by omega)]
    exact (hcm (fun x => seaS x (heightS (gt l i) week).Lo) (fun x y hx hxy => seaS_le hs.1.1 hx hxy) _ _ _ h1.1 h2.1 h3.1).symm
  · have h1 := a5 i hi; have h2 := b5 i hi; have h3 := c5 i hi
    unfold lvOk at h1 h2 h3
    have hs := heightS_ok (week := week) (checkS_placed (windedE_zero hw).1 hi).2
    rw [hiS_eq hi, hiS_eq hi, hiS_eq hi, hiS_eq hi, mapL_at (by omega)]
    exact (hcm (fun x => seaS x (heightS (gt l i) week).Hi) (fun x y hx hxy => seaS_le (Int.le_trans hs.1.1 hs.1.2) hx hxy) _ _ _ h1.1 h2.1 h3.1).symm
section
variable {w : Wind} {l : List Station} {week : Int} {a b c : List Int} (ha : (keepsR w l week a).1 = true) (hb : (keepsR w l week b).1 = true)
include ha hb
theorem keeps_low : keepsR w l week (lowL a b) = (true, 0) :=
  keeps_mid mid_min (fun _ _ _ _ _ _ _ _ _ => by omega) (fun _ hg _ _ _ h1 h2 _ => mono_min hg h1 h2) ha hb hb
theorem keeps_high : keepsR w l week (highL a b) = (true, 0) :=
  keeps_mid mid_max (fun _ _ _ _ _ _ _ _ _ => by omega) (fun _ hg _ _ _ h1 h2 _ => mono_max hg h1 h2) ha hb hb
theorem keeps_between (hc : (keepsR w l week c).1 = true) : keepsR w l week (midL a b c) = (true, 0) :=
  keeps_mid mid_mid (fun _ _ _ _ _ _ _ _ _ => by unfold midI; omega) (fun _ hg _ _ _ h1 h2 h3 => mono_mid hg h1 h2 h3) ha hb hc
end
section
variable {w : Wind} {l : List Station} {week : Int} {levels a b c : List Int} (ha : isSeaP w l week levels a) (hb : isSeaP w l week levels b)
include ha hb
theorem isSea_low : isSeaP w l week levels (lowL a b) := isSea_mid mid_min ha hb hb
theorem isSea_high : isSeaP w l week levels (highL a b) := isSea_mid mid_max ha hb hb
theorem isSea_between (hc : isSeaP w l week levels c) : isSeaP w l week levels (midL a b c) := isSea_mid mid_mid ha hb hc
end
end Go.Proofs.S5
