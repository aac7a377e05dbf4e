import Derived.Test.YtooomcigmleneaaGreatT10KGen
import Derived.Test.YtooomcigmleneaaGreatT10Forg
import Derived.Test.YtooomcigmleneaaGreatKyB
/- Top, clocks: readings of a chain: the lesser, the greater, the median ones; what is between; in plain Lean. -/
namespace Go.Proofs.T10
open Go Go.Kx

theorem Rd.min {g a : Nat → Span} {n : Nat} {x y : Nat → Int} (hx : Rd g a n x) (hy : Rd g a n y) : Rd g a n (fun i => Min.min (x i) (y i)) :=
  ⟨fun i hi => by have h1 := hx.1 i hi; have h2 := hy.1 i hi; (try dsimp only); omega, fun i hi => by have h1 := hx.2 i hi; have h2 := hy.2 i hi; (try dsimp only); omega⟩
theorem Rd.max {g a : Nat → Span} {n : Nat} {x y : Nat → Int} (hx : Rd g a n x) (hy : Rd g a n y) : Rd g a n (fun i => Max.max (x i) (y i)) :=
  ⟨fun i hi => by have h1 := hx.1 i hi; have h2 := hy.1 i hi; (try dsimp only); omega, fun i hi => by have h1 := hx.2 i hi; have h2 := hy.2 i hi; (try dsimp only); omega⟩
def med (a b c : Int) : Int := Max.max (Min.min a b) (Min.min (Max.max a b) c)
theorem Rd.med {g a : Nat → Span} {n : Nat} {x y z : Nat → Int} (hx : Rd g a n x) (hy : Rd g a n y) (hz : Rd g a n z) : Rd g a n (fun i => T10.med (x i) (y i) (z i)) :=
  (hx.min hy).max ((hx.max hy).min hz)
theorem ediv_mid {p D lo hi : Int} (hD : 0 < D) (h1 : D * lo ≤ p) (h2 : p ≤ D * hi) : lo ≤ p / D ∧ p / D ≤ hi := by
  have e1 : D * lo / D = lo := Int.mul_ediv_cancel_left lo (by omega)
  have e2 : D * hi / D = hi := Int.mul_ediv_cancel_left hi (by omega)
  exact ⟨by rw [← e1]; exact Int.ediv_le_ediv hD h1, by rw [← e2]; exact Int.ediv_le_ediv hD h2⟩
theorem ediv_shift {p q D c : Int} (hD : 0 < D) (h : p ≤ q + D * c) : p / D ≤ q / D + c := by
  have := Int.ediv_le_ediv hD h
  rwa [Int.add_mul_ediv_left _ _ (by omega)] at this
theorem ediv_shift2 {p q D c : Int} (hD : 0 < D) (h : q + D * c ≤ p) : q / D + c ≤ p / D := by
  have := Int.ediv_le_ediv hD h
  rwa [Int.add_mul_ediv_left _ _ (by omega)] at this
theorem mul_le {s a b : Int} (hs : 0 ≤ s) (h : a ≤ b) : s * a ≤ s * b := Int.mul_le_mul_of_nonneg_left h hs
theorem Rd.conv {g a : Nat → Span} {n : Nat} {x y : Nat → Int} (hx : Rd g a n x) (hy : Rd g a n y) {s t : Int} (hs : 0 ≤ s) (ht : 0 ≤ t) (hD : 0 < s + t) : Rd g a n (fun i => (s * x i + t * y i) / (s + t)) := by
  refine ⟨fun i hi => ?_, fun i hi => ?_⟩
  · have h1 := hx.1 i hi; have h2 := hy.1 i hi
    refine ediv_mid hD ?_ ?_
    · rw [Int.add_mul]; have := mul_le hs h1.1; have := mul_le ht h2.1; omega
    · rw [Int.add_mul]; have := mul_le hs h1.2; have := mul_le ht h2.2; omega
  · have h1 := hx.2 i hi; have h2 := hy.2 i hi
    have a1 := mul_le hs h1.1; have a2 := mul_le ht h2.1; have a3 := mul_le hs h1.2; have a4 := mul_le ht h2.2
    rw [Int.mul_sub] at a1 a2 a3 a4
    have b1 := ediv_shift2 (p := s * x (i + 1) + t * y (i + 1)) (q := s * x i + t * y i) (c := (g i).Lo) hD (by rw [Int.add_mul]; omega)
    have b2 := ediv_shift (p := s * x (i + 1) + t * y (i + 1)) (q := s * x i + t * y i) (c := (g i).Hi) hD (by rw [Int.add_mul]; omega)
    (try dsimp only)
    omega
/-! ### two columns -/
/-! ### two marks are enough -/
end Go.Proofs.T10
/- Top, clocks: questions and answers, in plain Lean. -/
namespace Go.Proofs.T10
open Go Go.Kx

/-! ### answers -/
def losL (l : List Span) : List Int := (List.range l.length).map fun i => (gt l i).Lo
def hisL (l : List Span) : List Int := (List.range l.length).map fun i => (gt l i).Hi
def earR (d : Drum) (m : List Mark) : List Int × Int := if openE d m [] [] ≠ 0 then ([], openE d m [] []) else (losL (setD d m), 0)
def latR (d : Drum) (m : List Mark) : List Int × Int := if openE d m [] [] ≠ 0 then ([], openE d m [] []) else (hisL (setD d m), 0)
def spanR (d : Drum) (m : List Mark) (c : Int) : Span × Int := if openE d m [c] [] ≠ 0 then (⟨0, 0⟩, openE d m [c] []) else (gt (setD d m) c.toNat, 0)
def setC (d : Drum) (m : List Mark) : Clk := ⟨gapL d, setD d m⟩
def betR (d : Drum) (m : List Mark) (a b : Int) : Span × Int := if openE d m [a, b] [] ≠ 0 then (⟨0, 0⟩, openE d m [a, b] []) else (betS (setC d m) a.toNat b.toNat, 0)
def wiC (d : Drum) (m : List Mark) (c : Nat) (t : Int) : Clk := withC (setC d m) c t
def withR (d : Drum) (m : List Mark) (c t : Int) : List Int × Int :=
  if openE d m [c] [t] ≠ 0 then ([], openE d m [c] [t]) else if okC (wiC d m c.toNat t) then (losL (setL (wiC d m c.toNat t)), 0) else ([], 3)
def runR (d : Drum) (m : List Mark) (t : Int) : List Span × Int :=
  if openE d m [] [t] ≠ 0 then ([], openE d m [] [t]) else if okC (wiC d m 0 t) then (setL (wiC d m 0 t), 0) else ([], 3)
def cntN (l : List Int) (t : Int) : Nat → Nat
  | 0 => 0
  | n + 1 => if gt l n ≤ t then n + 1 else cntN l t n
def pasS (l : List Int) (t : Int) : Int := (cntN l t l.length : Int) - 1
def atR (d : Drum) (m : List Mark) (t : Int) : Span × Int :=
  if openE d m [] [t] ≠ 0 then (⟨0, 0⟩, openE d m [] [t]) else (⟨pasS (hisL (setD d m)) t, pasS (losL (setD d m)) t⟩, 0)
def medL (a b c : List Int) : List Int := (List.range a.length).map fun i => med (gt a i) (gt b i) (gt c i)
def medR (d : Drum) (m : List Mark) (a b c : List Int) : List Int × Int :=
  if chkE d m ≠ 0 then ([], chkE d m) else if ¬ keepP d m a ∨ ¬ keepP d m b ∨ ¬ keepP d m c then ([], 22) else (medL a b c, 0)
def gapR (d : Drum) (c : Int) : Span × Int := if drumE d ≠ 0 then (⟨0, 0⟩, drumE d) else if 0 ≤ c ∧ c ≤ (d.Rates.length : Int) - 1 then (gapS d c.toNat, 0) else (⟨0, 0⟩, 1)
def agrR (d : Drum) (a b : Mark) : Bool × Int := feasR d [a, b]
def winD (d : Drum) (s : Stp) : Drum := ⟨d.Rates, d.Stops ++ [s]⟩
def winR (d : Drum) (s : Stp) : Drum × Int := if drumE d ≠ 0 then (⟨[], []⟩, drumE d) else if 16 ≤ d.Stops.length then (⟨[], []⟩, 2) else if drumE (winD d s) ≠ 0 then (⟨[], []⟩, 1) else (winD d s, 0)
/-! ### contradictions -/
def snglN (d : Drum) (m : List Mark) : Nat → List (List Int)
  | 0 => []
  | k + 1 => if okD d [gt m k] then snglN d m k else snglN d m k ++ [[(k : Int)]]
def pairP (d : Drum) (m : List Mark) (i k : Nat) : Prop := okD d [gt m i] ∧ okD d [gt m k] ∧ ¬ okD d [gt m i, gt m k]
instance (d : Drum) (m : List Mark) (i k : Nat) : Decidable (pairP d m i k) := by unfold pairP; exact inferInstance
def rowN (d : Drum) (m : List Mark) (i : Nat) : Nat → List (List Int)
  | 0 => []
  | k + 1 => if i < k ∧ pairP d m i k then rowN d m i k ++ [[(i : Int), (k : Int)]] else rowN d m i k
def dblN (d : Drum) (m : List Mark) : Nat → List (List Int)
  | 0 => []
  | i + 1 => dblN d m i ++ rowN d m i m.length
def pairL (d : Drum) (m : List Mark) : List (List Int) := if okD d [] then snglN d m m.length ++ dblN d m m.length else [[]]
def prsR (d : Drum) (m : List Mark) : List (List Int) × Int := if chkE d m ≠ 0 then ([], chkE d m) else if pairL d m = [] then ([], 3) else (pairL d m, 0)
def conR (d : Drum) (m : List Mark) : List Int × Int := if (prsR d m).2 ≠ 0 then ([], (prsR d m).2) else (gt (prsR d m).1 0, 0)
def setsF (n : Nat) : Nat → List Int → Nat → List (List Int)
  | 0, l, _ => [l]
  | s + 1, l, next => (List.range (n - next)).flatMap fun j => setsF n s (l ++ [((next + j : Nat) : Int)]) (next + j + 1)
def hitB (bad : List (List Int)) (l : List Int) : Bool := bad.all fun p => p.any fun i => l.contains i
def drpN (bad : List (List Int)) (n size : Nat) : List (List Int) := (setsF n size [] 0).filter (hitB bad)
def drpF (bad : List (List Int)) (n : Nat) : Nat → Nat → List (List Int)
  | 0, _ => []
  | f + 1, s => if drpN bad n s = [] then drpF bad n f (s + 1) else drpN bad n s
def drpL (bad : List (List Int)) (n : Nat) : List (List Int) := drpF bad n (n + 1) 0
def drpR (d : Drum) (m : List Mark) : List (List Int) × Int :=
  if chkE d m ≠ 0 then ([], chkE d m) else if 12 < m.length then ([], 2) else if okD d [] then (drpL (pairL d m) m.length, 0) else ([], 22)
end Go.Proofs.T10
/- Top, clocks: readings and further marks, in plain Lean. -/
namespace Go.Proofs.T10
open Go Go.Kx

theorem Rd.congr {g a : Nat → Span} {n : Nat} {x y : Nat → Int} (h : Rd g a n x) (he : ∀ i, i ≤ n → y i = x i) : Rd g a n y :=
  ⟨fun i hi => by rw [he i hi]; exact h.1 i hi, fun i hi => by rw [he i (by omega), he (i + 1) (by omega)]; exact h.2 i hi⟩
def minL (a b : List Int) : List Int := (List.range a.length).map fun i => min (gt a i) (gt b i)
def maxL (a b : List Int) : List Int := (List.range a.length).map fun i => max (gt a i) (gt b i)
/-! ### marks one by one -/
def colsOk (d : Drum) (m : List Mark) : Prop := ∀ x, x ∈ m → 0 ≤ x.Column ∧ x.Column ≤ (d.Rates.length : Int)
theorem stD_bd {d : Drum} {m : List Mark} (h : Ok d m) (ho : okD d m) {i : Nat} (hi : i ≤ d.Rates.length) : (0 ≤ (stD d m i).Lo ∧ (stD d m i).Lo ≤ (stD d m i).Hi) ∧ (stD d m i).Hi ≤ 400 := by
  have h1 := ho i (by omega); have h2 := st_in (gapS d) (atS m) hi; have h3 := atS_bd h i; unfold stD; omega
theorem setC_w {d : Drum} {m : List Mark} (h : Ok d m) (ho : okD d m) : CkW (setC d m) := by
  refine ⟨by show (setD d m).length = (gapL d).length + 1; rw [gapL_len, setD_len], by show (gapL d).length ≤ 199; rw [gapL_len]; exact h.dr.1.1.2, fun i hi => ?_, fun i hi => ?_⟩
  · have hi' : i < (gapL d).length := hi
    rw [gapL_len] at hi'
    show (1 ≤ (gt (gapL d) i).Lo ∧ _) ∧ _
    have : gt (setC d m).gaps i = gapS d i := gapL_at hi'
    rw [this]; rw [gapL_at hi']; exact gapS_bd h.dr hi'
  · have hi' : i < (setD d m).length := hi
    rw [setD_len] at hi'
    have : gt (setC d m).at_ i = stD d m i := setD_at (by omega)
    rw [this]; have := stD_bd h ho (i := i) (by omega); omega
def oneM (k : Nat) (t : Int) : Mark := ⟨(k : Int), ⟨t, t⟩⟩
end Go.Proofs.T10
/- Top, clocks: what the loops keep, in plain Lean. -/
namespace Go.Proofs.T10
open Go Go.Kx

/-! ### passes -/
def fwP (G L : List Span) (i : Nat) : List Span := (List.range (G.length + 1)).map fun j => if j ≤ i then fw (gt G) (gt L) j else gt L j
def bwP (G L : List Span) (i : Nat) : List Span := (List.range (G.length + 1)).map fun j => if G.length - i ≤ j then st (gt G) (gt L) G.length j else fw (gt G) (gt L) j
theorem fwP_len (G L : List Span) (i : Nat) : (fwP G L i).length = G.length + 1 := map_len _ _
theorem bwP_len (G L : List Span) (i : Nat) : (bwP G L i).length = G.length + 1 := map_len _ _
theorem fwP_at {G L : List Span} {i j : Nat} (h : j ≤ G.length) : gt (fwP G L i) j = if j ≤ i then fw (gt G) (gt L) j else gt L j := gt_map (by omega)
theorem bwP_at {G L : List Span} {i j : Nat} (h : j ≤ G.length) : gt (bwP G L i) j = if G.length - i ≤ j then st (gt G) (gt L) G.length j else fw (gt G) (gt L) j := gt_map (by omega)
theorem fwP_zero {G L : List Span} (h : L.length = G.length + 1) : fwP G L 0 = L := by
  refine (eq_map h fun j _ => ?_).symm
  split
  · rename_i hj; obtain rfl : j = 0 := by omega
    rfl
  · rfl
theorem fwP_last (G L : List Span) : fwP G L G.length = bwP G L 0 := by
  refine map_congr fun j hj => ?_
  rw [if_pos (by omega)]
  split
  · obtain rfl : j = G.length := by omega
    rw [st_last]
  · rfl
theorem bwP_last (c : Clk) (L : List Span) : bwP c.gaps L c.gaps.length = setL ⟨c.gaps, L⟩ := map_congr fun j hj => by rw [if_pos (by omega)]
theorem fwP_step {G L : List Span} {i : Nat} (h : i < G.length) :
    (fwP G L i).set (i + 1) (meet (gt (fwP G L i) (i + 1)) ⟨(gt (fwP G L i) i).Lo + (gt G i).Lo, (gt (fwP G L i) i).Hi + (gt G i).Hi⟩) = fwP G L (i + 1) := by
  refine eq_map (by simp [fwP_len]) fun j hj => ?_
  have e1 : gt (fwP G L i) (i + 1) = gt L (i + 1) := by rw [fwP_at (by omega), if_neg (by omega)]
  have e2 : gt (fwP G L i) i = fw (gt G) (gt L) i := by rw [fwP_at (by omega), if_pos (Nat.le_refl _)]
  rw [gt_set _ _ (by rw [fwP_len]; omega), e1, e2]
  by_cases hc : i + 1 = j
  · subst hc; rw [if_pos rfl, if_pos (Nat.le_refl _)]; rfl
  · rw [if_neg hc, fwP_at (by omega)]
    by_cases h2 : j ≤ i
    · rw [if_pos h2, if_pos (by omega)]
    · rw [if_neg h2, if_neg (by omega)]
theorem bwP_step {G L : List Span} {i q : Nat} (h : i < G.length) (hq : q = G.length - 1 - i) :
    (bwP G L i).set q (meet (gt (bwP G L i) q) ⟨(gt (bwP G L i) (q + 1)).Lo - (gt G q).Hi, (gt (bwP G L i) (q + 1)).Hi - (gt G q).Lo⟩) = bwP G L (i + 1) := by
  refine eq_map (by simp [bwP_len]) fun j hj => ?_
  have e1 : gt (bwP G L i) q = fw (gt G) (gt L) q := by rw [bwP_at (by omega), if_neg (by omega)]
  have e2 : gt (bwP G L i) (q + 1) = st (gt G) (gt L) G.length (q + 1) := by rw [bwP_at (by omega), if_pos (by omega)]
  rw [gt_set _ _ (by rw [bwP_len]; omega), e1, e2]
  by_cases hc : q = j
  · subst hc
    rw [if_pos rfl, if_pos (by omega)]
    refine span_eq ?_ ?_
    · rw [st_lo (gt G) (gt L) (i := q) (by omega)]; rfl
    · rw [st_hi (gt G) (gt L) (i := q) (by omega)]; rfl
  · rw [if_neg hc, bwP_at (by omega)]
    by_cases h2 : G.length - i ≤ j
    · rw [if_pos h2, if_pos (by omega)]
    · rw [if_neg h2, if_neg (by omega)]
def setI (c : Clk) (L : List Span) : Prop := L = c.at_ ∨ (L = setL c ∧ okC c)
theorem setI_len {c : Clk} (h : CkW c) {L : List Span} (hi : setI c L) : L.length = c.gaps.length + 1 := by
  rcases hi with rfl | ⟨rfl, _⟩
  · exact h.l
  · exact setL_len c
theorem CkW.gap {c : Clk} (h : CkW c) : GapOk (gt c.gaps) c.gaps.length := fun i hi => (h.g i hi).1.2
theorem setI_set {c : Clk} (h : CkW c) {L : List Span} (hi : setI c L) : setL ⟨c.gaps, L⟩ = setL c := by
  rcases hi with rfl | ⟨rfl, _⟩
  · rfl
  · unfold setL
    refine map_congr fun j hj => ?_
    have hj' : j < c.gaps.length + 1 := hj
    dsimp only
    rw [← st_st h.gap (gt c.at_) (i := j) (by omega)]
    exact st_congr (fun _ _ => rfl) (fun q hq => setL_at hq) (by omega)
theorem setL_bd {c : Clk} (h : CkW c) (ho : okC c) {i : Nat} (hi : i ≤ c.gaps.length) : (0 ≤ (gt (setL c) i).Lo ∧ (gt (setL c) i).Lo ≤ (gt (setL c) i).Hi) ∧ (gt (setL c) i).Hi ≤ 400 := by
  have h1 := ho i (by omega)
  have h2 := st_in (gt c.gaps) (gt c.at_) hi
  have h3 := h.a i (by rw [h.l]; omega)
  rw [setL_at hi]; omega
theorem setI_bd {c : Clk} (h : CkW c) {L : List Span} (hi : setI c L) {i : Nat} (hl : i ≤ c.gaps.length) : (-400 ≤ (gt L i).Lo ∧ (gt L i).Lo ≤ 400) ∧ -400 ≤ (gt L i).Hi ∧ (gt L i).Hi ≤ 400 := by
  rcases hi with rfl | ⟨rfl, ho⟩
  · have := h.a i (by rw [h.l]; omega); omega
  · have := setL_bd h ho hl; omega
theorem gapB {c : Clk} (h : CkW c) : ∀ i, i < c.gaps.length → (0 ≤ (gt c.gaps i).Lo ∧ (gt c.gaps i).Lo ≤ 10000) ∧ 0 ≤ (gt c.gaps i).Hi ∧ (gt c.gaps i).Hi ≤ 10000 := fun i hi => by have := h.g i hi; omega
theorem fw_bdc {c : Clk} (h : CkW c) {L : List Span} (hi : setI c L) {k : Nat} (hk : k ≤ c.gaps.length) : (-400 ≤ (fw (gt c.gaps) (gt L) k).Lo ∧ (fw (gt c.gaps) (gt L) k).Lo ≤ 3000000) ∧ -400 ≤ (fw (gt c.gaps) (gt L) k).Hi ∧ (fw (gt c.gaps) (gt L) k).Hi ≤ 400 := by
  have hn := h.n
  have key : ∀ k : Nat, k ≤ c.gaps.length → (-400 ≤ (fw (gt c.gaps) (gt L) k).Lo ∧ (fw (gt c.gaps) (gt L) k).Lo ≤ 400 + 10000 * (k : Int)) ∧ -400 ≤ (fw (gt c.gaps) (gt L) k).Hi ∧ (fw (gt c.gaps) (gt L) k).Hi ≤ 400 := by
    intro k
    induction k with
    | zero => intro _; have := setI_bd h hi (i := 0) (Nat.zero_le _); simp only [fw]; omega
    | succ k ih => intro hk; have h1 := ih (by omega); have h2 := setI_bd h hi hk; have h3 := gapB h k (by omega); rw [fw_lo, fw_hi]; omega
  have := key k hk; omega
theorem st_bdc {c : Clk} (h : CkW c) {L : List Span} (hi : setI c L) {k : Nat} (hk : k ≤ c.gaps.length) : (-400 ≤ (st (gt c.gaps) (gt L) c.gaps.length k).Lo ∧ (st (gt c.gaps) (gt L) c.gaps.length k).Lo ≤ 3000000) ∧ -3000000 ≤ (st (gt c.gaps) (gt L) c.gaps.length k).Hi ∧ (st (gt c.gaps) (gt L) c.gaps.length k).Hi ≤ 400 := by
  have hn := h.n
  have key : ∀ j k : Nat, k + j = c.gaps.length → (-400 ≤ (st (gt c.gaps) (gt L) c.gaps.length k).Lo ∧ (st (gt c.gaps) (gt L) c.gaps.length k).Lo ≤ 3000000) ∧ -400 - 10000 * (j : Int) ≤ (st (gt c.gaps) (gt L) c.gaps.length k).Hi ∧ (st (gt c.gaps) (gt L) c.gaps.length k).Hi ≤ 400 := by
    intro j
    induction j with
    | zero => intro k hk; obtain rfl : k = c.gaps.length := by omega
              rw [st_last]; have := fw_bdc h hi (Nat.le_refl c.gaps.length); omega
    | succ j ih => intro k hk; have h1 := ih (k + 1) (by omega); have h2 := fw_bdc h hi (k := k) (by omega); have h3 := gapB h k (by omega); rw [st_lo (gt c.gaps) (gt L) (by omega), st_hi (gt c.gaps) (gt L) (by omega)]; omega
  have := key (c.gaps.length - k) k (by omega); omega
theorem fwP_bd {c : Clk} (h : CkW c) {L : List Span} (hi : setI c L) {i j : Nat} (hj : j ≤ c.gaps.length) : (-400 ≤ (gt (fwP c.gaps L i) j).Lo ∧ (gt (fwP c.gaps L i) j).Lo ≤ 3000000) ∧ -400 ≤ (gt (fwP c.gaps L i) j).Hi ∧ (gt (fwP c.gaps L i) j).Hi ≤ 400 := by
  rw [fwP_at hj]; split
  · exact fw_bdc h hi hj
  · have := setI_bd h hi hj; omega
theorem bwP_bd {c : Clk} (h : CkW c) {L : List Span} (hi : setI c L) {i j : Nat} (hj : j ≤ c.gaps.length) : (-400 ≤ (gt (bwP c.gaps L i) j).Lo ∧ (gt (bwP c.gaps L i) j).Lo ≤ 3000000) ∧ -3000000 ≤ (gt (bwP c.gaps L i) j).Hi ∧ (gt (bwP c.gaps L i) j).Hi ≤ 400 := by
  rw [bwP_at hj]; split
  · exact st_bdc h hi hj
  · have := fw_bdc h hi hj; omega
theorem ok_all {c : Clk} : okC c ↔ ∀ i, i < (setL c).length → ¬ (gt (setL c) i).Hi < (gt (setL c) i).Lo := by
  unfold okC okP
  rw [setL_len]
  exact ⟨fun h i hi => by have := h i hi; rw [setL_at (by omega)]; omega, fun h i hi => by have := h i hi; rw [setL_at (by omega)] at this; omega⟩
/-! ### one span, again and again -/
def repL (x z : Span) (n k : Nat) : List Span := List.replicate k x ++ List.replicate (n - k) z
theorem repL_len {x z : Span} {n k : Nat} (h : k ≤ n) : (repL x z n k).length = n := by simp [repL]; omega
theorem rep_start (x z : Span) {n : Nat} (h : 0 < n) : [x] ++ (List.replicate n z).drop [x].length = repL x z n 1 := by simp [repL]
theorem rep_step {x z : Span} {n k : Nat} : (repL x z n k).take k ++ (repL x z n k).take (min k (n - k)) ++ (repL x z n k).drop (k + min k (n - k)) = repL x z n (k + min k (n - k)) := by
  have h1 : (repL x z n k).take k = List.replicate k x := by unfold repL; rw [List.take_left' (by simp)]
  have h2 : (repL x z n k).take (min k (n - k)) = List.replicate (min k (n - k)) x := by
    unfold repL; rw [List.take_append_of_le_length (by simp; omega), List.take_replicate]; congr 1; omega
  have h3 : (repL x z n k).drop (k + min k (n - k)) = List.replicate (n - (k + min k (n - k))) z := by
    unfold repL; rw [List.drop_append, List.drop_of_length_le (by simp)]; simp; omega
  rw [h1, h2, h3, List.replicate_append_replicate]
  rfl
theorem rep_end (x z : Span) (n : Nat) : repL x z n n = List.replicate n x := by simp [repL]
end Go.Proofs.T10
/- Top, clocks: what further loops keep, in plain Lean. -/
namespace Go.Proofs.T10
open Go Go.Kx

/-! ### readings of a clock -/
def goodC (c : Clk) (l : List Int) (j : Nat) : Prop := ((gt c.at_ j).Lo ≤ gt l j ∧ gt l j ≤ (gt c.at_ j).Hi) ∧ (0 < j → (gt c.gaps (j - 1)).Lo ≤ gt l j - gt l (j - 1) ∧ gt l j - gt l (j - 1) ≤ (gt c.gaps (j - 1)).Hi)
instance (c : Clk) (l : List Int) (j : Nat) : Decidable (goodC c l j) := by unfold goodC; exact inferInstance
def keepC (c : Clk) (l : List Int) : Prop := l.length = c.at_.length ∧ ∀ j, j < c.at_.length → goodC c l j
instance (c : Clk) (l : List Int) : Decidable (keepC c l) := by unfold keepC; exact inferInstance
theorem openC_bad {d : Drum} {m : List Mark} {cs ts : List Int} (h : openE d m cs ts ≠ 0) : openC d m cs ts = ⟨[], []⟩ := by rw [openC, if_neg h]
theorem openC_ok {d : Drum} {m : List Mark} {cs ts : List Int} (h : openE d m cs ts = 0) : openC d m cs ts = setC d m := by rw [openC, if_pos h]; rfl
/-! ### passes over the greater ends -/
def hiL (c : Clk) (X : Nat → Span) : List Int := (List.range (c.gaps.length + 1)).map fun j => (X j).Hi
def fwH (c : Clk) (X : Nat → Span) (i : Nat) : List Int := (List.range (c.gaps.length + 1)).map fun j => if j ≤ i then (fw (gt c.gaps) X j).Hi else (X j).Hi
def bwH (c : Clk) (X : Nat → Span) (i : Nat) : List Int := (List.range (c.gaps.length + 1)).map fun j => if c.gaps.length - i ≤ j then (st (gt c.gaps) X c.gaps.length j).Hi else (fw (gt c.gaps) X j).Hi
def mosX (c : Clk) (f r : Nat) : Nat → Span := if r = 0 then mosA (gt c.at_) f else st (gt c.gaps) (mosA (gt c.at_) f) c.gaps.length
def dfN (c : Clk) (f k : Nat) : List Int := (List.range (c.gaps.length + 1)).map fun j => if j < k then (gt c.at_ j).Hi - (gt c.at_ f).Lo else 0
/-! ### the table -/
def tabF (c : Clk) (i k a b : Nat) : Int := if (a < i ∨ (a = i ∧ b < k)) ∧ b < c.gaps.length + 1 then mos (gt c.gaps) (gt c.at_) c.gaps.length a b else 0
def Tab (L : List Int) (f : Nat → Nat → Int) : Prop := L.length = 40401 ∧ ∀ a b, a < 201 → b < 201 → gt L (a * 201 + b) = f a b
def tabL (c : Clk) : List Int := (List.range 40401).map fun q => tabF c (c.gaps.length + 1) 0 (q / 201) (q % 201)
attribute [irreducible] tabL
end Go.Proofs.T10
/- Top, clocks: answers, case by case. -/
namespace Go.Proofs.T10
open Go Go.Kx
theorem setC_n (d : Drum) (m : List Mark) : (setC d m).gaps.length = d.Rates.length := gapL_len d
theorem setC_l (d : Drum) (m : List Mark) : (setC d m).at_.length = d.Rates.length + 1 := setD_len d m
theorem earR_bad {d : Drum} {m : List Mark} (h : openE d m [] [] ≠ 0) : earR d m = ([], openE d m [] []) := by rw [earR, if_pos h]
theorem earR_ok {d : Drum} {m : List Mark} (h : openE d m [] [] = 0) : earR d m = (losL (setC d m).at_, 0) := by rw [earR, if_neg (by omega)]; rfl
end Go.Proofs.T10
/- Top: the examples of the document, reckoned; in plain Lean. -/
namespace Go.Proofs.T10
open Go Go.Kx
theorem len1 {α : Type} {l : List α} (h : l.length = 1) : ∃ x, l = [x] := List.length_eq_one_iff.1 h
theorem aw_uni : uniR [⟨0, 2⟩, ⟨5, 5⟩] [⟨2, 4⟩] = [⟨0, 5⟩] := by decide +kernel
theorem aw_uniE : uniE [⟨0, 2⟩, ⟨5, 5⟩] [⟨2, 4⟩] = 0 := by decide +kernel
theorem aw_fol : folR ⟨1, ⟨0, 0⟩, 9⟩ 5 [5, 7, 4] = [5, 6, 5] := by decide +kernel
theorem aw_folE : folE ⟨1, ⟨0, 0⟩, 9⟩ 5 [5, 7, 4] = 0 := by decide +kernel
theorem aw_ear : (earR ⟨[⟨2, 3⟩], []⟩ [⟨1, ⟨5, 5⟩⟩]).1 = [2, 5] := by decide +kernel
theorem aw_earE : (earR ⟨[⟨2, 3⟩], []⟩ [⟨1, ⟨5, 5⟩⟩]).2 = 0 := by decide +kernel
def OneB (i : Nat) (x : Value × Nat × List Value) : Prop := (i = 0 ∧ x = (.slice none 0 0, 0, [])) ∨ (i = 1 ∧ x.2.1 = 1 ∧ Bk x.2.2 ∧ x.1.oneCell' = true)
theorem oneB_zero : OneB 0 (.slice none 0 0, 0, []) := .inl ⟨rfl, rfl⟩
theorem bk_at0 {ys : List Value} {k : Nat} (hk : k = 0) : ∀ j u, ys[j]? = some u → ys[k * 64 + j]? = some u := fun j u h => by subst hk; simpa using h
end Go.Proofs.T10
/- Top: how many binary digits, in plain Lean. -/
namespace Go.Proofs.T10
open Go Go.Kx
def lenQ (q p : Nat) : Bool := decide (p ≤ 8) && (decide (q = 0) || decide (2 ^ p ≤ 2 * q))
theorem lenQ_bd {q p : Nat} (h : lenQ q p = true) : p ≤ 8 ∧ (1 ≤ q → (2 : Int) ^ p ≤ 2 * q) := by
  unfold lenQ at h
  simp only [Bool.and_eq_true, Bool.or_eq_true, decide_eq_true_eq] at h
  refine ⟨h.1, fun hq => ?_⟩
  rcases h.2 with h1 | h1
  · omega
  · exact_mod_cast h1
theorem len_pow {p : Nat} (n : Nat) {x z c : Int} (hc : (2 : Int) ^ n = c) (hp : (2 : Int) ^ p ≤ 2 * x) (hz : x * c ≤ z) (h0 : 0 ≤ c) : (2 : Int) ^ (n + p) ≤ 2 * z := by
  have h1 : (2 : Int) ^ p * c ≤ 2 * x * c := Int.mul_le_mul_of_nonneg_right hp h0
  have h2 : (2 : Int) ^ (n + p) = 2 ^ p * c := by rw [Int.pow_add, hc, Int.mul_comm]
  have h3 : 2 * x * c = 2 * (x * c) := Int.mul_assoc 2 x c
  omega
end Go.Proofs.T10
