/- Stations: what the further laws say, in plain Lean: no stations' code in sight. -/
import Derived.Test.YtcpecjgppbiplaaS5Rel
import Derived.Test.YtcpecjgppbiplaaS5Law
namespace Go.Proofs.S5
open Go Go.Kx

def midI (a b c : Int) : Int := max (max (min a b) (min b c)) (min a c)
def mapL (f : Nat → Int) (n : Nat) : List Int := (List.range n).map f
def lowL (a b : List Int) : List Int := mapL (fun i => min (gt a i) (gt b i)) a.length
def highL (a b : List Int) : List Int := mapL (fun i => max (gt a i) (gt b i)) a.length
def midL (a b c : List Int) : List Int := mapL (fun i => midI (gt a i) (gt b i) (gt c i)) a.length
/-! ### the wind -/
def windyAt (w : Wind) (l : List Station) (s : List Int) (i k : Nat) : Prop :=
  (withinR w (gt l i) (gt l k)).2 = 0 ∧ i < s.length ∧ k < s.length ∧ gt s i - gt s k ≤ (withinR w (gt l i) (gt l k)).1
instance (w : Wind) (l : List Station) (s : List Int) (i k : Nat) : Decidable (windyAt w l s i k) := by unfold windyAt; exact inferInstance
def smallL (s : List Int) : Prop := ∀ i, i < s.length → -1000000 ≤ gt s i ∧ gt s i ≤ 1000000
instance (s : List Int) : Decidable (smallL s) := by unfold smallL; exact inferInstance
def windyP (w : Wind) (l : List Station) (s : List Int) : Prop := smallL s ∧ (∀ i, i < l.length → ∀ k, k < l.length → windyAt w l s i k) ∧ s.length = l.length
instance (w : Wind) (l : List Station) (s : List Int) : Decidable (windyP w l s) := by unfold windyP; exact inferInstance
/-! ### heights, sea levels -/
def heightR (s : Station) (week : Int) : Span × Int := if oneE s ≠ 0 then (⟨0, 0⟩, oneE s) else if 0 ≤ week ∧ week ≤ 10000 then (heightS s week, 0) else (⟨0, 0⟩, 1)
theorem aloneE_one (s : Station) : aloneE [s] = oneE s := by
  unfold aloneE; split
  · rfl
  · rename_i h; unfold aloneE; exact (Decidable.of_not_not h).symm
def seaIn (l : List Station) (week : Int) (levels s : List Int) (i : Nat) : Prop :=
  (heightR (gt l i) week).2 = 0 ∧ (seasR (gt levels i) (heightR (gt l i) week).1).2 = 0 ∧ (seasR (gt levels i) (heightR (gt l i) week).1).1.Lo ≤ gt s i ∧ gt s i ≤ (seasR (gt levels i) (heightR (gt l i) week).1).1.Hi
instance (l : List Station) (week : Int) (levels s : List Int) (i : Nat) : Decidable (seaIn l week levels s i) := by unfold seaIn; exact inferInstance
def isSeaP (w : Wind) (l : List Station) (week : Int) (levels s : List Int) : Prop :=
  (s.length = l.length ∧ levels.length = l.length) ∧ windyP w l s ∧ ∀ i, i < l.length → seaIn l week levels s i
instance (w : Wind) (l : List Station) (week : Int) (levels s : List Int) : Decidable (isSeaP w l week levels s) := by unfold isSeaP; exact inferInstance

/-- what is between each two of three lists -/
structure Mid (f : Int → Int → Int → Int) : Prop where
  ge : ∀ lo a b c : Int, lo ≤ a → lo ≤ b → lo ≤ c → lo ≤ f a b c
  le : ∀ hi a b c : Int, a ≤ hi → b ≤ hi → c ≤ hi → f a b c ≤ hi
  df : ∀ n a b c a' b' c' : Int, a - a' ≤ n → b - b' ≤ n → c - c' ≤ n → f a b c - f a' b' c' ≤ n
/-! ### levels that can be at one time -/
/-- sea levels that keep the tight bounds -/
structure Fit (lo hi : Nat → Int) (t : Nat → Nat → Int) (n : Nat) (s : Nat → Int) : Prop where
  lo : ∀ i, i < n → lo i ≤ s i
  hi : ∀ i, i < n → s i ≤ hi i
  df : ∀ i k, i < n → k < n → s i - s k ≤ t i k
theorem Fit.least {lo hi : Nat → Int} {t : Nat → Nat → Int} {n : Nat} {s : Nat → Int} (h : Fit lo hi t n s) {i : Nat} (hi' : i < n) : xF lo t n i ≤ s i :=
  xF_le (h.lo i hi') fun k hk => by have h1 := h.lo k hk; have h2 := h.df k i hk hi'; omega
def hiS (l : List Station) (week : Int) (list : List Int) (k : Nat) : Int := (gt (seasL l week list) k).Hi
section
variable {w : Wind} {l : List Station} {week : Int} {a b c : List Int} (ha : (keepsR w l week a).1 = true) (hb : (keepsR w l week b).1 = true)
include ha hb
end
section
variable {w : Wind} {l : List Station} {week : Int} {levels a b c : List Int} (ha : isSeaP w l week levels a) (hb : isSeaP w l week levels b)
include ha hb
end
end Go.Proofs.S5
