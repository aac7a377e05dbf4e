import Derived.Test.YtmnipmbgdbdjeaaC2Walk5
/- Clocks: the examples of the document, reckoned. -/
namespace Go.Proofs.C2
open Go Go.Kx
def sampD : Drum := ⟨[⟨2, 3⟩, ⟨2, 3⟩, ⟨1, 4⟩], [⟨1, ⟨0, 5⟩⟩]⟩
def sampM : List Mark := [⟨0, ⟨10, 12⟩⟩, ⟨3, ⟨20, 22⟩⟩]
def badM : List Mark := [⟨0, ⟨10, 12⟩⟩, ⟨3, ⟨20, 22⟩⟩, ⟨2, ⟨10, 13⟩⟩]
theorem aw_ear : earR sampD sampM = ([10, 12, 16, 20], 0) := by decide +kernel
theorem aw_lat : latR sampD sampM = ([12, 15, 21, 22], 0) := by decide +kernel
theorem aw_bet : betR sampD sampM 1 3 = (⟨5, 10⟩, 0) := by decide +kernel
theorem aw_at : atR sampD sampM 16 = (⟨1, 2⟩, 0) := by decide +kernel
theorem aw_run : (runR sampD sampM 12).2 = 0 ∧ (runR sampD sampM 12).1.length = 4 ∧ gt (runR sampD sampM 12).1 2 = ⟨16, 21⟩ := by decide +kernel
theorem aw_drf : drfR sampD sampM 1 3 = (⟨5, 2⟩, ⟨5, 1⟩, 0) := by decide +kernel
theorem aw_prs : prsR sampD badM = ([[0, 2], [1, 2]], 0) := by decide +kernel
theorem aw_drp : drpR sampD badM = ([[2]], 0) := by decide +kernel
theorem aw_ear1 : (earR sampD sampM).1 = [10, 12, 16, 20] := by rw [aw_ear]
theorem aw_ear2 : (earR sampD sampM).2 = 0 := by rw [aw_ear]
theorem aw_lat1 : (latR sampD sampM).1 = [12, 15, 21, 22] := by rw [aw_lat]
theorem aw_lat2 : (latR sampD sampM).2 = 0 := by rw [aw_lat]
theorem aw_bet1 : (betR sampD sampM 1 3).1.Lo = 5 := by rw [aw_bet]
theorem aw_bet2 : (betR sampD sampM 1 3).1.Hi = 10 := by rw [aw_bet]
theorem aw_bet3 : (betR sampD sampM 1 3).2 = 0 := by rw [aw_bet]
theorem aw_at1 : (atR sampD sampM 16).1.Lo = 1 := by rw [aw_at]
theorem aw_at2 : (atR sampD sampM 16).1.Hi = 2 := by rw [aw_at]
theorem aw_at3 : (atR sampD sampM 16).2 = 0 := by rw [aw_at]
theorem aw_run2 : (runR sampD sampM 12).2 = 0 := aw_run.1
theorem aw_run3 : ((runR sampD sampM 12).1.length : Int) = 4 := by rw [aw_run.2.1]; rfl
theorem aw_drf1 : (drfR sampD sampM 1 3).1.Num = 5 := by rw [aw_drf]
theorem aw_drf2 : (drfR sampD sampM 1 3).1.Den = 2 := by rw [aw_drf]
theorem aw_drf3 : (drfR sampD sampM 1 3).2.1.Num = 5 := by rw [aw_drf]
theorem aw_drf4 : (drfR sampD sampM 1 3).2.1.Den = 1 := by rw [aw_drf]
theorem aw_drf5 : (drfR sampD sampM 1 3).2.2 = 0 := by rw [aw_drf]
theorem aw_prs1 : (prsR sampD badM).1 = [[0, 2], [1, 2]] := by rw [aw_prs]
theorem aw_prs2 : (prsR sampD badM).2 = 0 := by rw [aw_prs]
theorem aw_drp1 : (drpR sampD badM).1 = [[2]] := by rw [aw_drp]
theorem aw_drp2 : (drpR sampD badM).2 = 0 := by rw [aw_drp]
/-! ### what the statements ask for -/
def fewC (x : Clk) : Prop := ((x.D.Rates.length ≤ 12 ∨ (200 ≤ x.D.Rates.length ∧ x.D.Rates.length ≤ 400)) ∧ x.D.Stops.length ≤ 40) ∧ (x.M.length ≤ 20 ∨ (64 < x.M.length ∧ x.M.length ≤ 128))
instance (x : Clk) : Decidable (fewC x) := by unfold fewC; exact inferInstance
def lightA (x : Ask) : Prop := (x.One.length ≤ 400 ∧ x.Two.length ≤ 400) ∧ x.Three.length ≤ 400
instance (x : Ask) : Decidable (lightA x) := by unfold lightA; exact inferInstance
def canR (x : Clk) (p : List Mark) : Bool := decide ((feasR x.D (x.M ++ p)).2 = 0) && (feasR x.D (x.M ++ p)).1
def aheadP (a b : List Int) : Prop := a.length = b.length ∧ ∀ i, i < a.length → gt a i ≤ gt b i
instance (a b : List Int) : Decidable (aheadP a b) := by unfold aheadP; exact inferInstance
end Go.Proofs.C2
