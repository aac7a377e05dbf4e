/- Stations: the examples of the document, reckoned. -/
import Derived.Test.YtcpecjgppbiplaaS5Sea
namespace Go.Proofs.S5
open Go Go.Kx

def sampleS : List Station := [⟨1, 0, 0, [⟨0, ⟨100, 100⟩⟩]⟩, ⟨2, 3, 4, [⟨0, ⟨0, 0⟩⟩, ⟨50, ⟨80, 160⟩⟩]⟩, ⟨3, 6, 8, [⟨0, ⟨400, 400⟩⟩]⟩]
theorem aw_e : windedE (Wind.mk 0 30) sampleS = 0 := by decide +kernel
theorem aw_tight : tightR (Wind.mk 0 30) sampleS = [[0, 1, 2], [1, 0, 1], [2, 1, 0]] := by decide +kernel
theorem aw_way : wayR (Wind.mk 0 30) sampleS 0 2 = ([0, 1, 2], 0) := by decide +kernel
theorem aw_side : sideR (Wind.mk 0 30) sampleS 50 [10000, 10000, 9642] = ([10125, 10124, 10124], 0) := by decide +kernel
theorem aw_apart : apartR (Wind.mk 0 30) sampleS 0 [10000, 10126, 9640] = ([0, 2], 0) := by decide +kernel
theorem aw_lands : landsR 10126 100 = (⟨10001, 10001⟩, 0) :=
  landsR_yes (k := 10001) (by omega) (by omega) (by omega) (fun i hi => by
    have h1 := seaS_mono (h := 100) (a := (i : Int)) (b := 10001) (by omega) (by omega) (by omega)
    have h2 : seaS 10001 100 = 10126 := by decide
    omega) (by decide)
theorem aw_speed : speedR (gt sampleS 0) (gt sampleS 2) 4 = (⟨5, 2⟩, 0) := by decide +kernel
theorem aw_way1 : (wayR (Wind.mk 0 30) sampleS 0 2).1 = [0, 1, 2] := by rw [aw_way]
theorem aw_way2 : (wayR (Wind.mk 0 30) sampleS 0 2).2 = 0 := by rw [aw_way]
theorem aw_side1 : (sideR (Wind.mk 0 30) sampleS 50 [10000, 10000, 9642]).1 = [10125, 10124, 10124] := by rw [aw_side]
theorem aw_side2 : (sideR (Wind.mk 0 30) sampleS 50 [10000, 10000, 9642]).2 = 0 := by rw [aw_side]
theorem aw_apart1 : (apartR (Wind.mk 0 30) sampleS 0 [10000, 10126, 9640]).1 = [0, 2] := by rw [aw_apart]
theorem aw_apart2 : (apartR (Wind.mk 0 30) sampleS 0 [10000, 10126, 9640]).2 = 0 := by rw [aw_apart]
theorem aw_landsL : (landsR 10126 100).1.Lo = 10001 := by rw [aw_lands]
theorem aw_landsH : (landsR 10126 100).1.Hi = 10001 := by rw [aw_lands]
theorem aw_lands2 : (landsR 10126 100).2 = 0 := by rw [aw_lands]
theorem aw_speedN : (speedR (gt sampleS 0) (gt sampleS 2) 4).1.Num = 5 := by rw [aw_speed]
theorem aw_speedD : (speedR (gt sampleS 0) (gt sampleS 2) 4).1.Den = 2 := by rw [aw_speed]
theorem aw_speed2 : (speedR (gt sampleS 0) (gt sampleS 2) 4).2 = 0 := by rw [aw_speed]
end Go.Proofs.S5
