import Derived.Test.YtmnipmbgdbdjeaaC2Walk3
/- Clocks: answers, case by case. -/
namespace Go.Proofs.C2
open Go Go.Kx
theorem betR_bad {d : Drum} {m : List Mark} {a b : Int} (h : openE d m [a, b] [] ≠ 0) : betR d m a b = (⟨0, 0⟩, openE d m [a, b] []) := by rw [betR, if_pos h]
theorem betR_ok {d : Drum} {m : List Mark} {a b : Int} (h : openE d m [a, b] [] = 0) : betR d m a b = (betS (setC d m) a.toNat b.toNat, 0) := by rw [betR, if_neg (by omega)]
theorem earR_bad {d : Drum} {m : List Mark} (h : openE d m [] [] ≠ 0) : earR d m = ([], openE d m [] []) := by rw [earR, if_pos h]
theorem earR_ok {d : Drum} {m : List Mark} (h : openE d m [] [] = 0) : earR d m = (losL (setC d m).at_, 0) := by rw [earR, if_neg (by omega)]; rfl
theorem latR_bad {d : Drum} {m : List Mark} (h : openE d m [] [] ≠ 0) : latR d m = ([], openE d m [] []) := by rw [latR, if_pos h]
theorem latR_ok {d : Drum} {m : List Mark} (h : openE d m [] [] = 0) : latR d m = (hisL (setC d m).at_, 0) := by rw [latR, if_neg (by omega)]; rfl
theorem runR_bad {d : Drum} {m : List Mark} {t : Int} (h : openE d m [] [t] ≠ 0) : runR d m t = ([], openE d m [] [t]) := by rw [runR, if_pos h]
theorem runR_ok {d : Drum} {m : List Mark} {t : Int} (h : openE d m [] [t] = 0) (ho : okC (withC (setC d m) (0 : Int).toNat t)) : runR d m t = (setL (withC (setC d m) (0 : Int).toNat t), 0) := by
  have ho' : okC (wiC d m 0 t) := ho
  rw [runR, if_neg (by omega), if_pos ho']; rfl
theorem runR_no {d : Drum} {m : List Mark} {t : Int} (h : openE d m [] [t] = 0) (ho : ¬ okC (withC (setC d m) (0 : Int).toNat t)) : runR d m t = ([], 3) := by
  have ho' : ¬ okC (wiC d m 0 t) := ho
  rw [runR, if_neg (by omega), if_neg ho']
theorem atR_bad {d : Drum} {m : List Mark} {t : Int} (h : openE d m [] [t] ≠ 0) : atR d m t = (⟨0, 0⟩, openE d m [] [t]) := by rw [atR, if_pos h]
theorem atR_ok {d : Drum} {m : List Mark} {t : Int} (h : openE d m [] [t] = 0) : atR d m t = (⟨pasS (hisL (setC d m).at_) t, pasS (losL (setC d m).at_) t⟩, 0) := by rw [atR, if_neg (by omega)]; rfl
end Go.Proofs.C2
