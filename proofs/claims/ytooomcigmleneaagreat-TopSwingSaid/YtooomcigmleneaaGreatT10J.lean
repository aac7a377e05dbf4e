import Derived.Test.YtooomcigmleneaaGreatRows
import Derived.JoinedOf
import Derived.KernelRfl
/- Top: costly facts of the program, each proved once for all statements. -/
namespace Go.Proofs.YtooomcigmleneaaGreat
open Go
theorem and_t {a b : Bool} (h : a = true) (k : b = true) : (a && b) = true := by rw [h, k]; rfl
theorem jEnter : Tryz.checked.prog.mayEnter = true := by kernel_rfl
theorem jLift : (Rows.topSwingRow.lifted == Tryz.checked.prog.liftsFinal) = true := by kernel_rfl
theorem jMake : (Tryz.checked.prog.make == some Rows.topSwingRow.make) = true := by kernel_rfl
end Go.Proofs.YtooomcigmleneaaGreat
