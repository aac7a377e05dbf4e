/- Stations: costly facts of the program, each proved once for all statements. -/
import Derived.Test.YtcpecjgppbiplaaRows
import Derived.JoinedOf
import Derived.KernelRfl
namespace Go.Proofs.Ytcpecjgppbiplaa
open Go
theorem and_t {a b : Bool} (h : a = true) (k : b = true) : (a && b) = true := by rw [h, k]; rfl
theorem jEnter : Try.checked.prog.mayEnter = true := by kernel_rfl
theorem jLift : (Rows.stationsMoreRow.lifted == Try.checked.prog.liftsFinal) = true := by kernel_rfl
theorem jMake : (Try.checked.prog.make == some Rows.stationsMoreRow.make) = true := by kernel_rfl
end Go.Proofs.Ytcpecjgppbiplaa
