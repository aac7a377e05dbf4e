import Derived.Test.YtednficclnjmjaaRows
import Derived.JoinedOf
import Derived.KernelRfl
/- Century: costly facts of the program, each proved once for all statements. -/
namespace Go.Proofs.Ytednficclnjmjaa
open Go
theorem and_t {a b : Bool} (h : a = true) (k : b = true) : (a && b) = true := by rw [h, k]; rfl
theorem jEnter : Try.checked.prog.mayEnter = true := by kernel_rfl
theorem jLift : (Rows.centuryBreaksRow.lifted == Try.checked.prog.liftsFinal) = true := by kernel_rfl
theorem jMake : (Try.checked.prog.make == some Rows.centuryBreaksRow.make) = true := by kernel_rfl
end Go.Proofs.Ytednficclnjmjaa
