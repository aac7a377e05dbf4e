import Derived.Test.YtooomcigmleneaaGreatRows
import Derived.JoinedOf
import Derived.KernelRfl
set_option linter.all false
namespace Go.Proofs.YtooomcigmleneaaGreat
open Go
theorem B6l{a b:Bool}(h:a=true)(k:b=true):(a&&b)=true:=by rw[h,k];rfl
theorem B3O:Tryz.checked.prog.mayEnter=true:=by kernel_rfl
theorem B5R:(Rows.topSwingRow.lifted == Tryz.checked.prog.liftsFinal)=true:=by kernel_rfl
theorem B5H:(Tryz.checked.prog.make == some Rows.topSwingRow.make)=true:=by kernel_rfl
end Go.Proofs.YtooomcigmleneaaGreat
