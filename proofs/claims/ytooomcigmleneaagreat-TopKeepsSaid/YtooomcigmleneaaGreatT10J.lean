import Derived.Test.YtooomcigmleneaaGreatRows
import Derived.JoinedOf
import Derived.KernelRfl
set_option linter.all false
namespace Go.Proofs.YtooomcigmleneaaGreat
open Go
theorem C7D{a b:Bool}(h:a=true)(k:b=true):(a&&b)=true:=by rw[h,k];rfl
theorem C5E:Tryz.checked.prog.mayEnter=true:=by kernel_rfl
theorem C7m:(Rows.topSwingRow.lifted == Tryz.checked.prog.liftsFinal)=true:=by kernel_rfl
theorem C6y:(Tryz.checked.prog.make == some Rows.topSwingRow.make)=true:=by kernel_rfl
end Go.Proofs.YtooomcigmleneaaGreat
