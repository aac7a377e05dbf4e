import Derived.Test.YtooomcigmleneaaGreatRows
import Derived.JoinedOf
import Derived.KernelRfl
set_option linter.all false
namespace Go.Proofs.YtooomcigmleneaaGreat
open Go
theorem C6R{a b:Bool}(h:a=true)(k:b=true):(a&&b)=true:=by rw[h,k];rfl
theorem C4W:Tryz.checked.prog.mayEnter=true:=by kernel_rfl
theorem C7v:(Rows.topSwingRow.lifted == Tryz.checked.prog.liftsFinal)=true:=by kernel_rfl
theorem C6S:(Tryz.checked.prog.make == some Rows.topSwingRow.make)=true:=by kernel_rfl
end Go.Proofs.YtooomcigmleneaaGreat
