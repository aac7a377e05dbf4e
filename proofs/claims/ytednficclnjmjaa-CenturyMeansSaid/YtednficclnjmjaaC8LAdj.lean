/- Century: adjustments: either way round, upside down, and whoever found them; in plain Lean. -/
import Derived.Test.YtednficclnjmjaaC8LWin
namespace Go.Proofs.C8
open Go Go.Kx

section
variable {s t : Ser} {time : Int}
end
/-! ### whoever has levels and shifts -/
/-- the plain difference and the shifts of a common time -/
def rawD (lv lv' : List Int) (s t : Ser) (n : Nat) : Int := gt lv (gt (comL s t) n).a.toNat - gt lv' (gt (comL s t) n).b.toNat
def offD (sh sh' : List Int) (s t : Ser) (n : Nat) : Int := offN s.Shifts sh (difT s t n) s.Shifts.length - offN t.Shifts sh' (difT s t n) t.Shifts.length
end Go.Proofs.C8
