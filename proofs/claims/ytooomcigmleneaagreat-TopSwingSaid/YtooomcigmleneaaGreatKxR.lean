import Derived.Test.YtooomcigmleneaaGreatKxQ
/- A slice that is not nil. -/
namespace Go.Kx
open Go
variable {P : Program} {B : Base} {m : Mem} {H : List Ent} {σ : Sig} {ty : TypeId}
end Go.Kx
