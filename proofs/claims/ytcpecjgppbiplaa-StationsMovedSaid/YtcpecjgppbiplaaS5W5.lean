/- Stations: walks, by program: the reference. -/
import Derived.Test.YtcpecjgppbiplaaS5Rel
import Derived.Test.YtcpecjgppbiplaaS5W4
import Derived.Test.YtcpecjgppbiplaaKxO
namespace Go.Proofs.S5
open Go Go.Kx

end Go.Proofs.S5
