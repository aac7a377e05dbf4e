/- Stations: walks, by program: the reference, and Keeps. -/
import Derived.Test.YtcpecjgppbiplaaS5W5
namespace Go.Proofs.S5
open Go Go.Kx

end Go.Proofs.S5
