/-
  No cell of these rows narrows 'for every input' (looked for: loops, veiled, ifaces, maps, wideKeys, modest, calm, conditions, laid).
  DERIVED. THE GIVEN ROWS OF THIS SEAT. 14 by the template 'for every input the law returns true; each argument reads behind the call as it read before'; 0 by the template 'total and deterministic' (their statements: YtcpecjgppbiplaaTotals.lean).
  GIVEN WITH THE SEED: the statements are not yours to turn. If you find one false, say at which input.
  Laid BY PROGRAM, IN A SANDBOX (cutbox-rows.mjs): the forced cells as the released guide's own fill.sh prints them over the translation a6b253a239b66803… (all of the seat's roots in one cut). By AI agents, Wed Nov 11 2026. No macro, syntax, notation, axiom, sorry.
-/
import Derived.Test.YtcpecjgppbiplaaChecked
import GoSem.Claim
import GoSem.ClaimJoined
import GoSem.ClaimMapViews
import Derived.JoinedTies
import Derived.KernelRfl
namespace Go.Proofs.Ytcpecjgppbiplaa
/- THE CELL 'sum', in the pinned program and in every row, IS THE sha256 OF THE DUMP (.gsa) THAT YtcpecjgppbiplaaProg.lean LOADS. Nothing in Lean hashes anything: it is a label: what it is worth is what the hold of that sum in a sandbox is worth. -/
noncomputable def Try.pinned : Pinned := { name := "ytcpecjgppbiplaa", sum := "a6b253a239b66803b4f819259c63b94d639aed7f47a857b1ff02acc228117a4f", checked := Try.checked }
namespace Rows
def none {H : Type} : Left H := { results := [], args := [] }

/-- 'aneroidlaw05.StationsTight': WHATEVER THE INPUT: true; the input reads as it did. -/
def stationsTightSpec : ChangeSpec := { name := "stationsTight", fn := fun _ => fun
  | [d1, d2, d3, d4] => { results := [.lit (.bool true)], args := [d1, d2, d3, d4] }
  | _ => none }
def stationsTightRow : OpenClaim := { program := "ytcpecjgppbiplaa", sum := "a6b253a239b66803b4f819259c63b94d639aed7f47a857b1ff02acc228117a4f", func := "aneroid/aneroidlaw05.StationsTight", spec := "stationsTight", unfollowed := true, recurses := true, apart := false }
def StationsTightSaid : Prop := stationsTightRow.holds Try.pinned (OpenSpec.ofChange stationsTightSpec)

/-- ITS FALSE NEIGHBOUR: 'it returns false'. Refute it at one input. -/
def stationsTightWrong : ChangeSpec := { name := "stationsTight", fn := fun _ => fun
  | [d1, d2, d3, d4] => { results := [.lit (.bool false)], args := [d1, d2, d3, d4] }
  | _ => none }
def StationsTightWrongFalsely : Prop := stationsTightRow.holds Try.pinned (OpenSpec.ofChange stationsTightWrong)

/-- 'aneroidlaw05.StationsKeeps': WHATEVER THE INPUT: true; the input reads as it did. -/
def stationsKeepsSpec : ChangeSpec := { name := "stationsKeeps", fn := fun _ => fun
  | [d1, d2, d3, d4] => { results := [.lit (.bool true)], args := [d1, d2, d3, d4] }
  | _ => none }
def stationsKeepsRow : OpenClaim := { program := "ytcpecjgppbiplaa", sum := "a6b253a239b66803b4f819259c63b94d639aed7f47a857b1ff02acc228117a4f", func := "aneroid/aneroidlaw05.StationsKeeps", spec := "stationsKeeps", unfollowed := true, recurses := true, apart := false }
def StationsKeepsSaid : Prop := stationsKeepsRow.holds Try.pinned (OpenSpec.ofChange stationsKeepsSpec)

/-- ITS FALSE NEIGHBOUR: 'it returns false'. Refute it at one input. -/
def stationsKeepsWrong : ChangeSpec := { name := "stationsKeeps", fn := fun _ => fun
  | [d1, d2, d3, d4] => { results := [.lit (.bool false)], args := [d1, d2, d3, d4] }
  | _ => none }
def StationsKeepsWrongFalsely : Prop := stationsKeepsRow.holds Try.pinned (OpenSpec.ofChange stationsKeepsWrong)

/-- 'aneroidlaw05.StationsMixed': WHATEVER THE INPUT: true; the input reads as it did. -/
def stationsMixedSpec : ChangeSpec := { name := "stationsMixed", fn := fun _ => fun
  | [d1, d2, d3, d4, d5, d6] => { results := [.lit (.bool true)], args := [d1, d2, d3, d4, d5, d6] }
  | _ => none }
def stationsMixedRow : OpenClaim := { program := "ytcpecjgppbiplaa", sum := "a6b253a239b66803b4f819259c63b94d639aed7f47a857b1ff02acc228117a4f", func := "aneroid/aneroidlaw05.StationsMixed", spec := "stationsMixed", unfollowed := true, recurses := true, apart := false }
def StationsMixedSaid : Prop := stationsMixedRow.holds Try.pinned (OpenSpec.ofChange stationsMixedSpec)

/-- ITS FALSE NEIGHBOUR: 'it returns false'. Refute it at one input. -/
def stationsMixedWrong : ChangeSpec := { name := "stationsMixed", fn := fun _ => fun
  | [d1, d2, d3, d4, d5, d6] => { results := [.lit (.bool false)], args := [d1, d2, d3, d4, d5, d6] }
  | _ => none }
def StationsMixedWrongFalsely : Prop := stationsMixedRow.holds Try.pinned (OpenSpec.ofChange stationsMixedWrong)

/-- 'aneroidlaw05.StationsExact': WHATEVER THE INPUT: true; the input reads as it did. -/
def stationsExactSpec : ChangeSpec := { name := "stationsExact", fn := fun _ => fun
  | [d1, d2, d3] => { results := [.lit (.bool true)], args := [d1, d2, d3] }
  | _ => none }
def stationsExactRow : OpenClaim := { program := "ytcpecjgppbiplaa", sum := "a6b253a239b66803b4f819259c63b94d639aed7f47a857b1ff02acc228117a4f", func := "aneroid/aneroidlaw05.StationsExact", spec := "stationsExact", unfollowed := true, recurses := true, apart := false }
def StationsExactSaid : Prop := stationsExactRow.holds Try.pinned (OpenSpec.ofChange stationsExactSpec)

/-- ITS FALSE NEIGHBOUR: 'it returns false'. Refute it at one input. -/
def stationsExactWrong : ChangeSpec := { name := "stationsExact", fn := fun _ => fun
  | [d1, d2, d3] => { results := [.lit (.bool false)], args := [d1, d2, d3] }
  | _ => none }
def StationsExactWrongFalsely : Prop := stationsExactRow.holds Try.pinned (OpenSpec.ofChange stationsExactWrong)

/-- 'aneroidlaw05.StationsWays': WHATEVER THE INPUT: true; the input reads as it did. -/
def stationsWaysSpec : ChangeSpec := { name := "stationsWays", fn := fun _ => fun
  | [d1, d2, d3, d4, d5] => { results := [.lit (.bool true)], args := [d1, d2, d3, d4, d5] }
  | _ => none }
def stationsWaysRow : OpenClaim := { program := "ytcpecjgppbiplaa", sum := "a6b253a239b66803b4f819259c63b94d639aed7f47a857b1ff02acc228117a4f", func := "aneroid/aneroidlaw05.StationsWays", spec := "stationsWays", unfollowed := true, recurses := true, apart := false }
def StationsWaysSaid : Prop := stationsWaysRow.holds Try.pinned (OpenSpec.ofChange stationsWaysSpec)

/-- ITS FALSE NEIGHBOUR: 'it returns false'. Refute it at one input. -/
def stationsWaysWrong : ChangeSpec := { name := "stationsWays", fn := fun _ => fun
  | [d1, d2, d3, d4, d5] => { results := [.lit (.bool false)], args := [d1, d2, d3, d4, d5] }
  | _ => none }
def StationsWaysWrongFalsely : Prop := stationsWaysRow.holds Try.pinned (OpenSpec.ofChange stationsWaysWrong)

/-- 'aneroidlaw05.StationsSea': WHATEVER THE INPUT: true; the input reads as it did. -/
def stationsSeaSpec : ChangeSpec := { name := "stationsSea", fn := fun _ => fun
  | [d1, d2, d3, d4] => { results := [.lit (.bool true)], args := [d1, d2, d3, d4] }
  | _ => none }
def stationsSeaRow : OpenClaim := { program := "ytcpecjgppbiplaa", sum := "a6b253a239b66803b4f819259c63b94d639aed7f47a857b1ff02acc228117a4f", func := "aneroid/aneroidlaw05.StationsSea", spec := "stationsSea", unfollowed := true, recurses := true, apart := false }
def StationsSeaSaid : Prop := stationsSeaRow.holds Try.pinned (OpenSpec.ofChange stationsSeaSpec)

/-- ITS FALSE NEIGHBOUR: 'it returns false'. Refute it at one input. -/
def stationsSeaWrong : ChangeSpec := { name := "stationsSea", fn := fun _ => fun
  | [d1, d2, d3, d4] => { results := [.lit (.bool false)], args := [d1, d2, d3, d4] }
  | _ => none }
def StationsSeaWrongFalsely : Prop := stationsSeaRow.holds Try.pinned (OpenSpec.ofChange stationsSeaWrong)

/-- 'aneroidlaw05.StationsReduced': WHATEVER THE INPUT: true; the input reads as it did. -/
def stationsReducedSpec : ChangeSpec := { name := "stationsReduced", fn := fun _ => fun
  | [d1, d2, d3, d4] => { results := [.lit (.bool true)], args := [d1, d2, d3, d4] }
  | _ => none }
def stationsReducedRow : OpenClaim := { program := "ytcpecjgppbiplaa", sum := "a6b253a239b66803b4f819259c63b94d639aed7f47a857b1ff02acc228117a4f", func := "aneroid/aneroidlaw05.StationsReduced", spec := "stationsReduced", unfollowed := true, recurses := true, apart := false }
def StationsReducedSaid : Prop := stationsReducedRow.holds Try.pinned (OpenSpec.ofChange stationsReducedSpec)

/-- ITS FALSE NEIGHBOUR: 'it returns false'. Refute it at one input. -/
def stationsReducedWrong : ChangeSpec := { name := "stationsReduced", fn := fun _ => fun
  | [d1, d2, d3, d4] => { results := [.lit (.bool false)], args := [d1, d2, d3, d4] }
  | _ => none }
def StationsReducedWrongFalsely : Prop := stationsReducedRow.holds Try.pinned (OpenSpec.ofChange stationsReducedWrong)

/-- 'aneroidlaw05.StationsBounds': WHATEVER THE INPUT: true; the input reads as it did. -/
def stationsBoundsSpec : ChangeSpec := { name := "stationsBounds", fn := fun _ => fun
  | [d1, d2, d3, d4] => { results := [.lit (.bool true)], args := [d1, d2, d3, d4] }
  | _ => none }
def stationsBoundsRow : OpenClaim := { program := "ytcpecjgppbiplaa", sum := "a6b253a239b66803b4f819259c63b94d639aed7f47a857b1ff02acc228117a4f", func := "aneroid/aneroidlaw05.StationsBounds", spec := "stationsBounds", unfollowed := true, recurses := true, apart := false }
def StationsBoundsSaid : Prop := stationsBoundsRow.holds Try.pinned (OpenSpec.ofChange stationsBoundsSpec)

/-- ITS FALSE NEIGHBOUR: 'it returns false'. Refute it at one input. -/
def stationsBoundsWrong : ChangeSpec := { name := "stationsBounds", fn := fun _ => fun
  | [d1, d2, d3, d4] => { results := [.lit (.bool false)], args := [d1, d2, d3, d4] }
  | _ => none }
def StationsBoundsWrongFalsely : Prop := stationsBoundsRow.holds Try.pinned (OpenSpec.ofChange stationsBoundsWrong)

/-- 'aneroidlaw05.StationsTriangle': WHATEVER THE INPUT: true; the input reads as it did. -/
def stationsTriangleSpec : ChangeSpec := { name := "stationsTriangle", fn := fun _ => fun
  | [d1, d2, d3, d4] => { results := [.lit (.bool true)], args := [d1, d2, d3, d4] }
  | _ => none }
def stationsTriangleRow : OpenClaim := { program := "ytcpecjgppbiplaa", sum := "a6b253a239b66803b4f819259c63b94d639aed7f47a857b1ff02acc228117a4f", func := "aneroid/aneroidlaw05.StationsTriangle", spec := "stationsTriangle", unfollowed := true, recurses := true, apart := false }
def StationsTriangleSaid : Prop := stationsTriangleRow.holds Try.pinned (OpenSpec.ofChange stationsTriangleSpec)

/-- ITS FALSE NEIGHBOUR: 'it returns false'. Refute it at one input. -/
def stationsTriangleWrong : ChangeSpec := { name := "stationsTriangle", fn := fun _ => fun
  | [d1, d2, d3, d4] => { results := [.lit (.bool false)], args := [d1, d2, d3, d4] }
  | _ => none }
def StationsTriangleWrongFalsely : Prop := stationsTriangleRow.holds Try.pinned (OpenSpec.ofChange stationsTriangleWrong)

/-- 'aneroidlaw05.StationsMore': WHATEVER THE INPUT: true; the input reads as it did. -/
def stationsMoreSpec : ChangeSpec := { name := "stationsMore", fn := fun _ => fun
  | [d1, d2, d3, d4, d5, d6, d7] => { results := [.lit (.bool true)], args := [d1, d2, d3, d4, d5, d6, d7] }
  | _ => none }
def stationsMoreRow : OpenClaim := { program := "ytcpecjgppbiplaa", sum := "a6b253a239b66803b4f819259c63b94d639aed7f47a857b1ff02acc228117a4f", func := "aneroid/aneroidlaw05.StationsMore", spec := "stationsMore", unfollowed := true, recurses := true, apart := false }
def StationsMoreSaid : Prop := stationsMoreRow.holds Try.pinned (OpenSpec.ofChange stationsMoreSpec)

/-- ITS FALSE NEIGHBOUR: 'it returns false'. Refute it at one input. -/
def stationsMoreWrong : ChangeSpec := { name := "stationsMore", fn := fun _ => fun
  | [d1, d2, d3, d4, d5, d6, d7] => { results := [.lit (.bool false)], args := [d1, d2, d3, d4, d5, d6, d7] }
  | _ => none }
def StationsMoreWrongFalsely : Prop := stationsMoreRow.holds Try.pinned (OpenSpec.ofChange stationsMoreWrong)

/-- 'aneroidlaw05.StationsLattice': WHATEVER THE INPUT: true; the input reads as it did. -/
def stationsLatticeSpec : ChangeSpec := { name := "stationsLattice", fn := fun _ => fun
  | [d1, d2, d3, d4, d5, d6, d7] => { results := [.lit (.bool true)], args := [d1, d2, d3, d4, d5, d6, d7] }
  | _ => none }
def stationsLatticeRow : OpenClaim := { program := "ytcpecjgppbiplaa", sum := "a6b253a239b66803b4f819259c63b94d639aed7f47a857b1ff02acc228117a4f", func := "aneroid/aneroidlaw05.StationsLattice", spec := "stationsLattice", unfollowed := true, recurses := true, apart := false }
def StationsLatticeSaid : Prop := stationsLatticeRow.holds Try.pinned (OpenSpec.ofChange stationsLatticeSpec)

/-- ITS FALSE NEIGHBOUR: 'it returns false'. Refute it at one input. -/
def stationsLatticeWrong : ChangeSpec := { name := "stationsLattice", fn := fun _ => fun
  | [d1, d2, d3, d4, d5, d6, d7] => { results := [.lit (.bool false)], args := [d1, d2, d3, d4, d5, d6, d7] }
  | _ => none }
def StationsLatticeWrongFalsely : Prop := stationsLatticeRow.holds Try.pinned (OpenSpec.ofChange stationsLatticeWrong)

/-- 'aneroidlaw05.StationsPairs': WHATEVER THE INPUT: true; the input reads as it did. -/
def stationsPairsSpec : ChangeSpec := { name := "stationsPairs", fn := fun _ => fun
  | [d1, d2, d3, d4, d5] => { results := [.lit (.bool true)], args := [d1, d2, d3, d4, d5] }
  | _ => none }
def stationsPairsRow : OpenClaim := { program := "ytcpecjgppbiplaa", sum := "a6b253a239b66803b4f819259c63b94d639aed7f47a857b1ff02acc228117a4f", func := "aneroid/aneroidlaw05.StationsPairs", spec := "stationsPairs", unfollowed := true, recurses := true, apart := false }
def StationsPairsSaid : Prop := stationsPairsRow.holds Try.pinned (OpenSpec.ofChange stationsPairsSpec)

/-- ITS FALSE NEIGHBOUR: 'it returns false'. Refute it at one input. -/
def stationsPairsWrong : ChangeSpec := { name := "stationsPairs", fn := fun _ => fun
  | [d1, d2, d3, d4, d5] => { results := [.lit (.bool false)], args := [d1, d2, d3, d4, d5] }
  | _ => none }
def StationsPairsWrongFalsely : Prop := stationsPairsRow.holds Try.pinned (OpenSpec.ofChange stationsPairsWrong)

/-- 'aneroidlaw05.StationsMoved': WHATEVER THE INPUT: true; the input reads as it did. -/
def stationsMovedSpec : ChangeSpec := { name := "stationsMoved", fn := fun _ => fun
  | [d1, d2, d3, d4] => { results := [.lit (.bool true)], args := [d1, d2, d3, d4] }
  | _ => none }
def stationsMovedRow : OpenClaim := { program := "ytcpecjgppbiplaa", sum := "a6b253a239b66803b4f819259c63b94d639aed7f47a857b1ff02acc228117a4f", func := "aneroid/aneroidlaw05.StationsMoved", spec := "stationsMoved", inPlace := ["slices.overlaps[aneroid/api.Height]"], unfollowed := true, recurses := true, apart := false }
def StationsMovedSaid : Prop := stationsMovedRow.holds Try.pinned (OpenSpec.ofChange stationsMovedSpec)

/-- ITS FALSE NEIGHBOUR: 'it returns false'. Refute it at one input. -/
def stationsMovedWrong : ChangeSpec := { name := "stationsMoved", fn := fun _ => fun
  | [d1, d2, d3, d4] => { results := [.lit (.bool false)], args := [d1, d2, d3, d4] }
  | _ => none }
def StationsMovedWrongFalsely : Prop := stationsMovedRow.holds Try.pinned (OpenSpec.ofChange stationsMovedWrong)

/-- 'aneroidlaw05.StationsChecks': WHATEVER THE INPUT: true; the input reads as it did. -/
def stationsChecksSpec : ChangeSpec := { name := "stationsChecks", fn := fun _ => fun
  | [d1, d2, d3, d4, d5] => { results := [.lit (.bool true)], args := [d1, d2, d3, d4, d5] }
  | _ => none }
def stationsChecksRow : OpenClaim := { program := "ytcpecjgppbiplaa", sum := "a6b253a239b66803b4f819259c63b94d639aed7f47a857b1ff02acc228117a4f", func := "aneroid/aneroidlaw05.StationsChecks", spec := "stationsChecks", inPlace := ["slices.overlaps[aneroid/api.Height]"], unfollowed := true, recurses := true, apart := false }
def StationsChecksSaid : Prop := stationsChecksRow.holds Try.pinned (OpenSpec.ofChange stationsChecksSpec)

/-- ITS FALSE NEIGHBOUR: 'it returns false'. Refute it at one input. -/
def stationsChecksWrong : ChangeSpec := { name := "stationsChecks", fn := fun _ => fun
  | [d1, d2, d3, d4, d5] => { results := [.lit (.bool false)], args := [d1, d2, d3, d4, d5] }
  | _ => none }
def StationsChecksWrongFalsely : Prop := stationsChecksRow.holds Try.pinned (OpenSpec.ofChange stationsChecksWrong)

/- THE SECOND FORM. 'bulk': how many values and letters a reading holds, each counted each time it is reached (what is shared counts as often as it is met; a slice's spare places count too). A statement '..UptoSaid' is the law's where the arguments, and the package variables that the reading takes, are together of bulk at most 1048576: NARROWER than '..Said'. Prove '..Said' where nothing that the law and all that it calls make is longer than what came in: it says more and counts as full. Else prove '..UptoSaid'. A law counts once. -/
mutual
def uptoBulk {H : Type} : DataW H → Nat
  | .lit (.string bytes) => bytes.length + 1
  | .lit _ => 1
  | .nil => 1
  | .ptr d => uptoBulk d + 1
  | .slice elems spare => uptoBulkAll elems + uptoBulkAll spare + 1
  | .agg parts => uptoBulkAll parts + 1
  | .iface _ d => uptoBulk d + 1
  | .map entries => uptoBulkEntries entries + 1
  | .held _ => 1
def uptoBulkAll {H : Type} : List (DataW H) → Nat
  | [] => 0
  | d :: r => uptoBulk d + uptoBulkAll r
def uptoBulkEntries {H : Type} : List (Lit × DataW H) → Nat
  | [] => 0
  | x :: r => uptoBulkEntry x + uptoBulkEntries r
def uptoBulkEntry {H : Type} : Lit × DataW H → Nat
  | (.string bytes, d) => bytes.length + uptoBulk d + 1
  | (_, d) => uptoBulk d + 1
 end
def uptoSmall : (H : Type) → List (DataW H) → Bool := fun _ ds => decide (uptoBulkAll ds ≤ 1048576)
def OpenSpec.upto (s : _root_.Go.ChangeSpec) : _root_.Go.OpenSpec := { _root_.Go.OpenSpec.ofChange s with cond := some uptoSmall }

/-- 'aneroidlaw05.StationsTight', WHERE WHAT IT READS IS OF BULK AT MOST 1048576: true; the input reads as it did. -/
def stationsTightUptoRow : OpenClaim := { program := "ytcpecjgppbiplaa", sum := "a6b253a239b66803b4f819259c63b94d639aed7f47a857b1ff02acc228117a4f", func := "aneroid/aneroidlaw05.StationsTight", spec := "stationsTight", unfollowed := true, recurses := true, apart := false, narrowed := true }
def StationsTightUptoSaid : Prop := stationsTightUptoRow.holds Try.pinned (OpenSpec.upto stationsTightSpec)

/-- 'aneroidlaw05.StationsKeeps', WHERE WHAT IT READS IS OF BULK AT MOST 1048576: true; the input reads as it did. -/
def stationsKeepsUptoRow : OpenClaim := { program := "ytcpecjgppbiplaa", sum := "a6b253a239b66803b4f819259c63b94d639aed7f47a857b1ff02acc228117a4f", func := "aneroid/aneroidlaw05.StationsKeeps", spec := "stationsKeeps", unfollowed := true, recurses := true, apart := false, narrowed := true }
def StationsKeepsUptoSaid : Prop := stationsKeepsUptoRow.holds Try.pinned (OpenSpec.upto stationsKeepsSpec)

/-- 'aneroidlaw05.StationsMixed', WHERE WHAT IT READS IS OF BULK AT MOST 1048576: true; the input reads as it did. -/
def stationsMixedUptoRow : OpenClaim := { program := "ytcpecjgppbiplaa", sum := "a6b253a239b66803b4f819259c63b94d639aed7f47a857b1ff02acc228117a4f", func := "aneroid/aneroidlaw05.StationsMixed", spec := "stationsMixed", unfollowed := true, recurses := true, apart := false, narrowed := true }
def StationsMixedUptoSaid : Prop := stationsMixedUptoRow.holds Try.pinned (OpenSpec.upto stationsMixedSpec)

/-- 'aneroidlaw05.StationsExact', WHERE WHAT IT READS IS OF BULK AT MOST 1048576: true; the input reads as it did. -/
def stationsExactUptoRow : OpenClaim := { program := "ytcpecjgppbiplaa", sum := "a6b253a239b66803b4f819259c63b94d639aed7f47a857b1ff02acc228117a4f", func := "aneroid/aneroidlaw05.StationsExact", spec := "stationsExact", unfollowed := true, recurses := true, apart := false, narrowed := true }
def StationsExactUptoSaid : Prop := stationsExactUptoRow.holds Try.pinned (OpenSpec.upto stationsExactSpec)

/-- 'aneroidlaw05.StationsWays', WHERE WHAT IT READS IS OF BULK AT MOST 1048576: true; the input reads as it did. -/
def stationsWaysUptoRow : OpenClaim := { program := "ytcpecjgppbiplaa", sum := "a6b253a239b66803b4f819259c63b94d639aed7f47a857b1ff02acc228117a4f", func := "aneroid/aneroidlaw05.StationsWays", spec := "stationsWays", unfollowed := true, recurses := true, apart := false, narrowed := true }
def StationsWaysUptoSaid : Prop := stationsWaysUptoRow.holds Try.pinned (OpenSpec.upto stationsWaysSpec)

/-- 'aneroidlaw05.StationsSea', WHERE WHAT IT READS IS OF BULK AT MOST 1048576: true; the input reads as it did. -/
def stationsSeaUptoRow : OpenClaim := { program := "ytcpecjgppbiplaa", sum := "a6b253a239b66803b4f819259c63b94d639aed7f47a857b1ff02acc228117a4f", func := "aneroid/aneroidlaw05.StationsSea", spec := "stationsSea", unfollowed := true, recurses := true, apart := false, narrowed := true }
def StationsSeaUptoSaid : Prop := stationsSeaUptoRow.holds Try.pinned (OpenSpec.upto stationsSeaSpec)

/-- 'aneroidlaw05.StationsReduced', WHERE WHAT IT READS IS OF BULK AT MOST 1048576: true; the input reads as it did. -/
def stationsReducedUptoRow : OpenClaim := { program := "ytcpecjgppbiplaa", sum := "a6b253a239b66803b4f819259c63b94d639aed7f47a857b1ff02acc228117a4f", func := "aneroid/aneroidlaw05.StationsReduced", spec := "stationsReduced", unfollowed := true, recurses := true, apart := false, narrowed := true }
def StationsReducedUptoSaid : Prop := stationsReducedUptoRow.holds Try.pinned (OpenSpec.upto stationsReducedSpec)

/-- 'aneroidlaw05.StationsBounds', WHERE WHAT IT READS IS OF BULK AT MOST 1048576: true; the input reads as it did. -/
def stationsBoundsUptoRow : OpenClaim := { program := "ytcpecjgppbiplaa", sum := "a6b253a239b66803b4f819259c63b94d639aed7f47a857b1ff02acc228117a4f", func := "aneroid/aneroidlaw05.StationsBounds", spec := "stationsBounds", unfollowed := true, recurses := true, apart := false, narrowed := true }
def StationsBoundsUptoSaid : Prop := stationsBoundsUptoRow.holds Try.pinned (OpenSpec.upto stationsBoundsSpec)

/-- 'aneroidlaw05.StationsTriangle', WHERE WHAT IT READS IS OF BULK AT MOST 1048576: true; the input reads as it did. -/
def stationsTriangleUptoRow : OpenClaim := { program := "ytcpecjgppbiplaa", sum := "a6b253a239b66803b4f819259c63b94d639aed7f47a857b1ff02acc228117a4f", func := "aneroid/aneroidlaw05.StationsTriangle", spec := "stationsTriangle", unfollowed := true, recurses := true, apart := false, narrowed := true }
def StationsTriangleUptoSaid : Prop := stationsTriangleUptoRow.holds Try.pinned (OpenSpec.upto stationsTriangleSpec)

/-- 'aneroidlaw05.StationsMore', WHERE WHAT IT READS IS OF BULK AT MOST 1048576: true; the input reads as it did. -/
def stationsMoreUptoRow : OpenClaim := { program := "ytcpecjgppbiplaa", sum := "a6b253a239b66803b4f819259c63b94d639aed7f47a857b1ff02acc228117a4f", func := "aneroid/aneroidlaw05.StationsMore", spec := "stationsMore", unfollowed := true, recurses := true, apart := false, narrowed := true }
def StationsMoreUptoSaid : Prop := stationsMoreUptoRow.holds Try.pinned (OpenSpec.upto stationsMoreSpec)

/-- 'aneroidlaw05.StationsLattice', WHERE WHAT IT READS IS OF BULK AT MOST 1048576: true; the input reads as it did. -/
def stationsLatticeUptoRow : OpenClaim := { program := "ytcpecjgppbiplaa", sum := "a6b253a239b66803b4f819259c63b94d639aed7f47a857b1ff02acc228117a4f", func := "aneroid/aneroidlaw05.StationsLattice", spec := "stationsLattice", unfollowed := true, recurses := true, apart := false, narrowed := true }
def StationsLatticeUptoSaid : Prop := stationsLatticeUptoRow.holds Try.pinned (OpenSpec.upto stationsLatticeSpec)

/-- 'aneroidlaw05.StationsPairs', WHERE WHAT IT READS IS OF BULK AT MOST 1048576: true; the input reads as it did. -/
def stationsPairsUptoRow : OpenClaim := { program := "ytcpecjgppbiplaa", sum := "a6b253a239b66803b4f819259c63b94d639aed7f47a857b1ff02acc228117a4f", func := "aneroid/aneroidlaw05.StationsPairs", spec := "stationsPairs", unfollowed := true, recurses := true, apart := false, narrowed := true }
def StationsPairsUptoSaid : Prop := stationsPairsUptoRow.holds Try.pinned (OpenSpec.upto stationsPairsSpec)

/-- 'aneroidlaw05.StationsMoved', WHERE WHAT IT READS IS OF BULK AT MOST 1048576: true; the input reads as it did. -/
def stationsMovedUptoRow : OpenClaim := { program := "ytcpecjgppbiplaa", sum := "a6b253a239b66803b4f819259c63b94d639aed7f47a857b1ff02acc228117a4f", func := "aneroid/aneroidlaw05.StationsMoved", spec := "stationsMoved", inPlace := ["slices.overlaps[aneroid/api.Height]"], unfollowed := true, recurses := true, apart := false, narrowed := true }
def StationsMovedUptoSaid : Prop := stationsMovedUptoRow.holds Try.pinned (OpenSpec.upto stationsMovedSpec)

/-- 'aneroidlaw05.StationsChecks', WHERE WHAT IT READS IS OF BULK AT MOST 1048576: true; the input reads as it did. -/
def stationsChecksUptoRow : OpenClaim := { program := "ytcpecjgppbiplaa", sum := "a6b253a239b66803b4f819259c63b94d639aed7f47a857b1ff02acc228117a4f", func := "aneroid/aneroidlaw05.StationsChecks", spec := "stationsChecks", inPlace := ["slices.overlaps[aneroid/api.Height]"], unfollowed := true, recurses := true, apart := false, narrowed := true }
def StationsChecksUptoSaid : Prop := stationsChecksUptoRow.holds Try.pinned (OpenSpec.upto stationsChecksSpec)

end Rows
end Go.Proofs.Ytcpecjgppbiplaa
