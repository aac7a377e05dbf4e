/-
  No cell of these rows narrows 'for every input' (looked for: loops, veiled, ifaces, maps, wideKeys, modest, calm, conditions, laid).
  DERIVED. THE GIVEN ROWS OF THIS SEAT. 18 by the template 'for every input the law returns true; each argument reads behind the call as it read before'; 0 by the template 'total and deterministic' (their statements: YtednficclnjmjaaTotals.lean).
  GIVEN WITH THE SEED: the statements are not yours to turn. If you find one false, say at which input.
  Laid BY PROGRAM, IN A SANDBOX (cutbox-rows.mjs): the forced cells as the released guide's own fill.sh prints them over the translation e39b3a2745a3b91c… (all of the seat's roots in one cut). By AI agents, Wed Nov 11 2026. No macro, syntax, notation, axiom, sorry.
-/
import Derived.Test.YtednficclnjmjaaChecked
import GoSem.Claim
import GoSem.ClaimJoined
import GoSem.ClaimMapViews
import Derived.JoinedTies
import Derived.KernelRfl
namespace Go.Proofs.Ytednficclnjmjaa
/- THE CELL 'sum', in the pinned program and in every row, IS THE sha256 OF THE DUMP (.gsa) THAT YtednficclnjmjaaProg.lean LOADS. Nothing in Lean hashes anything: it is a label: what it is worth is what the hold of that sum in a sandbox is worth. -/
noncomputable def Try.pinned : Pinned := { name := "ytednficclnjmjaa", sum := "e39b3a2745a3b91c4fad8803157019b88cb4598e00f015e729e58207518b77f4", checked := Try.checked }
namespace Rows
def none {H : Type} : Left H := { results := [], args := [] }

/-- 'aneroidlaw08.CenturySteps': WHATEVER THE INPUT: true; the input reads as it did. -/
def centuryStepsSpec : ChangeSpec := { name := "centurySteps", fn := fun _ => fun
  | [d1, d2, d3, d4] => { results := [.lit (.bool true)], args := [d1, d2, d3, d4] }
  | _ => none }
def centuryStepsRow : OpenClaim := { program := "ytednficclnjmjaa", sum := "e39b3a2745a3b91c4fad8803157019b88cb4598e00f015e729e58207518b77f4", func := "aneroid/aneroidlaw08.CenturySteps", spec := "centurySteps", unfollowed := true, recurses := true, apart := false }
def CenturyStepsSaid : Prop := centuryStepsRow.holds Try.pinned (OpenSpec.ofChange centuryStepsSpec)

/-- ITS FALSE NEIGHBOUR: 'it returns false'. Refute it at one input. -/
def centuryStepsWrong : ChangeSpec := { name := "centurySteps", fn := fun _ => fun
  | [d1, d2, d3, d4] => { results := [.lit (.bool false)], args := [d1, d2, d3, d4] }
  | _ => none }
def CenturyStepsWrongFalsely : Prop := centuryStepsRow.holds Try.pinned (OpenSpec.ofChange centuryStepsWrong)

/-- 'aneroidlaw08.CenturyMirror': WHATEVER THE INPUT: true; the input reads as it did. -/
def centuryMirrorSpec : ChangeSpec := { name := "centuryMirror", fn := fun _ => fun
  | [d1, d2, d3, d4, d5] => { results := [.lit (.bool true)], args := [d1, d2, d3, d4, d5] }
  | _ => none }
def centuryMirrorRow : OpenClaim := { program := "ytednficclnjmjaa", sum := "e39b3a2745a3b91c4fad8803157019b88cb4598e00f015e729e58207518b77f4", func := "aneroid/aneroidlaw08.CenturyMirror", spec := "centuryMirror", unfollowed := true, recurses := true, apart := false }
def CenturyMirrorSaid : Prop := centuryMirrorRow.holds Try.pinned (OpenSpec.ofChange centuryMirrorSpec)

/-- ITS FALSE NEIGHBOUR: 'it returns false'. Refute it at one input. -/
def centuryMirrorWrong : ChangeSpec := { name := "centuryMirror", fn := fun _ => fun
  | [d1, d2, d3, d4, d5] => { results := [.lit (.bool false)], args := [d1, d2, d3, d4, d5] }
  | _ => none }
def CenturyMirrorWrongFalsely : Prop := centuryMirrorRow.holds Try.pinned (OpenSpec.ofChange centuryMirrorWrong)

/-- 'aneroidlaw08.CenturyExtremes': WHATEVER THE INPUT: true; the input reads as it did. -/
def centuryExtremesSpec : ChangeSpec := { name := "centuryExtremes", fn := fun _ => fun
  | [d1, d2, d3] => { results := [.lit (.bool true)], args := [d1, d2, d3] }
  | _ => none }
def centuryExtremesRow : OpenClaim := { program := "ytednficclnjmjaa", sum := "e39b3a2745a3b91c4fad8803157019b88cb4598e00f015e729e58207518b77f4", func := "aneroid/aneroidlaw08.CenturyExtremes", spec := "centuryExtremes", unfollowed := true, recurses := true, apart := false }
def CenturyExtremesSaid : Prop := centuryExtremesRow.holds Try.pinned (OpenSpec.ofChange centuryExtremesSpec)

/-- ITS FALSE NEIGHBOUR: 'it returns false'. Refute it at one input. -/
def centuryExtremesWrong : ChangeSpec := { name := "centuryExtremes", fn := fun _ => fun
  | [d1, d2, d3] => { results := [.lit (.bool false)], args := [d1, d2, d3] }
  | _ => none }
def CenturyExtremesWrongFalsely : Prop := centuryExtremesRow.holds Try.pinned (OpenSpec.ofChange centuryExtremesWrong)

/-- 'aneroidlaw08.CenturyRanks': WHATEVER THE INPUT: true; the input reads as it did. -/
def centuryRanksSpec : ChangeSpec := { name := "centuryRanks", fn := fun _ => fun
  | [d1, d2, d3] => { results := [.lit (.bool true)], args := [d1, d2, d3] }
  | _ => none }
def centuryRanksRow : OpenClaim := { program := "ytednficclnjmjaa", sum := "e39b3a2745a3b91c4fad8803157019b88cb4598e00f015e729e58207518b77f4", func := "aneroid/aneroidlaw08.CenturyRanks", spec := "centuryRanks", unfollowed := true, recurses := true, apart := false }
def CenturyRanksSaid : Prop := centuryRanksRow.holds Try.pinned (OpenSpec.ofChange centuryRanksSpec)

/-- ITS FALSE NEIGHBOUR: 'it returns false'. Refute it at one input. -/
def centuryRanksWrong : ChangeSpec := { name := "centuryRanks", fn := fun _ => fun
  | [d1, d2, d3] => { results := [.lit (.bool false)], args := [d1, d2, d3] }
  | _ => none }
def CenturyRanksWrongFalsely : Prop := centuryRanksRow.holds Try.pinned (OpenSpec.ofChange centuryRanksWrong)

/-- 'aneroidlaw08.CenturyFalls': WHATEVER THE INPUT: true; the input reads as it did. -/
def centuryFallsSpec : ChangeSpec := { name := "centuryFalls", fn := fun _ => fun
  | [d1, d2] => { results := [.lit (.bool true)], args := [d1, d2] }
  | _ => none }
def centuryFallsRow : OpenClaim := { program := "ytednficclnjmjaa", sum := "e39b3a2745a3b91c4fad8803157019b88cb4598e00f015e729e58207518b77f4", func := "aneroid/aneroidlaw08.CenturyFalls", spec := "centuryFalls", unfollowed := true, recurses := true, apart := false }
def CenturyFallsSaid : Prop := centuryFallsRow.holds Try.pinned (OpenSpec.ofChange centuryFallsSpec)

/-- ITS FALSE NEIGHBOUR: 'it returns false'. Refute it at one input. -/
def centuryFallsWrong : ChangeSpec := { name := "centuryFalls", fn := fun _ => fun
  | [d1, d2] => { results := [.lit (.bool false)], args := [d1, d2] }
  | _ => none }
def CenturyFallsWrongFalsely : Prop := centuryFallsRow.holds Try.pinned (OpenSpec.ofChange centuryFallsWrong)

/-- 'aneroidlaw08.CenturyBreaks': WHATEVER THE INPUT: true; the input reads as it did. -/
def centuryBreaksSpec : ChangeSpec := { name := "centuryBreaks", fn := fun _ => fun
  | [d1, d2, d3, d4, d5] => { results := [.lit (.bool true)], args := [d1, d2, d3, d4, d5] }
  | _ => none }
def centuryBreaksRow : OpenClaim := { program := "ytednficclnjmjaa", sum := "e39b3a2745a3b91c4fad8803157019b88cb4598e00f015e729e58207518b77f4", func := "aneroid/aneroidlaw08.CenturyBreaks", spec := "centuryBreaks", unfollowed := true, recurses := true, apart := false }
def CenturyBreaksSaid : Prop := centuryBreaksRow.holds Try.pinned (OpenSpec.ofChange centuryBreaksSpec)

/-- ITS FALSE NEIGHBOUR: 'it returns false'. Refute it at one input. -/
def centuryBreaksWrong : ChangeSpec := { name := "centuryBreaks", fn := fun _ => fun
  | [d1, d2, d3, d4, d5] => { results := [.lit (.bool false)], args := [d1, d2, d3, d4, d5] }
  | _ => none }
def CenturyBreaksWrongFalsely : Prop := centuryBreaksRow.holds Try.pinned (OpenSpec.ofChange centuryBreaksWrong)

/-- 'aneroidlaw08.CenturyShift': WHATEVER THE INPUT: true; the input reads as it did. -/
def centuryShiftSpec : ChangeSpec := { name := "centuryShift", fn := fun _ => fun
  | [d1, d2, d3, d4, d5, d6] => { results := [.lit (.bool true)], args := [d1, d2, d3, d4, d5, d6] }
  | _ => none }
def centuryShiftRow : OpenClaim := { program := "ytednficclnjmjaa", sum := "e39b3a2745a3b91c4fad8803157019b88cb4598e00f015e729e58207518b77f4", func := "aneroid/aneroidlaw08.CenturyShift", spec := "centuryShift", unfollowed := true, recurses := true, apart := false }
def CenturyShiftSaid : Prop := centuryShiftRow.holds Try.pinned (OpenSpec.ofChange centuryShiftSpec)

/-- ITS FALSE NEIGHBOUR: 'it returns false'. Refute it at one input. -/
def centuryShiftWrong : ChangeSpec := { name := "centuryShift", fn := fun _ => fun
  | [d1, d2, d3, d4, d5, d6] => { results := [.lit (.bool false)], args := [d1, d2, d3, d4, d5, d6] }
  | _ => none }
def CenturyShiftWrongFalsely : Prop := centuryShiftRow.holds Try.pinned (OpenSpec.ofChange centuryShiftWrong)

/-- 'aneroidlaw08.CenturyPossible': WHATEVER THE INPUT: true; the input reads as it did. -/
def centuryPossibleSpec : ChangeSpec := { name := "centuryPossible", fn := fun _ => fun
  | [d1, d2, d3, d4, d5] => { results := [.lit (.bool true)], args := [d1, d2, d3, d4, d5] }
  | _ => none }
def centuryPossibleRow : OpenClaim := { program := "ytednficclnjmjaa", sum := "e39b3a2745a3b91c4fad8803157019b88cb4598e00f015e729e58207518b77f4", func := "aneroid/aneroidlaw08.CenturyPossible", spec := "centuryPossible", unfollowed := true, recurses := true, apart := false }
def CenturyPossibleSaid : Prop := centuryPossibleRow.holds Try.pinned (OpenSpec.ofChange centuryPossibleSpec)

/-- ITS FALSE NEIGHBOUR: 'it returns false'. Refute it at one input. -/
def centuryPossibleWrong : ChangeSpec := { name := "centuryPossible", fn := fun _ => fun
  | [d1, d2, d3, d4, d5] => { results := [.lit (.bool false)], args := [d1, d2, d3, d4, d5] }
  | _ => none }
def CenturyPossibleWrongFalsely : Prop := centuryPossibleRow.holds Try.pinned (OpenSpec.ofChange centuryPossibleWrong)

/-- 'aneroidlaw08.CenturyChecks': WHATEVER THE INPUT: true; the input reads as it did. -/
def centuryChecksSpec : ChangeSpec := { name := "centuryChecks", fn := fun _ => fun
  | [d1, d2] => { results := [.lit (.bool true)], args := [d1, d2] }
  | _ => none }
def centuryChecksRow : OpenClaim := { program := "ytednficclnjmjaa", sum := "e39b3a2745a3b91c4fad8803157019b88cb4598e00f015e729e58207518b77f4", func := "aneroid/aneroidlaw08.CenturyChecks", spec := "centuryChecks", unfollowed := true, recurses := true, apart := false }
def CenturyChecksSaid : Prop := centuryChecksRow.holds Try.pinned (OpenSpec.ofChange centuryChecksSpec)

/-- ITS FALSE NEIGHBOUR: 'it returns false'. Refute it at one input. -/
def centuryChecksWrong : ChangeSpec := { name := "centuryChecks", fn := fun _ => fun
  | [d1, d2] => { results := [.lit (.bool false)], args := [d1, d2] }
  | _ => none }
def CenturyChecksWrongFalsely : Prop := centuryChecksRow.holds Try.pinned (OpenSpec.ofChange centuryChecksWrong)

/-- 'aneroidlaw08.CenturyOrder': WHATEVER THE INPUT: true; the input reads as it did. -/
def centuryOrderSpec : ChangeSpec := { name := "centuryOrder", fn := fun _ => fun
  | [d1, d2, d3, d4, d5, d6] => { results := [.lit (.bool true)], args := [d1, d2, d3, d4, d5, d6] }
  | _ => none }
def centuryOrderRow : OpenClaim := { program := "ytednficclnjmjaa", sum := "e39b3a2745a3b91c4fad8803157019b88cb4598e00f015e729e58207518b77f4", func := "aneroid/aneroidlaw08.CenturyOrder", spec := "centuryOrder", unfollowed := true, recurses := true, apart := false }
def CenturyOrderSaid : Prop := centuryOrderRow.holds Try.pinned (OpenSpec.ofChange centuryOrderSpec)

/-- ITS FALSE NEIGHBOUR: 'it returns false'. Refute it at one input. -/
def centuryOrderWrong : ChangeSpec := { name := "centuryOrder", fn := fun _ => fun
  | [d1, d2, d3, d4, d5, d6] => { results := [.lit (.bool false)], args := [d1, d2, d3, d4, d5, d6] }
  | _ => none }
def CenturyOrderWrongFalsely : Prop := centuryOrderRow.holds Try.pinned (OpenSpec.ofChange centuryOrderWrong)

/-- 'aneroidlaw08.CenturyFewest': WHATEVER THE INPUT: true; the input reads as it did. -/
def centuryFewestSpec : ChangeSpec := { name := "centuryFewest", fn := fun _ => fun
  | [d1, d2, d3] => { results := [.lit (.bool true)], args := [d1, d2, d3] }
  | _ => none }
def centuryFewestRow : OpenClaim := { program := "ytednficclnjmjaa", sum := "e39b3a2745a3b91c4fad8803157019b88cb4598e00f015e729e58207518b77f4", func := "aneroid/aneroidlaw08.CenturyFewest", spec := "centuryFewest", unfollowed := true, recurses := true, apart := false }
def CenturyFewestSaid : Prop := centuryFewestRow.holds Try.pinned (OpenSpec.ofChange centuryFewestSpec)

/-- ITS FALSE NEIGHBOUR: 'it returns false'. Refute it at one input. -/
def centuryFewestWrong : ChangeSpec := { name := "centuryFewest", fn := fun _ => fun
  | [d1, d2, d3] => { results := [.lit (.bool false)], args := [d1, d2, d3] }
  | _ => none }
def CenturyFewestWrongFalsely : Prop := centuryFewestRow.holds Try.pinned (OpenSpec.ofChange centuryFewestWrong)

/-- 'aneroidlaw08.CenturySlopes': WHATEVER THE INPUT: true; the input reads as it did. -/
def centurySlopesSpec : ChangeSpec := { name := "centurySlopes", fn := fun _ => fun
  | [d] => { results := [.lit (.bool true)], args := [d] }
  | _ => none }
def centurySlopesRow : OpenClaim := { program := "ytednficclnjmjaa", sum := "e39b3a2745a3b91c4fad8803157019b88cb4598e00f015e729e58207518b77f4", func := "aneroid/aneroidlaw08.CenturySlopes", spec := "centurySlopes", unfollowed := true, recurses := true, apart := false }
def CenturySlopesSaid : Prop := centurySlopesRow.holds Try.pinned (OpenSpec.ofChange centurySlopesSpec)

/-- ITS FALSE NEIGHBOUR: 'it returns false'. Refute it at one input. -/
def centurySlopesWrong : ChangeSpec := { name := "centurySlopes", fn := fun _ => fun
  | [d] => { results := [.lit (.bool false)], args := [d] }
  | _ => none }
def CenturySlopesWrongFalsely : Prop := centurySlopesRow.holds Try.pinned (OpenSpec.ofChange centurySlopesWrong)

/-- 'aneroidlaw08.CenturyExact': WHATEVER THE INPUT: true; the input reads as it did. -/
def centuryExactSpec : ChangeSpec := { name := "centuryExact", fn := fun _ => fun
  | [d1, d2, d3, d4] => { results := [.lit (.bool true)], args := [d1, d2, d3, d4] }
  | _ => none }
def centuryExactRow : OpenClaim := { program := "ytednficclnjmjaa", sum := "e39b3a2745a3b91c4fad8803157019b88cb4598e00f015e729e58207518b77f4", func := "aneroid/aneroidlaw08.CenturyExact", spec := "centuryExact", unfollowed := true, recurses := true, apart := false }
def CenturyExactSaid : Prop := centuryExactRow.holds Try.pinned (OpenSpec.ofChange centuryExactSpec)

/-- ITS FALSE NEIGHBOUR: 'it returns false'. Refute it at one input. -/
def centuryExactWrong : ChangeSpec := { name := "centuryExact", fn := fun _ => fun
  | [d1, d2, d3, d4] => { results := [.lit (.bool false)], args := [d1, d2, d3, d4] }
  | _ => none }
def CenturyExactWrongFalsely : Prop := centuryExactRow.holds Try.pinned (OpenSpec.ofChange centuryExactWrong)

/-- 'aneroidlaw08.CenturyMeans': WHATEVER THE INPUT: true; the input reads as it did. -/
def centuryMeansSpec : ChangeSpec := { name := "centuryMeans", fn := fun _ => fun
  | [d1, d2, d3, d4] => { results := [.lit (.bool true)], args := [d1, d2, d3, d4] }
  | _ => none }
def centuryMeansRow : OpenClaim := { program := "ytednficclnjmjaa", sum := "e39b3a2745a3b91c4fad8803157019b88cb4598e00f015e729e58207518b77f4", func := "aneroid/aneroidlaw08.CenturyMeans", spec := "centuryMeans", unfollowed := true, recurses := true, apart := false }
def CenturyMeansSaid : Prop := centuryMeansRow.holds Try.pinned (OpenSpec.ofChange centuryMeansSpec)

/-- ITS FALSE NEIGHBOUR: 'it returns false'. Refute it at one input. -/
def centuryMeansWrong : ChangeSpec := { name := "centuryMeans", fn := fun _ => fun
  | [d1, d2, d3, d4] => { results := [.lit (.bool false)], args := [d1, d2, d3, d4] }
  | _ => none }
def CenturyMeansWrongFalsely : Prop := centuryMeansRow.holds Try.pinned (OpenSpec.ofChange centuryMeansWrong)

/-- 'aneroidlaw08.CenturyNarrower': WHATEVER THE INPUT: true; the input reads as it did. -/
def centuryNarrowerSpec : ChangeSpec := { name := "centuryNarrower", fn := fun _ => fun
  | [d1, d2, d3, d4, d5, d6] => { results := [.lit (.bool true)], args := [d1, d2, d3, d4, d5, d6] }
  | _ => none }
def centuryNarrowerRow : OpenClaim := { program := "ytednficclnjmjaa", sum := "e39b3a2745a3b91c4fad8803157019b88cb4598e00f015e729e58207518b77f4", func := "aneroid/aneroidlaw08.CenturyNarrower", spec := "centuryNarrower", unfollowed := true, recurses := true, apart := false }
def CenturyNarrowerSaid : Prop := centuryNarrowerRow.holds Try.pinned (OpenSpec.ofChange centuryNarrowerSpec)

/-- ITS FALSE NEIGHBOUR: 'it returns false'. Refute it at one input. -/
def centuryNarrowerWrong : ChangeSpec := { name := "centuryNarrower", fn := fun _ => fun
  | [d1, d2, d3, d4, d5, d6] => { results := [.lit (.bool false)], args := [d1, d2, d3, d4, d5, d6] }
  | _ => none }
def CenturyNarrowerWrongFalsely : Prop := centuryNarrowerRow.holds Try.pinned (OpenSpec.ofChange centuryNarrowerWrong)

/-- 'aneroidlaw08.CenturyReal': WHATEVER THE INPUT: true; the input reads as it did. -/
def centuryRealSpec : ChangeSpec := { name := "centuryReal", fn := fun _ => fun
  | [d1, d2, d3, d4] => { results := [.lit (.bool true)], args := [d1, d2, d3, d4] }
  | _ => none }
def centuryRealRow : OpenClaim := { program := "ytednficclnjmjaa", sum := "e39b3a2745a3b91c4fad8803157019b88cb4598e00f015e729e58207518b77f4", func := "aneroid/aneroidlaw08.CenturyReal", spec := "centuryReal", unfollowed := true, recurses := true, apart := false }
def CenturyRealSaid : Prop := centuryRealRow.holds Try.pinned (OpenSpec.ofChange centuryRealSpec)

/-- ITS FALSE NEIGHBOUR: 'it returns false'. Refute it at one input. -/
def centuryRealWrong : ChangeSpec := { name := "centuryReal", fn := fun _ => fun
  | [d1, d2, d3, d4] => { results := [.lit (.bool false)], args := [d1, d2, d3, d4] }
  | _ => none }
def CenturyRealWrongFalsely : Prop := centuryRealRow.holds Try.pinned (OpenSpec.ofChange centuryRealWrong)

/-- 'aneroidlaw08.CenturyOthers': WHATEVER THE INPUT: true; the input reads as it did. -/
def centuryOthersSpec : ChangeSpec := { name := "centuryOthers", fn := fun _ => fun
  | [d1, d2, d3, d4] => { results := [.lit (.bool true)], args := [d1, d2, d3, d4] }
  | _ => none }
def centuryOthersRow : OpenClaim := { program := "ytednficclnjmjaa", sum := "e39b3a2745a3b91c4fad8803157019b88cb4598e00f015e729e58207518b77f4", func := "aneroid/aneroidlaw08.CenturyOthers", spec := "centuryOthers", unfollowed := true, recurses := true, apart := false }
def CenturyOthersSaid : Prop := centuryOthersRow.holds Try.pinned (OpenSpec.ofChange centuryOthersSpec)

/-- ITS FALSE NEIGHBOUR: 'it returns false'. Refute it at one input. -/
def centuryOthersWrong : ChangeSpec := { name := "centuryOthers", fn := fun _ => fun
  | [d1, d2, d3, d4] => { results := [.lit (.bool false)], args := [d1, d2, d3, d4] }
  | _ => none }
def CenturyOthersWrongFalsely : Prop := centuryOthersRow.holds Try.pinned (OpenSpec.ofChange centuryOthersWrong)

/-- 'aneroidlaw08.CenturyParts': WHATEVER THE INPUT: true; the input reads as it did. -/
def centuryPartsSpec : ChangeSpec := { name := "centuryParts", fn := fun _ => fun
  | [d1, d2, d3] => { results := [.lit (.bool true)], args := [d1, d2, d3] }
  | _ => none }
def centuryPartsRow : OpenClaim := { program := "ytednficclnjmjaa", sum := "e39b3a2745a3b91c4fad8803157019b88cb4598e00f015e729e58207518b77f4", func := "aneroid/aneroidlaw08.CenturyParts", spec := "centuryParts", unfollowed := true, recurses := true, apart := false }
def CenturyPartsSaid : Prop := centuryPartsRow.holds Try.pinned (OpenSpec.ofChange centuryPartsSpec)

/-- ITS FALSE NEIGHBOUR: 'it returns false'. Refute it at one input. -/
def centuryPartsWrong : ChangeSpec := { name := "centuryParts", fn := fun _ => fun
  | [d1, d2, d3] => { results := [.lit (.bool false)], args := [d1, d2, d3] }
  | _ => none }
def CenturyPartsWrongFalsely : Prop := centuryPartsRow.holds Try.pinned (OpenSpec.ofChange centuryPartsWrong)

/- THE SECOND FORM. 'bulk': how many values and letters a reading holds, each counted each time it is reached (what is shared counts as often as it is met; a slice's spare places count too). A statement '..UptoSaid' is the law's where the arguments, and the package variables that the reading takes, are together of bulk at most 1048576: NARROWER than '..Said'. Prove '..Said' where nothing that the law and all that it calls make is longer than what came in: it says more and counts as full. Else prove '..UptoSaid'. A law counts once. -/
mutual
def uptoBulk {H : Type} : DataW H → Nat
  | .lit (.string bytes) => bytes.length + 1
  | .lit _ => 1
  | .nil => 1
  | .ptr d => uptoBulk d + 1
  | .slice elems spare => uptoBulkAll elems + uptoBulkAll spare + 1
  | .agg parts => uptoBulkAll parts + 1
  | .iface _ d => uptoBulk d + 1
  | .map entries => uptoBulkEntries entries + 1
  | .held _ => 1
def uptoBulkAll {H : Type} : List (DataW H) → Nat
  | [] => 0
  | d :: r => uptoBulk d + uptoBulkAll r
def uptoBulkEntries {H : Type} : List (Lit × DataW H) → Nat
  | [] => 0
  | x :: r => uptoBulkEntry x + uptoBulkEntries r
def uptoBulkEntry {H : Type} : Lit × DataW H → Nat
  | (.string bytes, d) => bytes.length + uptoBulk d + 1
  | (_, d) => uptoBulk d + 1
 end
def uptoSmall : (H : Type) → List (DataW H) → Bool := fun _ ds => decide (uptoBulkAll ds ≤ 1048576)
def OpenSpec.upto (s : _root_.Go.ChangeSpec) : _root_.Go.OpenSpec := { _root_.Go.OpenSpec.ofChange s with cond := some uptoSmall }

/-- 'aneroidlaw08.CenturySteps', WHERE WHAT IT READS IS OF BULK AT MOST 1048576: true; the input reads as it did. -/
def centuryStepsUptoRow : OpenClaim := { program := "ytednficclnjmjaa", sum := "e39b3a2745a3b91c4fad8803157019b88cb4598e00f015e729e58207518b77f4", func := "aneroid/aneroidlaw08.CenturySteps", spec := "centurySteps", unfollowed := true, recurses := true, apart := false, narrowed := true }
def CenturyStepsUptoSaid : Prop := centuryStepsUptoRow.holds Try.pinned (OpenSpec.upto centuryStepsSpec)

/-- 'aneroidlaw08.CenturyMirror', WHERE WHAT IT READS IS OF BULK AT MOST 1048576: true; the input reads as it did. -/
def centuryMirrorUptoRow : OpenClaim := { program := "ytednficclnjmjaa", sum := "e39b3a2745a3b91c4fad8803157019b88cb4598e00f015e729e58207518b77f4", func := "aneroid/aneroidlaw08.CenturyMirror", spec := "centuryMirror", unfollowed := true, recurses := true, apart := false, narrowed := true }
def CenturyMirrorUptoSaid : Prop := centuryMirrorUptoRow.holds Try.pinned (OpenSpec.upto centuryMirrorSpec)

/-- 'aneroidlaw08.CenturyExtremes', WHERE WHAT IT READS IS OF BULK AT MOST 1048576: true; the input reads as it did. -/
def centuryExtremesUptoRow : OpenClaim := { program := "ytednficclnjmjaa", sum := "e39b3a2745a3b91c4fad8803157019b88cb4598e00f015e729e58207518b77f4", func := "aneroid/aneroidlaw08.CenturyExtremes", spec := "centuryExtremes", unfollowed := true, recurses := true, apart := false, narrowed := true }
def CenturyExtremesUptoSaid : Prop := centuryExtremesUptoRow.holds Try.pinned (OpenSpec.upto centuryExtremesSpec)

/-- 'aneroidlaw08.CenturyRanks', WHERE WHAT IT READS IS OF BULK AT MOST 1048576: true; the input reads as it did. -/
def centuryRanksUptoRow : OpenClaim := { program := "ytednficclnjmjaa", sum := "e39b3a2745a3b91c4fad8803157019b88cb4598e00f015e729e58207518b77f4", func := "aneroid/aneroidlaw08.CenturyRanks", spec := "centuryRanks", unfollowed := true, recurses := true, apart := false, narrowed := true }
def CenturyRanksUptoSaid : Prop := centuryRanksUptoRow.holds Try.pinned (OpenSpec.upto centuryRanksSpec)

/-- 'aneroidlaw08.CenturyFalls', WHERE WHAT IT READS IS OF BULK AT MOST 1048576: true; the input reads as it did. -/
def centuryFallsUptoRow : OpenClaim := { program := "ytednficclnjmjaa", sum := "e39b3a2745a3b91c4fad8803157019b88cb4598e00f015e729e58207518b77f4", func := "aneroid/aneroidlaw08.CenturyFalls", spec := "centuryFalls", unfollowed := true, recurses := true, apart := false, narrowed := true }
def CenturyFallsUptoSaid : Prop := centuryFallsUptoRow.holds Try.pinned (OpenSpec.upto centuryFallsSpec)

/-- 'aneroidlaw08.CenturyBreaks', WHERE WHAT IT READS IS OF BULK AT MOST 1048576: true; the input reads as it did. -/
def centuryBreaksUptoRow : OpenClaim := { program := "ytednficclnjmjaa", sum := "e39b3a2745a3b91c4fad8803157019b88cb4598e00f015e729e58207518b77f4", func := "aneroid/aneroidlaw08.CenturyBreaks", spec := "centuryBreaks", unfollowed := true, recurses := true, apart := false, narrowed := true }
def CenturyBreaksUptoSaid : Prop := centuryBreaksUptoRow.holds Try.pinned (OpenSpec.upto centuryBreaksSpec)

/-- 'aneroidlaw08.CenturyShift', WHERE WHAT IT READS IS OF BULK AT MOST 1048576: true; the input reads as it did. -/
def centuryShiftUptoRow : OpenClaim := { program := "ytednficclnjmjaa", sum := "e39b3a2745a3b91c4fad8803157019b88cb4598e00f015e729e58207518b77f4", func := "aneroid/aneroidlaw08.CenturyShift", spec := "centuryShift", unfollowed := true, recurses := true, apart := false, narrowed := true }
def CenturyShiftUptoSaid : Prop := centuryShiftUptoRow.holds Try.pinned (OpenSpec.upto centuryShiftSpec)

/-- 'aneroidlaw08.CenturyPossible', WHERE WHAT IT READS IS OF BULK AT MOST 1048576: true; the input reads as it did. -/
def centuryPossibleUptoRow : OpenClaim := { program := "ytednficclnjmjaa", sum := "e39b3a2745a3b91c4fad8803157019b88cb4598e00f015e729e58207518b77f4", func := "aneroid/aneroidlaw08.CenturyPossible", spec := "centuryPossible", unfollowed := true, recurses := true, apart := false, narrowed := true }
def CenturyPossibleUptoSaid : Prop := centuryPossibleUptoRow.holds Try.pinned (OpenSpec.upto centuryPossibleSpec)

/-- 'aneroidlaw08.CenturyChecks', WHERE WHAT IT READS IS OF BULK AT MOST 1048576: true; the input reads as it did. -/
def centuryChecksUptoRow : OpenClaim := { program := "ytednficclnjmjaa", sum := "e39b3a2745a3b91c4fad8803157019b88cb4598e00f015e729e58207518b77f4", func := "aneroid/aneroidlaw08.CenturyChecks", spec := "centuryChecks", unfollowed := true, recurses := true, apart := false, narrowed := true }
def CenturyChecksUptoSaid : Prop := centuryChecksUptoRow.holds Try.pinned (OpenSpec.upto centuryChecksSpec)

/-- 'aneroidlaw08.CenturyOrder', WHERE WHAT IT READS IS OF BULK AT MOST 1048576: true; the input reads as it did. -/
def centuryOrderUptoRow : OpenClaim := { program := "ytednficclnjmjaa", sum := "e39b3a2745a3b91c4fad8803157019b88cb4598e00f015e729e58207518b77f4", func := "aneroid/aneroidlaw08.CenturyOrder", spec := "centuryOrder", unfollowed := true, recurses := true, apart := false, narrowed := true }
def CenturyOrderUptoSaid : Prop := centuryOrderUptoRow.holds Try.pinned (OpenSpec.upto centuryOrderSpec)

/-- 'aneroidlaw08.CenturyFewest', WHERE WHAT IT READS IS OF BULK AT MOST 1048576: true; the input reads as it did. -/
def centuryFewestUptoRow : OpenClaim := { program := "ytednficclnjmjaa", sum := "e39b3a2745a3b91c4fad8803157019b88cb4598e00f015e729e58207518b77f4", func := "aneroid/aneroidlaw08.CenturyFewest", spec := "centuryFewest", unfollowed := true, recurses := true, apart := false, narrowed := true }
def CenturyFewestUptoSaid : Prop := centuryFewestUptoRow.holds Try.pinned (OpenSpec.upto centuryFewestSpec)

/-- 'aneroidlaw08.CenturySlopes', WHERE WHAT IT READS IS OF BULK AT MOST 1048576: true; the input reads as it did. -/
def centurySlopesUptoRow : OpenClaim := { program := "ytednficclnjmjaa", sum := "e39b3a2745a3b91c4fad8803157019b88cb4598e00f015e729e58207518b77f4", func := "aneroid/aneroidlaw08.CenturySlopes", spec := "centurySlopes", unfollowed := true, recurses := true, apart := false, narrowed := true }
def CenturySlopesUptoSaid : Prop := centurySlopesUptoRow.holds Try.pinned (OpenSpec.upto centurySlopesSpec)

/-- 'aneroidlaw08.CenturyExact', WHERE WHAT IT READS IS OF BULK AT MOST 1048576: true; the input reads as it did. -/
def centuryExactUptoRow : OpenClaim := { program := "ytednficclnjmjaa", sum := "e39b3a2745a3b91c4fad8803157019b88cb4598e00f015e729e58207518b77f4", func := "aneroid/aneroidlaw08.CenturyExact", spec := "centuryExact", unfollowed := true, recurses := true, apart := false, narrowed := true }
def CenturyExactUptoSaid : Prop := centuryExactUptoRow.holds Try.pinned (OpenSpec.upto centuryExactSpec)

/-- 'aneroidlaw08.CenturyMeans', WHERE WHAT IT READS IS OF BULK AT MOST 1048576: true; the input reads as it did. -/
def centuryMeansUptoRow : OpenClaim := { program := "ytednficclnjmjaa", sum := "e39b3a2745a3b91c4fad8803157019b88cb4598e00f015e729e58207518b77f4", func := "aneroid/aneroidlaw08.CenturyMeans", spec := "centuryMeans", unfollowed := true, recurses := true, apart := false, narrowed := true }
def CenturyMeansUptoSaid : Prop := centuryMeansUptoRow.holds Try.pinned (OpenSpec.upto centuryMeansSpec)

/-- 'aneroidlaw08.CenturyNarrower', WHERE WHAT IT READS IS OF BULK AT MOST 1048576: true; the input reads as it did. -/
def centuryNarrowerUptoRow : OpenClaim := { program := "ytednficclnjmjaa", sum := "e39b3a2745a3b91c4fad8803157019b88cb4598e00f015e729e58207518b77f4", func := "aneroid/aneroidlaw08.CenturyNarrower", spec := "centuryNarrower", unfollowed := true, recurses := true, apart := false, narrowed := true }
def CenturyNarrowerUptoSaid : Prop := centuryNarrowerUptoRow.holds Try.pinned (OpenSpec.upto centuryNarrowerSpec)

/-- 'aneroidlaw08.CenturyReal', WHERE WHAT IT READS IS OF BULK AT MOST 1048576: true; the input reads as it did. -/
def centuryRealUptoRow : OpenClaim := { program := "ytednficclnjmjaa", sum := "e39b3a2745a3b91c4fad8803157019b88cb4598e00f015e729e58207518b77f4", func := "aneroid/aneroidlaw08.CenturyReal", spec := "centuryReal", unfollowed := true, recurses := true, apart := false, narrowed := true }
def CenturyRealUptoSaid : Prop := centuryRealUptoRow.holds Try.pinned (OpenSpec.upto centuryRealSpec)

/-- 'aneroidlaw08.CenturyOthers', WHERE WHAT IT READS IS OF BULK AT MOST 1048576: true; the input reads as it did. -/
def centuryOthersUptoRow : OpenClaim := { program := "ytednficclnjmjaa", sum := "e39b3a2745a3b91c4fad8803157019b88cb4598e00f015e729e58207518b77f4", func := "aneroid/aneroidlaw08.CenturyOthers", spec := "centuryOthers", unfollowed := true, recurses := true, apart := false, narrowed := true }
def CenturyOthersUptoSaid : Prop := centuryOthersUptoRow.holds Try.pinned (OpenSpec.upto centuryOthersSpec)

/-- 'aneroidlaw08.CenturyParts', WHERE WHAT IT READS IS OF BULK AT MOST 1048576: true; the input reads as it did. -/
def centuryPartsUptoRow : OpenClaim := { program := "ytednficclnjmjaa", sum := "e39b3a2745a3b91c4fad8803157019b88cb4598e00f015e729e58207518b77f4", func := "aneroid/aneroidlaw08.CenturyParts", spec := "centuryParts", unfollowed := true, recurses := true, apart := false, narrowed := true }
def CenturyPartsUptoSaid : Prop := centuryPartsUptoRow.holds Try.pinned (OpenSpec.upto centuryPartsSpec)

end Rows
end Go.Proofs.Ytednficclnjmjaa
