/-
  No cell of these rows narrows 'for every input' (looked for: loops, veiled, ifaces, maps, wideKeys, modest, calm, conditions, laid).
  DERIVED. THE GIVEN ROWS OF THIS SEAT. 4 by the template 'for every input the law returns true; each argument reads behind the call as it read before'; 0 by the template 'total and deterministic' (their statements: YtooomcigmleneaaGreatTotals.lean).
  GIVEN WITH THE SEED: the statements are not yours to turn. If you find one false, say at which input.
  Laid BY PROGRAM, IN A SANDBOX (cutbox-rows.mjs): the forced cells as the released guide's own fill.sh prints them over the translation 469244de3d41b179… (all of the seat's roots in one cut). By AI agents, Wed Nov 11 2026. No macro, syntax, notation, axiom, sorry.
-/
import Derived.Test.YtooomcigmleneaaGreatChecked
import GoSem.Claim
import GoSem.ClaimJoined
import GoSem.ClaimMapViews
import Derived.JoinedTies
import Derived.KernelRfl
namespace Go.Proofs.YtooomcigmleneaaGreat
/- THE CELL 'sum', in the pinned program and in every row, IS THE sha256 OF THE DUMP (.gsa) THAT YtooomcigmleneaaGreatProg.lean LOADS. Nothing in Lean hashes anything: it is a label: what it is worth is what the hold of that sum in a sandbox is worth. -/
noncomputable def Tryz.pinned : Pinned := { name := "ytooomcigmleneaagreat", sum := "469244de3d41b179e3a2a230349ca2419c9e78c2b80396cb6468a57792eacad9", checked := Tryz.checked }
namespace Rows
def none {H : Type} : Left H := { results := [], args := [] }

/-- 'aneroidtop.TopSwing': WHATEVER THE INPUT: true; the input reads as it did. -/
def topSwingSpec : ChangeSpec := { name := "topSwing", fn := fun _ => fun
  | [d1, d2, d3, d4] => { results := [.lit (.bool true)], args := [d1, d2, d3, d4] }
  | _ => none }
def topSwingRow : OpenClaim := { program := "ytooomcigmleneaagreat", sum := "469244de3d41b179e3a2a230349ca2419c9e78c2b80396cb6468a57792eacad9", func := "aneroid/aneroidtop.TopSwing", spec := "topSwing", unfollowed := true, recurses := true, plainKeys := false, apart := false }
def TopSwingSaid : Prop := topSwingRow.holds Tryz.pinned (OpenSpec.ofChange topSwingSpec)

/-- ITS FALSE NEIGHBOUR: 'it returns false'. Refute it at one input. -/
def topSwingWrong : ChangeSpec := { name := "topSwing", fn := fun _ => fun
  | [d1, d2, d3, d4] => { results := [.lit (.bool false)], args := [d1, d2, d3, d4] }
  | _ => none }
def TopSwingWrongFalsely : Prop := topSwingRow.holds Tryz.pinned (OpenSpec.ofChange topSwingWrong)

/-- 'aneroidtop.TopKeeps': WHATEVER THE INPUT: true; the input reads as it did. -/
def topKeepsSpec : ChangeSpec := { name := "topKeeps", fn := fun _ => fun
  | [d1, d2, d3, d4] => { results := [.lit (.bool true)], args := [d1, d2, d3, d4] }
  | _ => none }
def topKeepsRow : OpenClaim := { program := "ytooomcigmleneaagreat", sum := "469244de3d41b179e3a2a230349ca2419c9e78c2b80396cb6468a57792eacad9", func := "aneroid/aneroidtop.TopKeeps", spec := "topKeeps", inPlace := ["slices.overlaps[aneroid/api.Height]"], unfollowed := true, recurses := true, plainKeys := false, apart := false }
def TopKeepsSaid : Prop := topKeepsRow.holds Tryz.pinned (OpenSpec.ofChange topKeepsSpec)

/-- ITS FALSE NEIGHBOUR: 'it returns false'. Refute it at one input. -/
def topKeepsWrong : ChangeSpec := { name := "topKeeps", fn := fun _ => fun
  | [d1, d2, d3, d4] => { results := [.lit (.bool false)], args := [d1, d2, d3, d4] }
  | _ => none }
def TopKeepsWrongFalsely : Prop := topKeepsRow.holds Tryz.pinned (OpenSpec.ofChange topKeepsWrong)

/-- 'aneroidtop.TopMixing': WHATEVER THE INPUT: true; the input reads as it did. -/
def topMixingSpec : ChangeSpec := { name := "topMixing", fn := fun _ => fun
  | [d1, d2, d3, d4, d5] => { results := [.lit (.bool true)], args := [d1, d2, d3, d4, d5] }
  | _ => none }
def topMixingRow : OpenClaim := { program := "ytooomcigmleneaagreat", sum := "469244de3d41b179e3a2a230349ca2419c9e78c2b80396cb6468a57792eacad9", func := "aneroid/aneroidtop.TopMixing", spec := "topMixing", inPlace := ["slices.overlaps[aneroid/api.Height]"], unfollowed := true, recurses := true, plainKeys := false, apart := false }
def TopMixingSaid : Prop := topMixingRow.holds Tryz.pinned (OpenSpec.ofChange topMixingSpec)

/-- ITS FALSE NEIGHBOUR: 'it returns false'. Refute it at one input. -/
def topMixingWrong : ChangeSpec := { name := "topMixing", fn := fun _ => fun
  | [d1, d2, d3, d4, d5] => { results := [.lit (.bool false)], args := [d1, d2, d3, d4, d5] }
  | _ => none }
def TopMixingWrongFalsely : Prop := topMixingRow.holds Tryz.pinned (OpenSpec.ofChange topMixingWrong)

/-- 'aneroidtop.TopProof': WHATEVER THE INPUT: true; the input reads as it did. -/
def topProofSpec : ChangeSpec := { name := "topProof", fn := fun _ => fun
  | [d1, d2, d3, d4] => { results := [.lit (.bool true)], args := [d1, d2, d3, d4] }
  | _ => none }
def topProofRow : OpenClaim := { program := "ytooomcigmleneaagreat", sum := "469244de3d41b179e3a2a230349ca2419c9e78c2b80396cb6468a57792eacad9", func := "aneroid/aneroidtop.TopProof", spec := "topProof", inPlace := ["slices.overlaps[aneroid/api.Height]"], unfollowed := true, recurses := true, plainKeys := false, apart := false }
def TopProofSaid : Prop := topProofRow.holds Tryz.pinned (OpenSpec.ofChange topProofSpec)

/-- ITS FALSE NEIGHBOUR: 'it returns false'. Refute it at one input. -/
def topProofWrong : ChangeSpec := { name := "topProof", fn := fun _ => fun
  | [d1, d2, d3, d4] => { results := [.lit (.bool false)], args := [d1, d2, d3, d4] }
  | _ => none }
def TopProofWrongFalsely : Prop := topProofRow.holds Tryz.pinned (OpenSpec.ofChange topProofWrong)

/- THE SECOND FORM. 'bulk': how many values and letters a reading holds, each counted each time it is reached (what is shared counts as often as it is met; a slice's spare places count too). A statement '..UptoSaid' is the law's where the arguments, and the package variables that the reading takes, are together of bulk at most 1048576: NARROWER than '..Said'. Prove '..Said' where nothing that the law and all that it calls make is longer than what came in: it says more and counts as full. Else prove '..UptoSaid'. A law counts once. -/
mutual
def uptoBulk {H : Type} : DataW H → Nat
  | .lit (.string bytes) => bytes.length + 1
  | .lit _ => 1
  | .nil => 1
  | .ptr d => uptoBulk d + 1
  | .slice elems spare => uptoBulkAll elems + uptoBulkAll spare + 1
  | .agg parts => uptoBulkAll parts + 1
  | .iface _ d => uptoBulk d + 1
  | .map entries => uptoBulkEntries entries + 1
  | .held _ => 1
def uptoBulkAll {H : Type} : List (DataW H) → Nat
  | [] => 0
  | d :: r => uptoBulk d + uptoBulkAll r
def uptoBulkEntries {H : Type} : List (Lit × DataW H) → Nat
  | [] => 0
  | x :: r => uptoBulkEntry x + uptoBulkEntries r
def uptoBulkEntry {H : Type} : Lit × DataW H → Nat
  | (.string bytes, d) => bytes.length + uptoBulk d + 1
  | (_, d) => uptoBulk d + 1
 end
def uptoSmall : (H : Type) → List (DataW H) → Bool := fun _ ds => decide (uptoBulkAll ds ≤ 1048576)
def OpenSpec.upto (s : _root_.Go.ChangeSpec) : _root_.Go.OpenSpec := { _root_.Go.OpenSpec.ofChange s with cond := some uptoSmall }

/-- 'aneroidtop.TopSwing', WHERE WHAT IT READS IS OF BULK AT MOST 1048576: true; the input reads as it did. -/
def topSwingUptoRow : OpenClaim := { program := "ytooomcigmleneaagreat", sum := "469244de3d41b179e3a2a230349ca2419c9e78c2b80396cb6468a57792eacad9", func := "aneroid/aneroidtop.TopSwing", spec := "topSwing", unfollowed := true, recurses := true, plainKeys := false, apart := false, narrowed := true }
def TopSwingUptoSaid : Prop := topSwingUptoRow.holds Tryz.pinned (OpenSpec.upto topSwingSpec)

/-- 'aneroidtop.TopKeeps', WHERE WHAT IT READS IS OF BULK AT MOST 1048576: true; the input reads as it did. -/
def topKeepsUptoRow : OpenClaim := { program := "ytooomcigmleneaagreat", sum := "469244de3d41b179e3a2a230349ca2419c9e78c2b80396cb6468a57792eacad9", func := "aneroid/aneroidtop.TopKeeps", spec := "topKeeps", inPlace := ["slices.overlaps[aneroid/api.Height]"], unfollowed := true, recurses := true, plainKeys := false, apart := false, narrowed := true }
def TopKeepsUptoSaid : Prop := topKeepsUptoRow.holds Tryz.pinned (OpenSpec.upto topKeepsSpec)

/-- 'aneroidtop.TopMixing', WHERE WHAT IT READS IS OF BULK AT MOST 1048576: true; the input reads as it did. -/
def topMixingUptoRow : OpenClaim := { program := "ytooomcigmleneaagreat", sum := "469244de3d41b179e3a2a230349ca2419c9e78c2b80396cb6468a57792eacad9", func := "aneroid/aneroidtop.TopMixing", spec := "topMixing", inPlace := ["slices.overlaps[aneroid/api.Height]"], unfollowed := true, recurses := true, plainKeys := false, apart := false, narrowed := true }
def TopMixingUptoSaid : Prop := topMixingUptoRow.holds Tryz.pinned (OpenSpec.upto topMixingSpec)

/-- 'aneroidtop.TopProof', WHERE WHAT IT READS IS OF BULK AT MOST 1048576: true; the input reads as it did. -/
def topProofUptoRow : OpenClaim := { program := "ytooomcigmleneaagreat", sum := "469244de3d41b179e3a2a230349ca2419c9e78c2b80396cb6468a57792eacad9", func := "aneroid/aneroidtop.TopProof", spec := "topProof", inPlace := ["slices.overlaps[aneroid/api.Height]"], unfollowed := true, recurses := true, plainKeys := false, apart := false, narrowed := true }
def TopProofUptoSaid : Prop := topProofUptoRow.holds Tryz.pinned (OpenSpec.upto topProofSpec)

end Rows
end Go.Proofs.YtooomcigmleneaaGreat
