import Derived.Test.YtmnipmbgdbdjeaaC2V13
import Derived.Test.YtmnipmbgdbdjeaaC2Br
import Derived.Test.YtmnipmbgdbdjeaaC2J
import Derived.Test.YtmnipmbgdbdjeaaKxO
import Derived.Test.YtmnipmbgdbdjeaaKxN
import Derived.Test.YtmnipmbgdbdjeaaRows
import Derived.WalkKit
import Derived.ProofKit
import Derived.OpenShut
import Derived.ShutString
import Derived.ChangeOld
import Derived.Below
/- The law ClocksChecks: it returns true for every input; its arguments read as before. No condition beyond what the given row says. -/
namespace Go.Proofs.Ytmnipmbgdbdjeaa
open Go Go.Kx Go.Proofs.C2
set_option linter.unusedVariables false
namespace LClocksChecks
theorem own : ownKnob Try.prog.godebug = none := by kernel_rfl
theorem laidOut : laidOutB Try.prog = true := by kernel_rfl
set_option maxRecDepth 100000 in
theorem lifted (os : Os) (started : os.Started) (H : Type) (enc : TypeId × Value → H) :
    ReturnsInHanded {} Try.checked os 13 .any (Rows.clocksChecksSpec.pre6 enc Try.prog Try.f13 Rows.clocksChecksRow.domain false) (Rows.clocksChecksSpec.post enc Try.prog Try.f13 false true false false) := by
  refine returnsInHanded_of_change_sized (C := Try.checked) own started (by kernel_rfl) Try.func13
    (ChangeSpec.witness6 (enc := enc) (C := Try.checked) false ⟨#[], #[.agg #[.slice none 0 0, .slice none 0 0, .slice none 0 0], .agg #[.int .i64 0, .int .i64 0, .int .i64 0, .slice none 0 0, .slice none 0 0, .slice none 0 0, .int .i64 0, .int .i64 0, .int .i64 0, .int .i64 0, .int .i64 0, .int .i64 0, .int .i64 0, .int .i64 0, .int .i64 0]], []⟩ 8 (by kernel_rfl) (by kernel_rfl) (by kernel_rfl) (by kernel_rfl)) ?_
  intro W base args ds gs before hval0 hW hcnd hwt _
  have hval : ∀ (j : Nat) t v, Try.f13.params[j]? = some t → args[j]? = some v → Value.okWide Try.prog W .any base t v := hval0
  have hW' := hW
  obtain ⟨p, q, hA0, hV, rfl, hfz, hnd⟩ := hW
  have hA : DataW.TrodAll enc Try.prog W 0 (fun _ => true) true Try.f13.params.toList args.toList ds p := hA0
  rw [Try.params13] at hA hval
  obtain ⟨v0, vs0, d0, ds0, p0, q0, hargs, rfl, rfl, h0, r0⟩ := ChangeShapes.trodAll_cons hA
  obtain ⟨v1, vs1, d1, ds1, p1, q1, rfl, rfl, rfl, h1, r1⟩ := ChangeShapes.trodAll_cons r0
  obtain ⟨rfl, rfl, rfl⟩ := ChangeShapes.trodAll_nil r1
  obtain rfl : args = #[v0, v1] := by cases args; simp_all
  obtain ⟨rfl, rfl⟩ := ChangeShapes.trodVars_none hV
  have hwts : (DataW.weightsEach Try.prog [28, 36] [d0, d1]).all (· ≤ reachBytes) = true := hwt
  have lt0 : ∀ x ∈ p0, x.block < W.heap.size := by obtain ⟨m, hm⟩ := h0; exact DataW.trod_lt m _ _ _ hm
  have lt1 : ∀ x ∈ p1, x.block < W.heap.size := by obtain ⟨m, hm⟩ := h1; exact DataW.trod_lt m _ _ _ hm
  have g0 := hval 0 28 v0 rfl rfl
  have k0 := h0
  obtain ⟨c0, x0, rfl, s0, ok0⟩ := arg_st br28 Try.underlying28 g0 h0 (weigh hwts (j := 0) rfl rfl)
  have g1 := hval 1 36 v1 rfl rfl
  have k1 := h1
  obtain ⟨c1, x1, rfl, s1, ok1⟩ := arg_st br36 Try.underlying36 g1 h1 (weigh hwts (j := 1) rfl rfl)
  clear hA0 hval0
  refine (Exact.law (Go.Proofs.C2.law13 (Mem.all W) c0 x0 s0 c1 x1 s1 ok0 ok1)).mono fun e W' ⟨he, bel⟩ => ?_
  subst he
  exact ⟨_, rfl, _, _, _, [], _, [], hW', ChangeShapes.trodAll_mk1 (RowKit.shut_bool Try.underlying4 _), (trodAll_cons_mk (RowKit.Below.trod laidOut (by kernel_rfl) (of_decide_eq_true (by kernel_rfl)) k0 bel lt0) (trodAll_cons_mk (RowKit.Below.trod laidOut (by kernel_rfl) (of_decide_eq_true (by kernel_rfl)) k1 bel lt1) ChangeShapes.trodAll_mk0)), rfl, bel.frame _, fun h => by cases h⟩
theorem j10 : (Rows.clocksChecksRow.inPlace == Try.checked.prog.inPlace 13) = true := by kernel_rfl
theorem j11 : (Rows.clocksChecksRow.unfollowed == Try.checked.prog.unfollowed 13) = true := by kernel_rfl
theorem j12 : (Rows.clocksChecksRow.recurses == Try.checked.prog.recurses 13) = true := by kernel_rfl
theorem j13 : (Rows.clocksChecksRow.named == Try.checked.prog.varsNamed 13) = true := by kernel_rfl
theorem closed : joinedFacts Try.checked.prog 13 Try.f13 Rows.clocksChecksSpec Rows.clocksChecksRow = true := by
  unfold joinedFacts
  repeat' (with_reducible refine and_t ?_ ?_)
  · kernel_rfl
  · exact laidOut
  · kernel_rfl
  · kernel_rfl
  · kernel_rfl
  · kernel_rfl
  · kernel_rfl
  · kernel_rfl
  · kernel_rfl
  · exact j10
  · exact j11
  · exact j12
  · exact j13
  · kernel_rfl
  · kernel_rfl
  · kernel_rfl
  · kernel_rfl
  · kernel_rfl
  · kernel_rfl
  · kernel_rfl
  · kernel_rfl
  · kernel_rfl
  · kernel_rfl
  · kernel_rfl
  · kernel_rfl
  · exact jEnter
  · exact jLift
  · exact jMake
  · kernel_rfl
  · kernel_rfl
  · kernel_rfl
  · kernel_rfl
theorem over : Rows.clocksChecksRow.holds Try.pinned (OpenSpec.ofChange Rows.clocksChecksSpec) :=
  OpenClaim.holds_of_wide 13 Try.f13 rfl rfl rfl rfl rfl rfl rfl ⟨rfl, rfl, rfl, rfl, rfl⟩ rfl rfl rfl rfl rfl (by kernel_rfl) Try.func13 closed
    (of_decide_eq_true (by kernel_rfl)) (by unfold Func.isWrapper; first | (rw [if_pos (by decide +kernel)]; kernel_rfl) | (rw [if_neg (by decide +kernel)]; exact ⟨rfl, rfl⟩))
    (fun os started H enc _ => lifted os started H enc)
end LClocksChecks
theorem clocksChecks_holds : Rows.ClocksChecksSaid := LClocksChecks.over
end Go.Proofs.Ytmnipmbgdbdjeaa
