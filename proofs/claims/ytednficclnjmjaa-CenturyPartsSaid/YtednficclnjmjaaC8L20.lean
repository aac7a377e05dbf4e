import Derived.Test.YtednficclnjmjaaC8V20
import Derived.Test.YtednficclnjmjaaC8Br
import Derived.Test.YtednficclnjmjaaC8J
import Derived.Test.YtednficclnjmjaaKxO
import Derived.Test.YtednficclnjmjaaKxN
import Derived.Test.YtednficclnjmjaaRows
import Derived.WalkKit
import Derived.ProofKit
import Derived.OpenShut
import Derived.ShutString
import Derived.ChangeOld
import Derived.Below
/- The law CenturyParts: it returns true for every input; its arguments read as before. No condition beyond what the given row says. -/
namespace Go.Proofs.Ytednficclnjmjaa
open Go Go.Kx Go.Proofs.C8
set_option linter.unusedVariables false
namespace LCenturyParts
theorem own : ownKnob Try.prog.godebug = none := by kernel_rfl
theorem laidOut : laidOutB Try.prog = true := by kernel_rfl
set_option maxRecDepth 100000 in
theorem lifted (os : Os) (started : os.Started) (H : Type) (enc : TypeId × Value → H) :
    ReturnsInHanded {} Try.checked os 20 .any (Rows.centuryPartsSpec.pre6 enc Try.prog Try.f20 Rows.centuryPartsRow.domain false) (Rows.centuryPartsSpec.post enc Try.prog Try.f20 false true false false) := by
  refine returnsInHanded_of_change_sized (C := Try.checked) own started (by kernel_rfl) Try.func20
    (ChangeSpec.witness6 (enc := enc) (C := Try.checked) false ⟨#[], #[.agg #[.slice none 0 0, .slice none 0 0], .agg #[.slice none 0 0, .slice none 0 0], .agg #[.int .i64 0, .int .i64 0]], []⟩ 8 (by kernel_rfl) (by kernel_rfl) (by kernel_rfl) (by kernel_rfl)) ?_
  intro W base args ds gs before hval0 hW hcnd hwt _
  have hval : ∀ (j : Nat) t v, Try.f20.params[j]? = some t → args[j]? = some v → Value.okWide Try.prog W .any base t v := hval0
  have hW' := hW
  obtain ⟨p, q, hA0, hV, rfl, hfz, hnd⟩ := hW
  have hA : DataW.TrodAll enc Try.prog W 0 (fun _ => true) true Try.f20.params.toList args.toList ds p := hA0
  rw [Try.params20] at hA hval
  obtain ⟨v0, vs0, d0, ds0, p0, q0, hargs, rfl, rfl, h0, r0⟩ := ChangeShapes.trodAll_cons hA
  obtain ⟨v1, vs1, d1, ds1, p1, q1, rfl, rfl, rfl, h1, r1⟩ := ChangeShapes.trodAll_cons r0
  obtain ⟨v2, vs2, d2, ds2, p2, q2, rfl, rfl, rfl, h2, r2⟩ := ChangeShapes.trodAll_cons r1
  obtain ⟨rfl, rfl, rfl⟩ := ChangeShapes.trodAll_nil r2
  obtain rfl : args = #[v0, v1, v2] := by cases args; simp_all
  obtain ⟨rfl, rfl⟩ := ChangeShapes.trodVars_none hV
  have hwts : (DataW.weightsEach Try.prog [25, 25, 33] [d0, d1, d2]).all (· ≤ reachBytes) = true := hwt
  have lt0 : ∀ x ∈ p0, x.block < W.heap.size := by obtain ⟨m, hm⟩ := h0; exact DataW.trod_lt m _ _ _ hm
  have lt1 : ∀ x ∈ p1, x.block < W.heap.size := by obtain ⟨m, hm⟩ := h1; exact DataW.trod_lt m _ _ _ hm
  have lt2 : ∀ x ∈ p2, x.block < W.heap.size := by obtain ⟨m, hm⟩ := h2; exact DataW.trod_lt m _ _ _ hm
  have g0 := hval 0 25 v0 rfl rfl
  have k0 := h0
  obtain ⟨c0, x0, rfl, s0, ok0⟩ := arg_st br25 Try.underlying25 g0 h0 (weigh hwts (j := 0) rfl rfl)
  have g1 := hval 1 25 v1 rfl rfl
  have k1 := h1
  obtain ⟨c1, x1, rfl, s1, ok1⟩ := arg_st br25 Try.underlying25 g1 h1 (weigh hwts (j := 1) rfl rfl)
  have g2 := hval 2 33 v2 rfl rfl
  have k2 := h2
  obtain ⟨c2, x2, rfl, s2, ok2⟩ := arg_st br33 Try.underlying33 g2 h2 (weigh hwts (j := 2) rfl rfl)
  clear hA0 hval0
  refine (Exact.law (Go.Proofs.C8.law20 (Mem.all W) c0 x0 s0 c1 x1 s1 c2 x2 s2 ok0 ok1 ok2)).mono fun e W' ⟨he, bel⟩ => ?_
  subst he
  exact ⟨_, rfl, _, _, _, [], _, [], hW', ChangeShapes.trodAll_mk1 (RowKit.shut_bool Try.underlying4 _), (trodAll_cons_mk (RowKit.Below.trod laidOut (by kernel_rfl) (of_decide_eq_true (by kernel_rfl)) k0 bel lt0) (trodAll_cons_mk (RowKit.Below.trod laidOut (by kernel_rfl) (of_decide_eq_true (by kernel_rfl)) k1 bel lt1) (trodAll_cons_mk (RowKit.Below.trod laidOut (by kernel_rfl) (of_decide_eq_true (by kernel_rfl)) k2 bel lt2) ChangeShapes.trodAll_mk0))), rfl, bel.frame _, fun h => by cases h⟩
theorem j10 : (Rows.centuryPartsRow.inPlace == Try.checked.prog.inPlace 20) = true := by kernel_rfl
theorem j11 : (Rows.centuryPartsRow.unfollowed == Try.checked.prog.unfollowed 20) = true := by kernel_rfl
theorem j12 : (Rows.centuryPartsRow.recurses == Try.checked.prog.recurses 20) = true := by kernel_rfl
theorem j13 : (Rows.centuryPartsRow.named == Try.checked.prog.varsNamed 20) = true := by kernel_rfl
theorem closed : joinedFacts Try.checked.prog 20 Try.f20 Rows.centuryPartsSpec Rows.centuryPartsRow = true := by
  unfold joinedFacts
  repeat' (with_reducible refine and_t ?_ ?_)
  · kernel_rfl
  · exact laidOut
  · kernel_rfl
  · kernel_rfl
  · kernel_rfl
  · kernel_rfl
  · kernel_rfl
  · kernel_rfl
  · kernel_rfl
  · exact j10
  · exact j11
  · exact j12
  · exact j13
  · kernel_rfl
  · kernel_rfl
  · kernel_rfl
  · kernel_rfl
  · kernel_rfl
  · kernel_rfl
  · kernel_rfl
  · kernel_rfl
  · kernel_rfl
  · kernel_rfl
  · kernel_rfl
  · kernel_rfl
  · exact jEnter
  · exact jLift
  · exact jMake
  · kernel_rfl
  · kernel_rfl
  · kernel_rfl
  · kernel_rfl
theorem over : Rows.centuryPartsRow.holds Try.pinned (OpenSpec.ofChange Rows.centuryPartsSpec) :=
  OpenClaim.holds_of_wide 20 Try.f20 rfl rfl rfl rfl rfl rfl rfl ⟨rfl, rfl, rfl, rfl, rfl⟩ rfl rfl rfl rfl rfl (by kernel_rfl) Try.func20 closed
    (of_decide_eq_true (by kernel_rfl)) (by unfold Func.isWrapper; first | (rw [if_pos (by decide +kernel)]; kernel_rfl) | (rw [if_neg (by decide +kernel)]; exact ⟨rfl, rfl⟩))
    (fun os started H enc _ => lifted os started H enc)
end LCenturyParts
theorem centuryParts_holds : Rows.CenturyPartsSaid := LCenturyParts.over
end Go.Proofs.Ytednficclnjmjaa
