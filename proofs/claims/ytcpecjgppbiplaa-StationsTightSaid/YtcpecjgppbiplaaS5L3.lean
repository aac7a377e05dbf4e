/- The law StationsTight: it returns true for every input; its arguments read as before. No condition beyond what the given row says. -/
import Derived.Test.YtcpecjgppbiplaaS5Law
import Derived.Test.YtcpecjgppbiplaaS5W6
import Derived.Test.YtcpecjgppbiplaaS5Br
import Derived.Test.YtcpecjgppbiplaaKxO
import Derived.Test.YtcpecjgppbiplaaKxN
import Derived.Test.YtcpecjgppbiplaaRows
import Derived.WalkKit
import Derived.ProofKit
import Derived.OpenShut
import Derived.ShutString
import Derived.ChangeOld
import Derived.Below
namespace Go.Proofs.S5
open Go Go.Kx
set_option linter.unusedVariables false

theorem law3 (m : Mem) (cw : List Value) (w : Wind) (hw : Enc.rd m cw w) (vl : Value) (l : List Station) (hl : Sl m vl l) (a : Int) (b : Int)  (ok0 : Rng.ok w) (ok1 : Rng.ok l) (lo2 : -9223372036854775808 ≤ a) (hi2 : a ≤ 9223372036854775807) (lo3 : -9223372036854775808 ≤ b) (hi3 : b ≤ 9223372036854775807) : Exact Try.prog 3 #[.agg cw.toArray, vl, .int .i64 (a), .int .i64 (b)] m (.bool true) := by
  obtain rfl := hw
  have ll := hl.le
  refine Exact.start Try.func3 rfl Try.ntmps3 rfl fun wld => ?_
  refine WC.seq ?_
  refine WC.region ?_
  refine WL.tn (T.boxB rfl rfl) (by decide) fun b1 => ?_
  refine WL.x (X.assign rfl) (by decide) ?_
  refine WL.nil ?_
  refine WK.nThen ?_
  refine WC.seq ?_
  refine WC.region ?_
  refine WL.x (X.call Try.call17 rfl (awake17 _  )) (by decide) ?_
  refine WL.x (X.assign rfl) (by decide) ?_
  refine WL.nil ?_
  refine WK.nThen ?_
  refine WC.seq ?_
  refine WC.seq ?_
  refine WC.region ?_
  refine WL.x (X.move rfl) (by decide) ?_
  refine WL.cond (X.call Try.call18 rfl (few18 _ _ _ hl )) (by decide) (fun h2 => ?_) (fun h2 => ?_)
  · refine WL.x (X.not rfl) (by decide) ?_
    refine WL.nil ?_
    refine WK.nThen ?_
    refine WC.condF rfl ?_
    refine WC.skip ?_
    refine WK.nThen ?_
    refine WC.seq ?_
    refine WC.region ?_
    refine WL.x (X.loadBA (k := 0) Try.isAgg23 Try.sizeOf23 rfl rfl rfl) (by decide) ?_
    refine WL.x (X.move rfl) (by decide) ?_
    refine WL.tm (T.call Try.call19 rfl (tight19 _ _ w rfl _ _ hl )) (by decide) fun m3 r4 hle5 hR6 => ?_
    obtain ⟨v7, rfl, hs8⟩ := hR6
    replace hl := hl.mono hle5
    have hl9 := hs8.le
    refine WL.x (X.move rfl) (by decide) ?_
    refine WL.x (X.extract rfl rfl) (by decide) ?_
    refine WL.x (X.extract rfl rfl) (by decide) ?_
    refine WL.x (X.assign rfl) (by decide) ?_
    refine WL.x (X.assign rfl) (by decide) ?_
    refine WL.nil ?_
    refine WK.nThen ?_
    refine WC.seq ?_
    refine WC.region ?_
    refine WL.x (X.loadBA (k := 0) Try.isAgg23 Try.sizeOf23 rfl rfl rfl) (by decide) ?_
    refine WL.x (X.move rfl) (by decide) ?_
    refine WL.tm (T.call Try.call20 rfl (tight20 _ _ w rfl _ _ hl )) (by decide) fun m10 r11 hle12 hR13 => ?_
    obtain ⟨v14, rfl, hs15⟩ := hR13
    replace hl := hl.mono hle12
    replace hs8 := hs8.mono hle12
    have hl16 := hs15.le
    refine WL.x (X.move rfl) (by decide) ?_
    refine WL.x (X.extract rfl rfl) (by decide) ?_
    refine WL.x (X.extract rfl rfl) (by decide) ?_
    refine WL.x (X.assign rfl) (by decide) ?_
    refine WL.x (X.assign rfl) (by decide) ?_
    refine WL.nil ?_
    refine WK.nThen ?_
    refine WC.seq ?_
    refine WC.region ?_
    refine WL.x (X.loadBA (k := 0) Try.isAgg23 Try.sizeOf23 rfl rfl rfl) (by decide) ?_
    refine WL.x (X.move rfl) (by decide) ?_
    refine WL.x (X.move rfl) (by decide) ?_
    refine WL.x (X.move rfl) (by decide) ?_
    refine WL.tm (T.call Try.call21 rfl (way21 _ _ w rfl _ _ hl _ _ )) (by decide) fun m17 r18 hle19 hR20 => ?_
    obtain ⟨v21, rfl, hs22⟩ := hR20
    replace hl := hl.mono hle19
    replace hs8 := hs8.mono hle19
    replace hs15 := hs15.mono hle19
    have hl23 := hs22.le
    refine WL.x (X.move rfl) (by decide) ?_
    refine WL.x (X.extract rfl rfl) (by decide) ?_
    refine WL.x (X.extract rfl rfl) (by decide) ?_
    refine WL.x (X.assign rfl) (by decide) ?_
    refine WL.x (X.assign rfl) (by decide) ?_
    refine WL.nil ?_
    refine WK.nThen ?_
    refine WC.seq ?_
    refine WC.region ?_
    refine WL.x (X.loadBA (k := 0) Try.isAgg23 Try.sizeOf23 rfl rfl rfl) (by decide) ?_
    refine WL.x (X.move rfl) (by decide) ?_
    refine WL.x (X.move rfl) (by decide) ?_
    refine WL.x (X.move rfl) (by decide) ?_
    refine WL.tm (T.call Try.call22 rfl (way22 _ _ w rfl _ _ hl _ _ )) (by decide) fun m24 r25 hle26 hR27 => ?_
    obtain ⟨v28, rfl, hs29⟩ := hR27
    replace hl := hl.mono hle26
    replace hs8 := hs8.mono hle26
    replace hs15 := hs15.mono hle26
    replace hs22 := hs22.mono hle26
    have hl30 := hs29.le
    refine WL.x (X.move rfl) (by decide) ?_
    refine WL.x (X.extract rfl rfl) (by decide) ?_
    refine WL.x (X.extract rfl rfl) (by decide) ?_
    refine WL.x (X.assign rfl) (by decide) ?_
    refine WL.x (X.assign rfl) (by decide) ?_
    refine WL.nil ?_
    refine WK.nThen ?_
    refine WC.seq ?_
    refine WC.region ?_
    refine WL.x (X.move rfl) (by decide) ?_
    refine WL.x (X.move rfl) (by decide) ?_
    refine WL.yes rfl rfl ?_
    refine WL.x (X.move rfl) (by decide) ?_
    refine WL.yes rfl rfl ?_
    refine WL.x (X.move rfl) (by decide) ?_
    refine WL.yes rfl rfl ?_
    refine WL.x (OpX.t (X.call Try.call23 rfl (sameRows23 _ _ _ hs8 _ _ hs15 )) rfl) (by decide) ?_
    refine WL.x (X.pickT rfl rfl rfl) (by decide) ?_
    refine WL.x (X.move rfl) (by decide) ?_
    refine WL.yes rfl rfl ?_
    refine WL.x (X.move rfl) (by decide) ?_
    refine WL.yes rfl rfl ?_
    refine WL.x (X.move rfl) (by decide) ?_
    refine WL.yes rfl rfl ?_
    refine WL.x (OpX.t (X.eql rfl rfl) rfl) (by decide) ?_
    refine WL.x (X.pickT rfl rfl rfl) (by decide) ?_
    refine WL.x (X.move rfl) (by decide) ?_
    refine WL.yes rfl rfl ?_
    refine WL.x (X.move rfl) (by decide) ?_
    refine WL.yes rfl rfl ?_
    refine WL.x (X.move rfl) (by decide) ?_
    refine WL.yes rfl rfl ?_
    refine WL.x (OpX.t (X.call Try.call24 rfl (sameInts24 _ _ _ hs22 _ _ hs29 )) rfl) (by decide) ?_
    refine WL.x (X.pickT rfl rfl rfl) (by decide) ?_
    refine WL.x (X.move rfl) (by decide) ?_
    refine WL.yes rfl rfl ?_
    refine WL.x (X.move rfl) (by decide) ?_
    refine WL.yes rfl rfl ?_
    refine WL.x (X.move rfl) (by decide) ?_
    refine WL.yes rfl rfl ?_
    refine WL.x (OpX.t (X.eql rfl rfl) rfl) (by decide) ?_
    refine WL.x (X.pickT rfl rfl rfl) (by decide) ?_
    refine WL.x (X.assign rfl) (by decide) ?_
    refine WL.nil ?_
    refine WK.nThen ?_
    refine WC.ret ?_
    refine WK.ret1 rfl rfl (fun w' hw' => Ret.exact hw' ?_)
    first | rfl | (exfalso; omega) | exact (bool_true (by omega)).symm
  · refine WL.x (X.not rfl) (by decide) ?_
    refine WL.nil ?_
    refine WK.nThen ?_
    refine WC.condT rfl ?_
    refine WC.seq ?_
    refine WC.region ?_
    refine WL.x (X.move rfl) (by decide) ?_
    refine WL.x (X.assign rfl) (by decide) ?_
    refine WL.nil ?_
    refine WK.nThen ?_
    refine WC.ret ?_
    refine WK.rThen ?_
    refine WK.ret1 rfl rfl (fun w' hw' => Ret.exact hw' ?_)
    first | rfl | (exfalso; omega) | exact (bool_true (by omega)).symm

end Go.Proofs.S5
namespace Go.Proofs.Ytcpecjgppbiplaa
open Go Go.Kx Go.Proofs.S5
set_option linter.unusedVariables false
namespace LStationsTight
theorem own : ownKnob Try.prog.godebug = none := by kernel_rfl
theorem laidOut : laidOutB Try.prog = true := by kernel_rfl
set_option maxRecDepth 100000 in
theorem lifted (os : Os) (started : os.Started) (H : Type) (enc : TypeId × Value → H) :
    ReturnsInHanded {} Try.checked os 3 .any (Rows.stationsTightSpec.pre6 enc Try.prog Try.f3 Rows.stationsTightRow.domain false) (Rows.stationsTightSpec.post enc Try.prog Try.f3 false true false false) := by
  refine returnsInHanded_of_change_sized (C := Try.checked) own started (by kernel_rfl) Try.func3
    (ChangeSpec.witness6 (enc := enc) (C := Try.checked) false ⟨#[], #[.agg #[.int .i64 0, .int .i64 0], .slice none 0 0, .int .i64 0, .int .i64 0], []⟩ 8 (by kernel_rfl) (by kernel_rfl) (by kernel_rfl) (by kernel_rfl)) ?_
  intro W base args ds gs before hval0 hW hcnd hwt _
  have hval : ∀ (j : Nat) t v, Try.f3.params[j]? = some t → args[j]? = some v → Value.okWide Try.prog W .any base t v := hval0
  have hW' := hW
  obtain ⟨p, q, hA0, hV, rfl, hfz, hnd⟩ := hW
  have hA : DataW.TrodAll enc Try.prog W 0 (fun _ => true) true Try.f3.params.toList args.toList ds p := hA0
  rw [Try.params3] at hA hval
  obtain ⟨v0, vs0, d0, ds0, p0, q0, hargs, rfl, rfl, h0, r0⟩ := ChangeShapes.trodAll_cons hA
  obtain ⟨v1, vs1, d1, ds1, p1, q1, rfl, rfl, rfl, h1, r1⟩ := ChangeShapes.trodAll_cons r0
  obtain ⟨v2, vs2, d2, ds2, p2, q2, rfl, rfl, rfl, h2, r2⟩ := ChangeShapes.trodAll_cons r1
  obtain ⟨v3, vs3, d3, ds3, p3, q3, rfl, rfl, rfl, h3, r3⟩ := ChangeShapes.trodAll_cons r2
  obtain ⟨rfl, rfl, rfl⟩ := ChangeShapes.trodAll_nil r3
  obtain rfl : args = #[v0, v1, v2, v3] := by cases args; simp_all
  obtain ⟨rfl, rfl⟩ := ChangeShapes.trodVars_none hV
  have hwts : (DataW.weightsEach Try.prog [23, 24, 3, 3] [d0, d1, d2, d3]).all (· ≤ reachBytes) = true := hwt
  have lt0 : ∀ x ∈ p0, x.block < W.heap.size := by obtain ⟨m, hm⟩ := h0; exact DataW.trod_lt m _ _ _ hm
  have lt1 : ∀ x ∈ p1, x.block < W.heap.size := by obtain ⟨m, hm⟩ := h1; exact DataW.trod_lt m _ _ _ hm
  have lt2 : ∀ x ∈ p2, x.block < W.heap.size := by obtain ⟨m, hm⟩ := h2; exact DataW.trod_lt m _ _ _ hm
  have lt3 : ∀ x ∈ p3, x.block < W.heap.size := by obtain ⟨m, hm⟩ := h3; exact DataW.trod_lt m _ _ _ hm
  have g0 := hval 0 23 v0 rfl rfl
  have k0 := h0
  obtain ⟨c0, x0, rfl, s0, ok0⟩ := arg_st br23 Try.underlying23 g0 h0 (weigh hwts (j := 0) rfl rfl)
  have g1 := hval 1 24 v1 rfl rfl
  have k1 := h1
  obtain ⟨x1, s1, ok1⟩ := arg_sl br24 Try.underlying24 g1 h1 (weigh hwts (j := 1) rfl rfl)
  have g2 := hval 2 3 v2 rfl rfl
  have k2 := h2
  obtain ⟨x2, rfl, lo2, hi2⟩ := arg_int Try.underlying3 g2 h2
  have g3 := hval 3 3 v3 rfl rfl
  have k3 := h3
  obtain ⟨x3, rfl, lo3, hi3⟩ := arg_int Try.underlying3 g3 h3
  clear hA0 hval0
  refine (Exact.law (Go.Proofs.S5.law3 (Mem.all W) c0 x0 s0 _ x1 s1 x2 x3 ok0 ok1 lo2 hi2 lo3 hi3)).mono fun e W' ⟨he, bel⟩ => ?_
  subst he
  exact ⟨_, rfl, _, _, _, [], _, [], hW', ChangeShapes.trodAll_mk1 (RowKit.shut_bool Try.underlying4 _), (trodAll_cons_mk (RowKit.Below.trod laidOut (by kernel_rfl) (of_decide_eq_true (by kernel_rfl)) k0 bel lt0) (trodAll_cons_mk (RowKit.Below.trod laidOut (by kernel_rfl) (of_decide_eq_true (by kernel_rfl)) k1 bel lt1) (trodAll_cons_mk (RowKit.Below.trod laidOut (by kernel_rfl) (of_decide_eq_true (by kernel_rfl)) k2 bel lt2) (trodAll_cons_mk (RowKit.Below.trod laidOut (by kernel_rfl) (of_decide_eq_true (by kernel_rfl)) k3 bel lt3) ChangeShapes.trodAll_mk0)))), rfl, bel.frame _, fun h => by cases h⟩
theorem over : Rows.stationsTightRow.holds Try.pinned (OpenSpec.ofChange Rows.stationsTightSpec) :=
  OpenClaim.holds_of_wide 3 Try.f3 rfl rfl rfl rfl rfl rfl rfl ⟨rfl, rfl, rfl, rfl, rfl⟩ rfl rfl rfl rfl rfl (by kernel_rfl) Try.func3 (by kernel_rfl)
    (of_decide_eq_true (by kernel_rfl)) (by unfold Func.isWrapper; first | (rw [if_pos (by decide +kernel)]; kernel_rfl) | (rw [if_neg (by decide +kernel)]; exact ⟨rfl, rfl⟩))
    (fun os started H enc _ => lifted os started H enc)
end LStationsTight
theorem stationsTight_holds : Rows.StationsTightSaid := LStationsTight.over
end Go.Proofs.Ytcpecjgppbiplaa
