/- The law StationsBounds: it returns true for every input; its arguments read as before. No condition beyond what the given row says. -/
import Derived.Test.YtcpecjgppbiplaaS5Law
import Derived.Test.YtcpecjgppbiplaaS5W4
import Derived.Test.YtcpecjgppbiplaaS5Br
import Derived.Test.YtcpecjgppbiplaaKxO
import Derived.Test.YtcpecjgppbiplaaKxN
import Derived.Test.YtcpecjgppbiplaaRows
import Derived.WalkKit
import Derived.ProofKit
import Derived.OpenShut
import Derived.ShutString
import Derived.ChangeOld
import Derived.Below
namespace Go.Proofs.S5
open Go Go.Kx
set_option linter.unusedVariables false

theorem law10 (m : Mem) (cw : List Value) (w : Wind) (hw : Enc.rd m cw w) (ca : List Value) (a : Station) (ha : Enc.rd m ca a) (cb : List Value) (b : Station) (hb : Enc.rd m cb b) (ticks : Int)  (ok0 : Rng.ok w) (ok1 : Rng.ok a) (ok2 : Rng.ok b) (lo3 : -9223372036854775808 ≤ ticks) (hi3 : ticks ≤ 9223372036854775807) : Exact Try.prog 10 #[.agg cw.toArray, .agg ca.toArray, .agg cb.toArray, .int .i64 (ticks)] m (.bool true) := by
  obtain rfl := hw
  obtain ⟨v1, rfl, hs2⟩ := ha
  have hl3 := hs2.le
  obtain ⟨v4, rfl, hs5⟩ := hb
  have hl6 := hs5.le
  refine Exact.start Try.func10 rfl Try.ntmps10 rfl fun wld => ?_
  refine WC.seq ?_
  refine WC.region ?_
  refine WL.tn (T.boxB rfl rfl) (by decide) fun b7 => ?_
  refine WL.tn (T.boxB rfl rfl) (by decide) fun b8 => ?_
  refine WL.tn (T.boxB rfl rfl) (by decide) fun b9 => ?_
  refine WL.x (X.assign rfl) (by decide) ?_
  refine WL.nil ?_
  refine WK.nThen ?_
  refine WC.seq ?_
  refine WC.region ?_
  refine WL.x (X.call Try.call17 rfl (awake17 _  )) (by decide) ?_
  refine WL.x (X.assign rfl) (by decide) ?_
  refine WL.nil ?_
  refine WK.nThen ?_
  refine WC.seq ?_
  refine WC.seq ?_
  refine WC.region ?_
  refine WL.x (X.loadBA (k := 1) Try.isAgg58 Try.sizeOf58 rfl rfl rfl) (by decide) ?_
  refine WL.cond (X.call Try.call40 rfl (one40 _ _ a ⟨_, rfl, hs2⟩ )) (by decide) (fun h10 => ?_) (fun h10 => ?_)
  · refine WL.x (X.not rfl) (by decide) ?_
    refine WL.x (X.move rfl) (by decide) ?_
    refine WL.yes rfl rfl ?_
    refine WL.x (X.loadBA (k := 0) Try.isAgg58 Try.sizeOf58 rfl rfl rfl) (by decide) ?_
    refine WL.yes rfl rfl ?_
    refine WL.cond (X.call Try.call40 rfl (one40 _ _ b ⟨_, rfl, hs5⟩ )) (by decide) (fun h11 => ?_) (fun h11 => ?_)
    · refine WL.yes rfl rfl ?_
      refine WL.x (X.not rfl) (by decide) ?_
      refine WL.x (X.pickF rfl rfl rfl) (by decide) ?_
      refine WL.nil ?_
      refine WK.nThen ?_
      refine WC.condF rfl ?_
      refine WC.skip ?_
      refine WK.nThen ?_
      refine WC.seq ?_
      refine WC.region ?_
      refine WL.x (X.loadBA (k := 1) Try.isAgg58 Try.sizeOf58 rfl rfl rfl) (by decide) ?_
      refine WL.x (X.loadBA (k := 0) Try.isAgg58 Try.sizeOf58 rfl rfl rfl) (by decide) ?_
      refine WL.x (X.call Try.call41 rfl (dist41 _ _ a ⟨_, rfl, hs2⟩ _ b ⟨_, rfl, hs5⟩ )) (by decide) ?_
      refine WL.x (X.move rfl) (by decide) ?_
      refine WL.x (X.extract rfl rfl) (by decide) ?_
      refine WL.x (X.extract rfl rfl) (by decide) ?_
      refine WL.x (X.assign rfl) (by decide) ?_
      refine WL.x (X.assign rfl) (by decide) ?_
      refine WL.nil ?_
      refine WK.nThen ?_
      refine WC.seq ?_
      refine WC.region ?_
      refine WL.x (X.loadBA (k := 1) Try.isAgg58 Try.sizeOf58 rfl rfl rfl) (by decide) ?_
      refine WL.x (X.loadBA (k := 0) Try.isAgg58 Try.sizeOf58 rfl rfl rfl) (by decide) ?_
      refine WL.x (X.call Try.call42 rfl (dist42 _ _ a ⟨_, rfl, hs2⟩ _ b ⟨_, rfl, hs5⟩ )) (by decide) ?_
      refine WL.x (X.move rfl) (by decide) ?_
      refine WL.x (X.extract rfl rfl) (by decide) ?_
      refine WL.x (X.extract rfl rfl) (by decide) ?_
      refine WL.x (X.assign rfl) (by decide) ?_
      refine WL.x (X.assign rfl) (by decide) ?_
      refine WL.nil ?_
      refine WK.nThen ?_
      refine WC.seq ?_
      refine WC.region ?_
      refine WL.x (X.loadBA (k := 2) Try.isAgg23 Try.sizeOf23 rfl rfl rfl) (by decide) ?_
      refine WL.x (X.loadBA (k := 1) Try.isAgg58 Try.sizeOf58 rfl rfl rfl) (by decide) ?_
      refine WL.x (X.loadBA (k := 0) Try.isAgg58 Try.sizeOf58 rfl rfl rfl) (by decide) ?_
      refine WL.x (X.call Try.call43 rfl (within43 _ _ w rfl _ a ⟨_, rfl, hs2⟩ _ b ⟨_, rfl, hs5⟩ )) (by decide) ?_
      refine WL.x (X.move rfl) (by decide) ?_
      refine WL.x (X.extract rfl rfl) (by decide) ?_
      refine WL.x (X.extract rfl rfl) (by decide) ?_
      refine WL.x (X.assign rfl) (by decide) ?_
      refine WL.x (X.assign rfl) (by decide) ?_
      refine WL.nil ?_
      refine WK.nThen ?_
      refine WC.seq ?_
      refine WC.region ?_
      refine WL.x (X.loadBA (k := 2) Try.isAgg23 Try.sizeOf23 rfl rfl rfl) (by decide) ?_
      refine WL.x (X.loadBA (k := 1) Try.isAgg58 Try.sizeOf58 rfl rfl rfl) (by decide) ?_
      refine WL.x (X.loadBA (k := 0) Try.isAgg58 Try.sizeOf58 rfl rfl rfl) (by decide) ?_
      refine WL.x (X.call Try.call44 rfl (within44 _ _ w rfl _ a ⟨_, rfl, hs2⟩ _ b ⟨_, rfl, hs5⟩ )) (by decide) ?_
      refine WL.x (X.move rfl) (by decide) ?_
      refine WL.x (X.extract rfl rfl) (by decide) ?_
      refine WL.x (X.extract rfl rfl) (by decide) ?_
      refine WL.x (X.assign rfl) (by decide) ?_
      refine WL.x (X.assign rfl) (by decide) ?_
      refine WL.nil ?_
      refine WK.nThen ?_
      refine WC.seq ?_
      refine WC.region ?_
      refine WL.x (X.loadBA (k := 1) Try.isAgg58 Try.sizeOf58 rfl rfl rfl) (by decide) ?_
      refine WL.x (X.loadBA (k := 0) Try.isAgg58 Try.sizeOf58 rfl rfl rfl) (by decide) ?_
      refine WL.x (X.move rfl) (by decide) ?_
      refine WL.x (X.call Try.call45 rfl (speed45 _ _ a ⟨_, rfl, hs2⟩ _ b ⟨_, rfl, hs5⟩ _ )) (by decide) ?_
      refine WL.x (X.move rfl) (by decide) ?_
      refine WL.x (X.extract rfl rfl) (by decide) ?_
      refine WL.x (X.extract rfl rfl) (by decide) ?_
      refine WL.tn (T.alloc Try.zeroValue63 rfl) (by decide) fun b12 => ?_
      refine WL.ts (T.storeBA (k := 0) Try.sizeOf63 rfl rfl rfl (one_cons rfl (one_cons rfl one_nil)) rfl rfl) ?_
      refine WL.x (X.assign rfl) (by decide) ?_
      refine WL.nil ?_
      refine WK.nThen ?_
      refine WC.seq ?_
      refine WC.region ?_
      refine WL.x (X.loadBA (k := 2) Try.isAgg58 Try.sizeOf58 rfl rfl rfl) (by decide) ?_
      refine WL.x (X.loadBA (k := 1) Try.isAgg58 Try.sizeOf58 rfl rfl rfl) (by decide) ?_
      refine WL.x (X.move rfl) (by decide) ?_
      refine WL.x (X.call Try.call46 rfl (speed46 _ _ a ⟨_, rfl, hs2⟩ _ b ⟨_, rfl, hs5⟩ _ )) (by decide) ?_
      refine WL.x (X.move rfl) (by decide) ?_
      refine WL.x (X.extract rfl rfl) (by decide) ?_
      refine WL.x (X.extract rfl rfl) (by decide) ?_
      refine WL.tn (T.alloc Try.zeroValue63 rfl) (by decide) fun b13 => ?_
      refine WL.ts (T.storeBA (k := 0) Try.sizeOf63 rfl rfl rfl (one_cons rfl (one_cons rfl one_nil)) rfl rfl) ?_
      refine WL.x (X.assign rfl) (by decide) ?_
      refine WL.nil ?_
      refine WK.nThen ?_
      refine WC.seq ?_
      refine WC.draw (π := (.cons 0 (.cons 1 (.cons 2 (.cons 3 (.cons 4 (.cons 5 (.cons 6 (.cons 7 (.cons 8 (.cons 9 (.cons 10 (.cons 11 (.cons 12 (.cons 13 (.cons 14 (.cons 15 (.cons 16 (.cons 17 (.cons 18 (.cons 19 (.cons 20 (.cons 21 (.cons 22 (.cons 23 (.cons 24 (.cons 25 (.cons 26 (.cons 27 (.cons 28 (.cons 29 (.cons 30 (.cons 31 (.cons 32 (.cons 33 (.cons 34 (.cons 35 (.cons 36 (.cons 37 (.cons 38 .done)))))))))))))))))))))))))))))))))))))))) [] [] rfl (by kernel_rfl) ?_
      refine DW.x rfl rfl (X.move rfl) (by decide) ?_
      refine DW.x rfl rfl (X.move rfl) (by decide) ?_
      refine DW.x rfl rfl (X.loadBA (k := 4) Try.isAgg23 Try.sizeOf23 rfl rfl rfl) (by decide) ?_
      refine DW.x rfl rfl (X.call Try.call47 rfl (checkWind47 _ _ w rfl )) (by decide) ?_
      refine DW.x rfl rfl (X.loadBA (k := 4) Try.isAgg23 Try.sizeOf23 rfl rfl rfl) (by decide) ?_
      refine DW.x rfl rfl (X.call Try.call48 rfl (checkWind48 _ _ w rfl )) (by decide) ?_
      refine DW.x rfl rfl (OpX.t (X.eql rfl rfl) rfl) (by decide) ?_
      refine DW.x rfl rfl (X.pickT rfl rfl rfl) (by decide) ?_
      refine DW.x rfl rfl (X.move rfl) (by decide) ?_
      refine DW.x rfl rfl (X.move rfl) (by decide) ?_
      refine DW.x rfl rfl (X.move rfl) (by decide) ?_
      refine DW.x rfl rfl (OpX.t (X.eql rfl rfl) rfl) (by decide) ?_
      refine DW.x rfl rfl (X.pickT rfl rfl rfl) (by decide) ?_
      refine DW.x rfl rfl (X.move rfl) (by decide) ?_
      refine DW.x rfl rfl (X.move rfl) (by decide) ?_
      refine DW.x rfl rfl (X.move rfl) (by decide) ?_
      refine DW.x rfl rfl (OpX.t (X.eql rfl rfl) rfl) (by decide) ?_
      refine DW.x rfl rfl (X.pickT rfl rfl rfl) (by decide) ?_
      refine DW.x rfl rfl (X.move rfl) (by decide) ?_
      refine DW.x rfl rfl (X.move rfl) (by decide) ?_
      refine DW.x rfl rfl (X.move rfl) (by decide) ?_
      refine DW.x rfl rfl (OpX.t (X.eql rfl rfl) rfl) (by decide) ?_
      refine DW.x rfl rfl (X.pickT rfl rfl rfl) (by decide) ?_
      refine DW.x rfl rfl (X.move rfl) (by decide) ?_
      refine DW.x rfl rfl (X.move rfl) (by decide) ?_
      refine DW.x rfl rfl (X.move rfl) (by decide) ?_
      refine DW.x rfl rfl (OpX.t (X.eql rfl rfl) rfl) (by decide) ?_
      refine DW.x rfl rfl (X.pickT rfl rfl rfl) (by decide) ?_
      refine DW.x rfl rfl (X.move rfl) (by decide) ?_
      refine DW.x rfl rfl (X.loadBA (k := 1) Try.isAgg63 Try.sizeOf63 rfl rfl rfl) (by decide) ?_
      refine DW.x rfl rfl (X.loadBA (k := 0) Try.isAgg63 Try.sizeOf63 rfl rfl rfl) (by decide) ?_
      refine DW.x rfl rfl (OpX.t (X.eqlS (a := (speedR a b ticks).1) (b := (speedR a b ticks).1) gd63 (fun w => eqS63 9998 _ _ w) rfl rfl) rfl) (by decide) ?_
      refine DW.x rfl rfl (X.pickT rfl rfl rfl) (by decide) ?_
      refine DW.x rfl rfl (X.move rfl) (by decide) ?_
      refine DW.x rfl rfl (X.move rfl) (by decide) ?_
      refine DW.x rfl rfl (X.move rfl) (by decide) ?_
      refine DW.x rfl rfl (OpX.t (X.eql rfl rfl) rfl) (by decide) ?_
      refine DW.x rfl rfl (X.pickT rfl rfl rfl) (by decide) ?_
      refine DW.x rfl rfl (X.assign rfl) (by decide) ?_
      refine DW.nil ?_
      refine WK.nThen ?_
      refine WC.ret ?_
      refine WK.ret1 rfl rfl (fun w' hw' => Ret.exact hw' ?_)
      first | rfl | (exfalso; omega) | exact (bool_true (by omega)).symm
    · refine WL.yes rfl rfl ?_
      refine WL.x (X.not rfl) (by decide) ?_
      refine WL.x (X.pickF rfl rfl rfl) (by decide) ?_
      refine WL.nil ?_
      refine WK.nThen ?_
      refine WC.condT rfl ?_
      refine WC.seq ?_
      refine WC.region ?_
      refine WL.x (X.move rfl) (by decide) ?_
      refine WL.x (X.assign rfl) (by decide) ?_
      refine WL.nil ?_
      refine WK.nThen ?_
      refine WC.ret ?_
      refine WK.rThen ?_
      refine WK.ret1 rfl rfl (fun w' hw' => Ret.exact hw' ?_)
      first | rfl | (exfalso; omega) | exact (bool_true (by omega)).symm
  · refine WL.x (X.not rfl) (by decide) ?_
    refine WL.x (X.move rfl) (by decide) ?_
    refine WL.no rfl rfl rfl (by decide) ?_
    refine WL.no rfl rfl rfl (by decide) ?_
    refine WL.no rfl rfl rfl (by decide) ?_
    refine WL.x (X.pickT rfl rfl rfl) (by decide) ?_
    refine WL.nil ?_
    refine WK.nThen ?_
    refine WC.condT rfl ?_
    refine WC.seq ?_
    refine WC.region ?_
    refine WL.x (X.move rfl) (by decide) ?_
    refine WL.x (X.assign rfl) (by decide) ?_
    refine WL.nil ?_
    refine WK.nThen ?_
    refine WC.ret ?_
    refine WK.rThen ?_
    refine WK.ret1 rfl rfl (fun w' hw' => Ret.exact hw' ?_)
    first | rfl | (exfalso; omega) | exact (bool_true (by omega)).symm

end Go.Proofs.S5
namespace Go.Proofs.Ytcpecjgppbiplaa
open Go Go.Kx Go.Proofs.S5
set_option linter.unusedVariables false
namespace LStationsBounds
theorem own : ownKnob Try.prog.godebug = none := by kernel_rfl
theorem laidOut : laidOutB Try.prog = true := by kernel_rfl
set_option maxRecDepth 100000 in
theorem lifted (os : Os) (started : os.Started) (H : Type) (enc : TypeId × Value → H) :
    ReturnsInHanded {} Try.checked os 10 .any (Rows.stationsBoundsSpec.pre6 enc Try.prog Try.f10 Rows.stationsBoundsRow.domain false) (Rows.stationsBoundsSpec.post enc Try.prog Try.f10 false true false false) := by
  refine returnsInHanded_of_change_sized (C := Try.checked) own started (by kernel_rfl) Try.func10
    (ChangeSpec.witness6 (enc := enc) (C := Try.checked) false ⟨#[], #[.agg #[.int .i64 0, .int .i64 0], .agg #[.int .i64 0, .int .i64 0, .int .i64 0, .slice none 0 0], .agg #[.int .i64 0, .int .i64 0, .int .i64 0, .slice none 0 0], .int .i64 0], []⟩ 8 (by kernel_rfl) (by kernel_rfl) (by kernel_rfl) (by kernel_rfl)) ?_
  intro W base args ds gs before hval0 hW hcnd hwt _
  have hval : ∀ (j : Nat) t v, Try.f10.params[j]? = some t → args[j]? = some v → Value.okWide Try.prog W .any base t v := hval0
  have hW' := hW
  obtain ⟨p, q, hA0, hV, rfl, hfz, hnd⟩ := hW
  have hA : DataW.TrodAll enc Try.prog W 0 (fun _ => true) true Try.f10.params.toList args.toList ds p := hA0
  rw [Try.params10] at hA hval
  obtain ⟨v0, vs0, d0, ds0, p0, q0, hargs, rfl, rfl, h0, r0⟩ := ChangeShapes.trodAll_cons hA
  obtain ⟨v1, vs1, d1, ds1, p1, q1, rfl, rfl, rfl, h1, r1⟩ := ChangeShapes.trodAll_cons r0
  obtain ⟨v2, vs2, d2, ds2, p2, q2, rfl, rfl, rfl, h2, r2⟩ := ChangeShapes.trodAll_cons r1
  obtain ⟨v3, vs3, d3, ds3, p3, q3, rfl, rfl, rfl, h3, r3⟩ := ChangeShapes.trodAll_cons r2
  obtain ⟨rfl, rfl, rfl⟩ := ChangeShapes.trodAll_nil r3
  obtain rfl : args = #[v0, v1, v2, v3] := by cases args; simp_all
  obtain ⟨rfl, rfl⟩ := ChangeShapes.trodVars_none hV
  have hwts : (DataW.weightsEach Try.prog [23, 58, 58, 3] [d0, d1, d2, d3]).all (· ≤ reachBytes) = true := hwt
  have lt0 : ∀ x ∈ p0, x.block < W.heap.size := by obtain ⟨m, hm⟩ := h0; exact DataW.trod_lt m _ _ _ hm
  have lt1 : ∀ x ∈ p1, x.block < W.heap.size := by obtain ⟨m, hm⟩ := h1; exact DataW.trod_lt m _ _ _ hm
  have lt2 : ∀ x ∈ p2, x.block < W.heap.size := by obtain ⟨m, hm⟩ := h2; exact DataW.trod_lt m _ _ _ hm
  have lt3 : ∀ x ∈ p3, x.block < W.heap.size := by obtain ⟨m, hm⟩ := h3; exact DataW.trod_lt m _ _ _ hm
  have g0 := hval 0 23 v0 rfl rfl
  have k0 := h0
  obtain ⟨c0, x0, rfl, s0, ok0⟩ := arg_st br23 Try.underlying23 g0 h0 (weigh hwts (j := 0) rfl rfl)
  have g1 := hval 1 58 v1 rfl rfl
  have k1 := h1
  obtain ⟨c1, x1, rfl, s1, ok1⟩ := arg_st br58 Try.underlying58 g1 h1 (weigh hwts (j := 1) rfl rfl)
  have g2 := hval 2 58 v2 rfl rfl
  have k2 := h2
  obtain ⟨c2, x2, rfl, s2, ok2⟩ := arg_st br58 Try.underlying58 g2 h2 (weigh hwts (j := 2) rfl rfl)
  have g3 := hval 3 3 v3 rfl rfl
  have k3 := h3
  obtain ⟨x3, rfl, lo3, hi3⟩ := arg_int Try.underlying3 g3 h3
  clear hA0 hval0
  refine (Exact.law (Go.Proofs.S5.law10 (Mem.all W) c0 x0 s0 c1 x1 s1 c2 x2 s2 x3 ok0 ok1 ok2 lo3 hi3)).mono fun e W' ⟨he, bel⟩ => ?_
  subst he
  exact ⟨_, rfl, _, _, _, [], _, [], hW', ChangeShapes.trodAll_mk1 (RowKit.shut_bool Try.underlying4 _), (trodAll_cons_mk (RowKit.Below.trod laidOut (by kernel_rfl) (of_decide_eq_true (by kernel_rfl)) k0 bel lt0) (trodAll_cons_mk (RowKit.Below.trod laidOut (by kernel_rfl) (of_decide_eq_true (by kernel_rfl)) k1 bel lt1) (trodAll_cons_mk (RowKit.Below.trod laidOut (by kernel_rfl) (of_decide_eq_true (by kernel_rfl)) k2 bel lt2) (trodAll_cons_mk (RowKit.Below.trod laidOut (by kernel_rfl) (of_decide_eq_true (by kernel_rfl)) k3 bel lt3) ChangeShapes.trodAll_mk0)))), rfl, bel.frame _, fun h => by cases h⟩
theorem over : Rows.stationsBoundsRow.holds Try.pinned (OpenSpec.ofChange Rows.stationsBoundsSpec) :=
  OpenClaim.holds_of_wide 10 Try.f10 rfl rfl rfl rfl rfl rfl rfl ⟨rfl, rfl, rfl, rfl, rfl⟩ rfl rfl rfl rfl rfl (by kernel_rfl) Try.func10 (by kernel_rfl)
    (of_decide_eq_true (by kernel_rfl)) (by unfold Func.isWrapper; first | (rw [if_pos (by decide +kernel)]; kernel_rfl) | (rw [if_neg (by decide +kernel)]; exact ⟨rfl, rfl⟩))
    (fun os started H enc _ => lifted os started H enc)
end LStationsBounds
theorem stationsBounds_holds : Rows.StationsBoundsSaid := LStationsBounds.over
end Go.Proofs.Ytcpecjgppbiplaa
