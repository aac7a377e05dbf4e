/- The law StationsSea: it returns true for every input; its arguments read as before. No condition beyond what the given row says. -/
import Derived.Test.YtcpecjgppbiplaaS5Law
import Derived.Test.YtcpecjgppbiplaaS5W4
import Derived.Test.YtcpecjgppbiplaaS5Br
import Derived.Test.YtcpecjgppbiplaaKxO
import Derived.Test.YtcpecjgppbiplaaKxN
import Derived.Test.YtcpecjgppbiplaaRows
import Derived.WalkKit
import Derived.ProofKit
import Derived.OpenShut
import Derived.ShutString
import Derived.ChangeOld
import Derived.Below
namespace Go.Proofs.S5
open Go Go.Kx
set_option linter.unusedVariables false

theorem law8 (m : Mem) (level : Int) (height : Int) (cs : List Value) (s : Span) (hs : Enc.rd m cs s) (sea : Int)  (lo0 : -9223372036854775808 ≤ level) (hi0 : level ≤ 9223372036854775807) (lo1 : -9223372036854775808 ≤ height) (hi1 : height ≤ 9223372036854775807) (ok2 : Rng.ok s) (lo3 : -9223372036854775808 ≤ sea) (hi3 : sea ≤ 9223372036854775807) : Exact Try.prog 8 #[.int .i64 (level), .int .i64 (height), .agg cs.toArray, .int .i64 (sea)] m (.bool true) := by
  obtain rfl := hs
  refine Exact.start Try.func8 rfl Try.ntmps8 rfl fun wld => ?_
  refine WC.seq ?_
  refine WC.region ?_
  refine WL.tn (T.boxB rfl rfl) (by decide) fun b1 => ?_
  refine WL.x (X.assign rfl) (by decide) ?_
  refine WL.nil ?_
  refine WK.nThen ?_
  refine WC.seq ?_
  refine WC.region ?_
  refine WL.x (X.move rfl) (by decide) ?_
  refine WL.x (X.move rfl) (by decide) ?_
  refine WL.x (X.call Try.call34 rfl (sea34 _ _ _ )) (by decide) ?_
  refine WL.x (X.move rfl) (by decide) ?_
  refine WL.x (X.extract rfl rfl) (by decide) ?_
  refine WL.x (X.extract rfl rfl) (by decide) ?_
  refine WL.x (X.assign rfl) (by decide) ?_
  refine WL.x (X.assign rfl) (by decide) ?_
  refine WL.nil ?_
  refine WK.nThen ?_
  refine WC.seq ?_
  refine WC.region ?_
  refine WL.x (X.move rfl) (by decide) ?_
  refine WL.x (X.move rfl) (by decide) ?_
  refine WL.x (X.call Try.call35 rfl (sea35 _ _ _ )) (by decide) ?_
  refine WL.x (X.move rfl) (by decide) ?_
  refine WL.x (X.extract rfl rfl) (by decide) ?_
  refine WL.x (X.extract rfl rfl) (by decide) ?_
  refine WL.x (X.assign rfl) (by decide) ?_
  refine WL.x (X.assign rfl) (by decide) ?_
  refine WL.nil ?_
  refine WK.nThen ?_
  refine WC.seq ?_
  refine WC.region ?_
  refine WL.x (X.move rfl) (by decide) ?_
  refine WL.x (X.loadBA (k := 0) Try.isAgg49 Try.sizeOf49 rfl rfl rfl) (by decide) ?_
  refine WL.x (X.call Try.call36 rfl (seas36 _ _ _ s rfl )) (by decide) ?_
  refine WL.x (X.move rfl) (by decide) ?_
  refine WL.x (X.extract rfl rfl) (by decide) ?_
  refine WL.x (X.extract rfl rfl) (by decide) ?_
  refine WL.tn (T.alloc Try.zeroValue49 rfl) (by decide) fun b2 => ?_
  refine WL.ts (T.storeBA (k := 0) Try.sizeOf49 rfl rfl rfl (one_cons rfl (one_cons rfl one_nil)) rfl rfl) ?_
  refine WL.x (X.assign rfl) (by decide) ?_
  refine WL.nil ?_
  refine WK.nThen ?_
  refine WC.seq ?_
  refine WC.region ?_
  refine WL.x (X.move rfl) (by decide) ?_
  refine WL.x (X.loadBA (k := 1) Try.isAgg49 Try.sizeOf49 rfl rfl rfl) (by decide) ?_
  refine WL.x (X.call Try.call37 rfl (seas37 _ _ _ s rfl )) (by decide) ?_
  refine WL.x (X.move rfl) (by decide) ?_
  refine WL.x (X.extract rfl rfl) (by decide) ?_
  refine WL.x (X.extract rfl rfl) (by decide) ?_
  refine WL.tn (T.alloc Try.zeroValue49 rfl) (by decide) fun b3 => ?_
  refine WL.ts (T.storeBA (k := 0) Try.sizeOf49 rfl rfl rfl (one_cons rfl (one_cons rfl one_nil)) rfl rfl) ?_
  refine WL.x (X.assign rfl) (by decide) ?_
  refine WL.nil ?_
  refine WK.nThen ?_
  refine WC.seq ?_
  refine WC.region ?_
  refine WL.x (X.move rfl) (by decide) ?_
  refine WL.x (X.move rfl) (by decide) ?_
  refine WL.x (X.call Try.call38 rfl (lands38 _ _ _ )) (by decide) ?_
  refine WL.x (X.move rfl) (by decide) ?_
  refine WL.x (X.extract rfl rfl) (by decide) ?_
  refine WL.x (X.extract rfl rfl) (by decide) ?_
  refine WL.tn (T.alloc Try.zeroValue49 rfl) (by decide) fun b4 => ?_
  refine WL.ts (T.storeBA (k := 0) Try.sizeOf49 rfl rfl rfl (one_cons rfl (one_cons rfl one_nil)) rfl rfl) ?_
  refine WL.x (X.assign rfl) (by decide) ?_
  refine WL.nil ?_
  refine WK.nThen ?_
  refine WC.seq ?_
  refine WC.region ?_
  refine WL.x (X.move rfl) (by decide) ?_
  refine WL.x (X.move rfl) (by decide) ?_
  refine WL.x (X.call Try.call39 rfl (lands39 _ _ _ )) (by decide) ?_
  refine WL.x (X.move rfl) (by decide) ?_
  refine WL.x (X.extract rfl rfl) (by decide) ?_
  refine WL.x (X.extract rfl rfl) (by decide) ?_
  refine WL.tn (T.alloc Try.zeroValue49 rfl) (by decide) fun b5 => ?_
  refine WL.ts (T.storeBA (k := 0) Try.sizeOf49 rfl rfl rfl (one_cons rfl (one_cons rfl one_nil)) rfl rfl) ?_
  refine WL.x (X.assign rfl) (by decide) ?_
  refine WL.nil ?_
  refine WK.nThen ?_
  refine WC.seq ?_
  refine WC.region ?_
  refine WL.x (X.call Try.call17 rfl (awake17 _  )) (by decide) ?_
  refine WL.x (X.move rfl) (by decide) ?_
  refine WL.yes rfl rfl ?_
  refine WL.x (X.move rfl) (by decide) ?_
  refine WL.yes rfl rfl ?_
  refine WL.x (X.move rfl) (by decide) ?_
  refine WL.yes rfl rfl ?_
  refine WL.x (OpX.t (X.eql rfl rfl) rfl) (by decide) ?_
  refine WL.x (X.pickT rfl rfl rfl) (by decide) ?_
  refine WL.x (X.move rfl) (by decide) ?_
  refine WL.yes rfl rfl ?_
  refine WL.x (X.move rfl) (by decide) ?_
  refine WL.yes rfl rfl ?_
  refine WL.x (X.move rfl) (by decide) ?_
  refine WL.yes rfl rfl ?_
  refine WL.x (OpX.t (X.eql rfl rfl) rfl) (by decide) ?_
  refine WL.x (X.pickT rfl rfl rfl) (by decide) ?_
  refine WL.x (X.move rfl) (by decide) ?_
  refine WL.yes rfl rfl ?_
  refine WL.x (X.loadBA (k := 3) Try.isAgg49 Try.sizeOf49 rfl rfl rfl) (by decide) ?_
  refine WL.yes rfl rfl ?_
  refine WL.x (X.loadBA (k := 2) Try.isAgg49 Try.sizeOf49 rfl rfl rfl) (by decide) ?_
  refine WL.yes rfl rfl ?_
  refine WL.x (OpX.t (X.eqlS (a := (seasR level s).1) (b := (seasR level s).1) gd49 (fun w => eqS49 9998 _ _ w) rfl rfl) rfl) (by decide) ?_
  refine WL.x (X.pickT rfl rfl rfl) (by decide) ?_
  refine WL.x (X.move rfl) (by decide) ?_
  refine WL.yes rfl rfl ?_
  refine WL.x (X.move rfl) (by decide) ?_
  refine WL.yes rfl rfl ?_
  refine WL.x (X.move rfl) (by decide) ?_
  refine WL.yes rfl rfl ?_
  refine WL.x (OpX.t (X.eql rfl rfl) rfl) (by decide) ?_
  refine WL.x (X.pickT rfl rfl rfl) (by decide) ?_
  refine WL.x (X.move rfl) (by decide) ?_
  refine WL.yes rfl rfl ?_
  refine WL.x (X.loadBA (k := 1) Try.isAgg49 Try.sizeOf49 rfl rfl rfl) (by decide) ?_
  refine WL.yes rfl rfl ?_
  refine WL.x (X.loadBA (k := 0) Try.isAgg49 Try.sizeOf49 rfl rfl rfl) (by decide) ?_
  refine WL.yes rfl rfl ?_
  refine WL.x (OpX.t (X.eqlS (a := (landsR sea height).1) (b := (landsR sea height).1) gd49 (fun w => eqS49 9998 _ _ w) rfl rfl) rfl) (by decide) ?_
  refine WL.x (X.pickT rfl rfl rfl) (by decide) ?_
  refine WL.x (X.move rfl) (by decide) ?_
  refine WL.yes rfl rfl ?_
  refine WL.x (X.move rfl) (by decide) ?_
  refine WL.yes rfl rfl ?_
  refine WL.x (X.move rfl) (by decide) ?_
  refine WL.yes rfl rfl ?_
  refine WL.x (OpX.t (X.eql rfl rfl) rfl) (by decide) ?_
  refine WL.x (X.pickT rfl rfl rfl) (by decide) ?_
  refine WL.x (X.assign rfl) (by decide) ?_
  refine WL.nil ?_
  refine WK.nThen ?_
  refine WC.ret ?_
  refine WK.ret1 rfl rfl (fun w' hw' => Ret.exact hw' ?_)
  first | rfl | (exfalso; omega) | exact (bool_true (by omega)).symm

end Go.Proofs.S5
namespace Go.Proofs.Ytcpecjgppbiplaa
open Go Go.Kx Go.Proofs.S5
set_option linter.unusedVariables false
namespace LStationsSea
theorem own : ownKnob Try.prog.godebug = none := by kernel_rfl
theorem laidOut : laidOutB Try.prog = true := by kernel_rfl
set_option maxRecDepth 100000 in
theorem lifted (os : Os) (started : os.Started) (H : Type) (enc : TypeId × Value → H) :
    ReturnsInHanded {} Try.checked os 8 .any (Rows.stationsSeaSpec.pre6 enc Try.prog Try.f8 Rows.stationsSeaRow.domain false) (Rows.stationsSeaSpec.post enc Try.prog Try.f8 false true false false) := by
  refine returnsInHanded_of_change_sized (C := Try.checked) own started (by kernel_rfl) Try.func8
    (ChangeSpec.witness6 (enc := enc) (C := Try.checked) false ⟨#[], #[.int .i64 0, .int .i64 0, .agg #[.int .i64 0, .int .i64 0], .int .i64 0], []⟩ 8 (by kernel_rfl) (by kernel_rfl) (by kernel_rfl) (by kernel_rfl)) ?_
  intro W base args ds gs before hval0 hW hcnd hwt _
  have hval : ∀ (j : Nat) t v, Try.f8.params[j]? = some t → args[j]? = some v → Value.okWide Try.prog W .any base t v := hval0
  have hW' := hW
  obtain ⟨p, q, hA0, hV, rfl, hfz, hnd⟩ := hW
  have hA : DataW.TrodAll enc Try.prog W 0 (fun _ => true) true Try.f8.params.toList args.toList ds p := hA0
  rw [Try.params8] at hA hval
  obtain ⟨v0, vs0, d0, ds0, p0, q0, hargs, rfl, rfl, h0, r0⟩ := ChangeShapes.trodAll_cons hA
  obtain ⟨v1, vs1, d1, ds1, p1, q1, rfl, rfl, rfl, h1, r1⟩ := ChangeShapes.trodAll_cons r0
  obtain ⟨v2, vs2, d2, ds2, p2, q2, rfl, rfl, rfl, h2, r2⟩ := ChangeShapes.trodAll_cons r1
  obtain ⟨v3, vs3, d3, ds3, p3, q3, rfl, rfl, rfl, h3, r3⟩ := ChangeShapes.trodAll_cons r2
  obtain ⟨rfl, rfl, rfl⟩ := ChangeShapes.trodAll_nil r3
  obtain rfl : args = #[v0, v1, v2, v3] := by cases args; simp_all
  obtain ⟨rfl, rfl⟩ := ChangeShapes.trodVars_none hV
  have hwts : (DataW.weightsEach Try.prog [3, 3, 49, 3] [d0, d1, d2, d3]).all (· ≤ reachBytes) = true := hwt
  have lt0 : ∀ x ∈ p0, x.block < W.heap.size := by obtain ⟨m, hm⟩ := h0; exact DataW.trod_lt m _ _ _ hm
  have lt1 : ∀ x ∈ p1, x.block < W.heap.size := by obtain ⟨m, hm⟩ := h1; exact DataW.trod_lt m _ _ _ hm
  have lt2 : ∀ x ∈ p2, x.block < W.heap.size := by obtain ⟨m, hm⟩ := h2; exact DataW.trod_lt m _ _ _ hm
  have lt3 : ∀ x ∈ p3, x.block < W.heap.size := by obtain ⟨m, hm⟩ := h3; exact DataW.trod_lt m _ _ _ hm
  have g0 := hval 0 3 v0 rfl rfl
  have k0 := h0
  obtain ⟨x0, rfl, lo0, hi0⟩ := arg_int Try.underlying3 g0 h0
  have g1 := hval 1 3 v1 rfl rfl
  have k1 := h1
  obtain ⟨x1, rfl, lo1, hi1⟩ := arg_int Try.underlying3 g1 h1
  have g2 := hval 2 49 v2 rfl rfl
  have k2 := h2
  obtain ⟨c2, x2, rfl, s2, ok2⟩ := arg_st br49 Try.underlying49 g2 h2 (weigh hwts (j := 2) rfl rfl)
  have g3 := hval 3 3 v3 rfl rfl
  have k3 := h3
  obtain ⟨x3, rfl, lo3, hi3⟩ := arg_int Try.underlying3 g3 h3
  clear hA0 hval0
  refine (Exact.law (Go.Proofs.S5.law8 (Mem.all W) x0 x1 c2 x2 s2 x3 lo0 hi0 lo1 hi1 ok2 lo3 hi3)).mono fun e W' ⟨he, bel⟩ => ?_
  subst he
  exact ⟨_, rfl, _, _, _, [], _, [], hW', ChangeShapes.trodAll_mk1 (RowKit.shut_bool Try.underlying4 _), (trodAll_cons_mk (RowKit.Below.trod laidOut (by kernel_rfl) (of_decide_eq_true (by kernel_rfl)) k0 bel lt0) (trodAll_cons_mk (RowKit.Below.trod laidOut (by kernel_rfl) (of_decide_eq_true (by kernel_rfl)) k1 bel lt1) (trodAll_cons_mk (RowKit.Below.trod laidOut (by kernel_rfl) (of_decide_eq_true (by kernel_rfl)) k2 bel lt2) (trodAll_cons_mk (RowKit.Below.trod laidOut (by kernel_rfl) (of_decide_eq_true (by kernel_rfl)) k3 bel lt3) ChangeShapes.trodAll_mk0)))), rfl, bel.frame _, fun h => by cases h⟩
theorem over : Rows.stationsSeaRow.holds Try.pinned (OpenSpec.ofChange Rows.stationsSeaSpec) :=
  OpenClaim.holds_of_wide 8 Try.f8 rfl rfl rfl rfl rfl rfl rfl ⟨rfl, rfl, rfl, rfl, rfl⟩ rfl rfl rfl rfl rfl (by kernel_rfl) Try.func8 (by kernel_rfl)
    (of_decide_eq_true (by kernel_rfl)) (by unfold Func.isWrapper; first | (rw [if_pos (by decide +kernel)]; kernel_rfl) | (rw [if_neg (by decide +kernel)]; exact ⟨rfl, rfl⟩))
    (fun os started H enc _ => lifted os started H enc)
end LStationsSea
theorem stationsSea_holds : Rows.StationsSeaSaid := LStationsSea.over
end Go.Proofs.Ytcpecjgppbiplaa
