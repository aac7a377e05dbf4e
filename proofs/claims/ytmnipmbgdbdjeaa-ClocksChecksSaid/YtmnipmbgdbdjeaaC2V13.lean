import Derived.Test.YtmnipmbgdbdjeaaC2Br
import Derived.Test.YtmnipmbgdbdjeaaC2W10
import Derived.Test.YtmnipmbgdbdjeaaC2W13
/- The walk of the statement ClocksChecks: its function answers true. -/
namespace Go.Proofs.C2
open Go Go.Kx
set_option linter.unusedSimpArgs false
set_option linter.unusedVariables false
set_option maxRecDepth 20000 in
set_option maxHeartbeats 4000000 in
theorem law13 (m : Mem) (cc : List Value) (c : Clk) (hc : Enc.rd m cc c) (cx : List Value) (x : Ask) (hx : Enc.rd m cx x)  (ok0 : Rng.ok c) (ok1 : Rng.ok x) : Exact Try.prog 13 #[.agg cc.toArray, .agg cx.toArray] m (.bool true) := by
  obtain ⟨v1, v3, v5, rfl, hs2, hs4, hs6⟩ := hc
  have hl7 := hs2.le
  have hl8 := hs4.le
  have hl9 := hs6.le
  obtain ⟨v10, v12, v14, rfl, hs11, hs13, hs15⟩ := hx
  have hl16 := hs11.le
  have hl17 := hs13.le
  have hl18 := hs15.le
  refine Exact.start Try.func13 rfl Try.ntmps13 rfl fun wld => ?_
  refine WC.seq ?_
  refine WC.region ?_
  refine WL.tn (T.boxB rfl rfl) (by decide) fun b19 => ?_
  refine WL.tn (T.boxB rfl rfl) (by decide) fun b20 => ?_
  refine WL.x (X.assign rfl) (by decide) ?_
  refine WL.nil ?_
  refine WK.nThen ?_
  refine WC.seq ?_
  refine WC.region ?_
  refine WL.x (X.call Try.call19 rfl (awake19 _  )) (by decide) ?_
  refine WL.x (X.assign rfl) (by decide) ?_
  refine WL.nil ?_
  refine WK.nThen ?_
  refine WC.seq ?_
  refine WC.seq ?_
  refine WC.region ?_
  refine WL.x (X.loadBA (k := 1) Try.isAgg28 Try.sizeOf28 rfl rfl rfl) (by decide) ?_
  refine WL.cond (X.call Try.call20 rfl (few20 _ _ c ⟨_, _, _, rfl, hs2, hs4, hs6⟩ )) (by decide) (fun h21 => ?_) (fun h21 => ?_)
  · refine WL.x (X.not rfl) (by decide) ?_
    refine WL.nil ?_
    refine WK.nThen ?_
    refine WC.condF rfl ?_
    refine WC.skip ?_
    refine WK.nThen ?_
    refine WC.seq ?_
    refine WC.region ?_
    refine WL.x (X.field Try.runUnderlying28 rfl Try.sizeOf25 rfl) (by decide) ?_
    refine WL.x (X.loadBP (k := 1) (vs := [v1, v3]) Try.isAgg25 Try.sizeOf25 rfl rfl rfl rfl) (by decide) ?_
    refine WL.x (X.field Try.runUnderlying28 rfl Try.sizeOf26 rfl) (by decide) ?_
    refine WL.x (X.loadB (k := 1) Try.isAgg26 rfl rfl rfl) (by decide) ?_
    refine WL.x (X.call Try.call44 rfl (marks44 _ _ c.D ⟨_, _, rfl, hs2, hs4⟩ _ _ hs6 )) (by decide) ?_
    refine WL.x (X.move rfl) (by decide) ?_
    refine WL.x (X.extract rfl rfl) (by decide) ?_
    refine WL.x (X.extract rfl rfl) (by decide) ?_
    refine WL.x (X.assign rfl) (by decide) ?_
    refine WL.x (X.assign rfl) (by decide) ?_
    refine WL.nil ?_
    refine WK.nThen ?_
    refine WC.seq ?_
    refine WC.region ?_
    refine WL.x (X.field Try.runUnderlying28 rfl Try.sizeOf25 rfl) (by decide) ?_
    refine WL.x (X.loadBP (k := 1) (vs := [v1, v3]) Try.isAgg25 Try.sizeOf25 rfl rfl rfl rfl) (by decide) ?_
    refine WL.x (X.field Try.runUnderlying28 rfl Try.sizeOf26 rfl) (by decide) ?_
    refine WL.x (X.loadB (k := 1) Try.isAgg26 rfl rfl rfl) (by decide) ?_
    refine WL.x (X.call Try.call52 rfl (marks52 _ _ c.D ⟨_, _, rfl, hs2, hs4⟩ _ _ hs6 )) (by decide) ?_
    refine WL.x (X.move rfl) (by decide) ?_
    refine WL.x (X.extract rfl rfl) (by decide) ?_
    refine WL.x (X.extract rfl rfl) (by decide) ?_
    refine WL.x (X.assign rfl) (by decide) ?_
    refine WL.x (X.assign rfl) (by decide) ?_
    refine WL.nil ?_
    refine WK.nThen ?_
    refine WC.seq ?_
    refine WC.region ?_
    refine WL.x (X.field Try.runUnderlying28 rfl Try.sizeOf25 rfl) (by decide) ?_
    refine WL.x (X.loadBP (k := 1) (vs := [v1, v3]) Try.isAgg25 Try.sizeOf25 rfl rfl rfl rfl) (by decide) ?_
    refine WL.x (X.field Try.runUnderlying36 rfl Try.sizeOf3 rfl) (by decide) ?_
    refine WL.x (X.loadB (k := 0) Try.isAgg3 rfl rfl rfl) (by decide) ?_
    refine WL.x (X.call Try.call38 rfl (gap38 _ _ c.D ⟨_, _, rfl, hs2, hs4⟩ _ )) (by decide) ?_
    refine WL.x (X.move rfl) (by decide) ?_
    refine WL.x (X.extract rfl rfl) (by decide) ?_
    refine WL.x (X.extract rfl rfl) (by decide) ?_
    refine WL.tn (T.alloc Try.zeroValue31 rfl) (by decide) fun b22 => ?_
    refine WL.ts (T.storeBA (k := 0) Try.sizeOf31 rfl rfl rfl (one_cons rfl (one_cons rfl one_nil)) rfl rfl) ?_
    refine WL.x (X.assign rfl) (by decide) ?_
    refine WL.nil ?_
    refine WK.nThen ?_
    refine WC.seq ?_
    refine WC.region ?_
    refine WL.x (X.field Try.runUnderlying28 rfl Try.sizeOf25 rfl) (by decide) ?_
    refine WL.x (X.loadBP (k := 2) (vs := [v1, v3]) Try.isAgg25 Try.sizeOf25 rfl rfl rfl rfl) (by decide) ?_
    refine WL.x (X.field Try.runUnderlying36 rfl Try.sizeOf3 rfl) (by decide) ?_
    refine WL.x (X.loadB (k := 1) Try.isAgg3 rfl rfl rfl) (by decide) ?_
    refine WL.x (X.call Try.call53 rfl (gap53 _ _ c.D ⟨_, _, rfl, hs2, hs4⟩ _ )) (by decide) ?_
    refine WL.x (X.move rfl) (by decide) ?_
    refine WL.x (X.extract rfl rfl) (by decide) ?_
    refine WL.x (X.extract rfl rfl) (by decide) ?_
    refine WL.tn (T.alloc Try.zeroValue31 rfl) (by decide) fun b23 => ?_
    refine WL.ts (T.storeBA (k := 0) Try.sizeOf31 rfl rfl rfl (one_cons rfl (one_cons rfl one_nil)) rfl rfl) ?_
    refine WL.x (X.assign rfl) (by decide) ?_
    refine WL.nil ?_
    refine WK.nThen ?_
    refine WC.seq ?_
    refine WC.seq ?_
    refine WC.draw (π := (.cons 0 (.cons 1 (.cons 2 (.cons 3 (.cons 4 (.cons 5 (.cons 6 (.cons 7 (.cons 8 (.cons 9 (.cons 10 (.cons 11 (.cons 12 (.cons 13 (.cons 14 (.cons 15 (.cons 16 (.cons 17 (.cons 18 (.cons 19 (.cons 20 (.cons 21 (.cons 22 (.cons 23 (.cons 24 (.cons 25 (.cons 26 .done)))))))))))))))))))))))))))) [] [] rfl (by kernel_rfl) ?_
    refine DW.x rfl rfl (X.field Try.runUnderlying28 rfl Try.sizeOf25 rfl) (by decide) ?_
    refine DW.x rfl rfl (X.loadBP (k := 3) (vs := [v1, v3]) Try.isAgg25 Try.sizeOf25 rfl rfl rfl rfl) (by decide) ?_
    refine DW.x rfl rfl (X.call Try.call43 rfl (check43 _ _ c.D ⟨_, _, rfl, hs2, hs4⟩ )) (by decide) ?_
    refine DW.x rfl rfl (X.field Try.runUnderlying28 rfl Try.sizeOf25 rfl) (by decide) ?_
    refine DW.x rfl rfl (X.loadBP (k := 3) (vs := [v1, v3]) Try.isAgg25 Try.sizeOf25 rfl rfl rfl rfl) (by decide) ?_
    refine DW.x rfl rfl (X.call Try.call54 rfl (check54 _ _ c.D ⟨_, _, rfl, hs2, hs4⟩ )) (by decide) ?_
    refine DW.x rfl rfl (OpX.f (X.neq rfl rfl) (fun h => h rfl)) (by decide) ?_
    refine DW.x rfl rfl (X.move rfl) (by decide) ?_
    refine DW.x rfl rfl (X.move rfl) (by decide) ?_
    refine DW.x rfl rfl (X.move rfl) (by decide) ?_
    refine DW.x rfl rfl (OpX.f (X.neq rfl rfl) (fun h => h rfl)) (by decide) ?_
    refine DW.x rfl rfl (X.pickF rfl rfl rfl) (by decide) ?_
    refine DW.x rfl rfl (X.move rfl) (by decide) ?_
    refine DW.x rfl rfl (X.move rfl) (by decide) ?_
    refine DW.x rfl rfl (X.move rfl) (by decide) ?_
    refine DW.x rfl rfl (OpX.f (X.neq rfl rfl) (fun h => h rfl)) (by decide) ?_
    refine DW.x rfl rfl (X.pickF rfl rfl rfl) (by decide) ?_
    refine DW.x rfl rfl (X.move rfl) (by decide) ?_
    refine DW.x rfl rfl (X.loadBA (k := 1) Try.isAgg31 Try.sizeOf31 rfl rfl rfl) (by decide) ?_
    refine DW.x rfl rfl (X.loadBA (k := 0) Try.isAgg31 Try.sizeOf31 rfl rfl rfl) (by decide) ?_
    refine DW.x rfl rfl (OpX.f (X.neqS (a := (gapR c.D x.A).1) (b := (gapR c.D x.A).1) gd31 (fun w => eqS31 9998 _ _ w) rfl rfl) (fun h => h rfl)) (by decide) ?_
    refine DW.x rfl rfl (X.pickF rfl rfl rfl) (by decide) ?_
    refine DW.x rfl rfl (X.move rfl) (by decide) ?_
    refine DW.x rfl rfl (X.move rfl) (by decide) ?_
    refine DW.x rfl rfl (X.move rfl) (by decide) ?_
    refine DW.x rfl rfl (OpX.f (X.neq rfl rfl) (fun h => h rfl)) (by decide) ?_
    refine DW.x rfl rfl (X.pickF rfl rfl rfl) (by decide) ?_
    refine DW.nil ?_
    refine WK.nThen ?_
    refine WC.condF rfl ?_
    refine WC.skip ?_
    refine WK.nThen ?_
    refine WC.seq ?_
    refine WC.region ?_
    refine WL.x (X.field Try.runUnderlying28 rfl Try.sizeOf25 rfl) (by decide) ?_
    refine WL.x (X.loadBP (k := 3) (vs := [v1, v3]) Try.isAgg25 Try.sizeOf25 rfl rfl rfl rfl) (by decide) ?_
    refine WL.x (X.field Try.runUnderlying36 rfl Try.sizeOf33 rfl) (by decide) ?_
    refine WL.x (X.loadBP (k := 2) (vs := [.int .i64 (x.First.Column), .int .i64 (x.First.Ticks.Lo), .int .i64 (x.First.Ticks.Hi)]) Try.isAgg33 Try.sizeOf33 rfl rfl rfl rfl) (by decide) ?_
    refine WL.x (X.field Try.runUnderlying36 rfl Try.sizeOf33 rfl) (by decide) ?_
    refine WL.x (X.loadBP (k := 2) (vs := [.int .i64 (x.Second.Column), .int .i64 (x.Second.Ticks.Lo), .int .i64 (x.Second.Ticks.Hi)]) Try.isAgg33 Try.sizeOf33 rfl rfl rfl rfl) (by decide) ?_
    refine WL.x (X.call Try.call55 rfl (agree55 _ _ c.D ⟨_, _, rfl, hs2, hs4⟩ _ x.First rfl _ x.Second rfl )) (by decide) ?_
    refine WL.x (X.move rfl) (by decide) ?_
    refine WL.x (X.extract rfl rfl) (by decide) ?_
    refine WL.x (X.extract rfl rfl) (by decide) ?_
    refine WL.x (X.assign rfl) (by decide) ?_
    refine WL.x (X.assign rfl) (by decide) ?_
    refine WL.nil ?_
    refine WK.nThen ?_
    refine WC.seq ?_
    refine WC.region ?_
    refine WL.x (X.field Try.runUnderlying28 rfl Try.sizeOf25 rfl) (by decide) ?_
    refine WL.x (X.loadBP (k := 3) (vs := [v1, v3]) Try.isAgg25 Try.sizeOf25 rfl rfl rfl rfl) (by decide) ?_
    refine WL.x (X.field Try.runUnderlying36 rfl Try.sizeOf33 rfl) (by decide) ?_
    refine WL.x (X.loadBP (k := 2) (vs := [.int .i64 (x.First.Column), .int .i64 (x.First.Ticks.Lo), .int .i64 (x.First.Ticks.Hi)]) Try.isAgg33 Try.sizeOf33 rfl rfl rfl rfl) (by decide) ?_
    refine WL.x (X.field Try.runUnderlying36 rfl Try.sizeOf33 rfl) (by decide) ?_
    refine WL.x (X.loadBP (k := 2) (vs := [.int .i64 (x.Second.Column), .int .i64 (x.Second.Ticks.Lo), .int .i64 (x.Second.Ticks.Hi)]) Try.isAgg33 Try.sizeOf33 rfl rfl rfl rfl) (by decide) ?_
    refine WL.x (X.call Try.call56 rfl (agree56 _ _ c.D ⟨_, _, rfl, hs2, hs4⟩ _ x.First rfl _ x.Second rfl )) (by decide) ?_
    refine WL.x (X.move rfl) (by decide) ?_
    refine WL.x (X.extract rfl rfl) (by decide) ?_
    refine WL.x (X.extract rfl rfl) (by decide) ?_
    refine WL.x (X.assign rfl) (by decide) ?_
    refine WL.x (X.assign rfl) (by decide) ?_
    refine WL.nil ?_
    refine WK.nThen ?_
    refine WC.seq ?_
    refine WC.region ?_
    refine WL.x (X.field Try.runUnderlying28 rfl Try.sizeOf25 rfl) (by decide) ?_
    refine WL.x (X.loadBP (k := 3) (vs := [v1, v3]) Try.isAgg25 Try.sizeOf25 rfl rfl rfl rfl) (by decide) ?_
    refine WL.x (X.field Try.runUnderlying36 rfl Try.sizeOf34 rfl) (by decide) ?_
    refine WL.x (X.loadBP (k := 2) (vs := [.int .i64 (x.Stop.Column), .int .i64 (x.Stop.Ticks.Lo), .int .i64 (x.Stop.Ticks.Hi)]) Try.isAgg34 Try.sizeOf34 rfl rfl rfl rfl) (by decide) ?_
    refine WL.tm (T.call Try.call57 rfl (wind57 _ _ c.D ⟨_, _, rfl, hs2, hs4⟩ _ x.Stop rfl )) (by decide) fun m24 r25 hle26 hR27 => ?_
    obtain ⟨c28, rfl, hc29⟩ := hR27
    replace hs2 := hs2.mono hle26
    replace hs4 := hs4.mono hle26
    replace hs6 := hs6.mono hle26
    replace hs11 := hs11.mono hle26
    replace hs13 := hs13.mono hle26
    replace hs15 := hs15.mono hle26
    obtain ⟨v30, v32, rfl, hs31, hs33⟩ := hc29
    have hl34 := hs31.le
    have hl35 := hs33.le
    refine WL.x (X.move rfl) (by decide) ?_
    refine WL.x (X.extract rfl rfl) (by decide) ?_
    refine WL.x (X.extract rfl rfl) (by decide) ?_
    refine WL.tn (T.alloc Try.zeroValue25 rfl) (by decide) fun b36 => ?_
    refine WL.ts (T.storeBA (k := 0) Try.sizeOf25 rfl rfl rfl (one_cons hs31.one (one_cons hs33.one one_nil)) rfl rfl) ?_
    refine WL.x (X.assign rfl) (by decide) ?_
    refine WL.nil ?_
    refine WK.nThen ?_
    refine WC.seq ?_
    refine WC.region ?_
    refine WL.x (X.field Try.runUnderlying28 rfl Try.sizeOf25 rfl) (by decide) ?_
    refine WL.x (X.loadBP (k := 4) (vs := [v1, v3]) Try.isAgg25 Try.sizeOf25 rfl rfl rfl rfl) (by decide) ?_
    refine WL.x (X.field Try.runUnderlying36 rfl Try.sizeOf34 rfl) (by decide) ?_
    refine WL.x (X.loadBP (k := 3) (vs := [.int .i64 (x.Stop.Column), .int .i64 (x.Stop.Ticks.Lo), .int .i64 (x.Stop.Ticks.Hi)]) Try.isAgg34 Try.sizeOf34 rfl rfl rfl rfl) (by decide) ?_
    refine WL.tm (T.call Try.call58 rfl (wind58 _ _ c.D ⟨_, _, rfl, hs2, hs4⟩ _ x.Stop rfl )) (by decide) fun m37 r38 hle39 hR40 => ?_
    obtain ⟨c41, rfl, hc42⟩ := hR40
    replace hs2 := hs2.mono hle39
    replace hs4 := hs4.mono hle39
    replace hs6 := hs6.mono hle39
    replace hs11 := hs11.mono hle39
    replace hs13 := hs13.mono hle39
    replace hs15 := hs15.mono hle39
    replace hs31 := hs31.mono hle39
    replace hs33 := hs33.mono hle39
    obtain ⟨v43, v45, rfl, hs44, hs46⟩ := hc42
    have hl47 := hs44.le
    have hl48 := hs46.le
    refine WL.x (X.move rfl) (by decide) ?_
    refine WL.x (X.extract rfl rfl) (by decide) ?_
    refine WL.x (X.extract rfl rfl) (by decide) ?_
    refine WL.tn (T.alloc Try.zeroValue25 rfl) (by decide) fun b49 => ?_
    refine WL.ts (T.storeBA (k := 0) Try.sizeOf25 rfl rfl rfl (one_cons hs44.one (one_cons hs46.one one_nil)) rfl rfl) ?_
    refine WL.x (X.assign rfl) (by decide) ?_
    refine WL.nil ?_
    refine WK.nThen ?_
    refine WC.seq ?_
    refine WC.region ?_
    refine WL.x (X.move rfl) (by decide) ?_
    refine WL.x (X.move rfl) (by decide) ?_
    refine WL.yes rfl rfl ?_
    refine WL.x (X.move rfl) (by decide) ?_
    refine WL.yes rfl rfl ?_
    refine WL.x (X.move rfl) (by decide) ?_
    refine WL.yes rfl rfl ?_
    refine WL.x (OpX.t (X.eqlB Try.underlying4 rfl rfl) rfl) (by decide) ?_
    refine WL.x (X.pickT rfl rfl rfl) (by decide) ?_
    refine WL.x (X.move rfl) (by decide) ?_
    refine WL.yes rfl rfl ?_
    refine WL.x (X.move rfl) (by decide) ?_
    refine WL.yes rfl rfl ?_
    refine WL.x (X.move rfl) (by decide) ?_
    refine WL.yes rfl rfl ?_
    refine WL.x (OpX.t (X.eql rfl rfl) rfl) (by decide) ?_
    refine WL.x (X.pickT rfl rfl rfl) (by decide) ?_
    refine WL.x (X.move rfl) (by decide) ?_
    refine WL.yes rfl rfl ?_
    refine WL.x (X.loadBA (k := 1) Try.isAgg25 Try.sizeOf25 rfl rfl rfl) (by decide) ?_
    refine WL.yes rfl rfl ?_
    refine WL.x (X.loadBA (k := 0) Try.isAgg25 Try.sizeOf25 rfl rfl rfl) (by decide) ?_
    refine WL.yes rfl rfl ?_
    refine WL.x (OpX.t (X.call Try.call59 rfl (same59 _ _ ((winR c.D x.Stop).1) ⟨_, _, rfl, hs31, hs33⟩ _ ((winR c.D x.Stop).1) ⟨_, _, rfl, hs44, hs46⟩ )) rfl) (by decide) ?_
    refine WL.x (X.pickT rfl rfl rfl) (by decide) ?_
    refine WL.x (X.move rfl) (by decide) ?_
    refine WL.yes rfl rfl ?_
    refine WL.x (X.move rfl) (by decide) ?_
    refine WL.yes rfl rfl ?_
    refine WL.x (X.move rfl) (by decide) ?_
    refine WL.yes rfl rfl ?_
    refine WL.x (OpX.t (X.eql rfl rfl) rfl) (by decide) ?_
    refine WL.x (X.pickT rfl rfl rfl) (by decide) ?_
    refine WL.x (X.assign rfl) (by decide) ?_
    refine WL.nil ?_
    refine WK.nThen ?_
    refine WC.ret ?_
    refine WK.ret1 rfl rfl (fun w' hw' => Ret.exact hw' ?_)
    first | rfl | (exfalso; omega) | (exfalso; contradiction) | exact (bool_true (by omega)).symm
  refine WL.x (X.not rfl) (by decide) ?_
  refine WL.nil ?_
  refine WK.nThen ?_
  refine WC.condT rfl ?_
  refine WC.seq ?_
  refine WC.region ?_
  refine WL.x (X.move rfl) (by decide) ?_
  refine WL.x (X.assign rfl) (by decide) ?_
  refine WL.nil ?_
  refine WK.nThen ?_
  refine WC.ret ?_
  refine WK.rThen ?_
  refine WK.ret1 rfl rfl (fun w' hw' => Ret.exact hw' ?_)
  first | rfl | (exfalso; omega) | (exfalso; contradiction) | exact (bool_true (by omega)).symm
end Go.Proofs.C2
