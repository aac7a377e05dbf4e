import Derived.Test.YtmnipmbgdbdjeaaC2Br
import Derived.Test.YtmnipmbgdbdjeaaC2W10
import Derived.Test.YtmnipmbgdbdjeaaC2LK
/- The walk of the statement ClocksExact: its function answers true. -/
namespace Go.Proofs.C2
open Go Go.Kx
set_option linter.unusedSimpArgs false
set_option linter.unusedVariables false
set_option maxRecDepth 20000 in
set_option maxHeartbeats 4000000 in
theorem law9 (m : Mem) (cc : List Value) (c : Clk) (hc : Enc.rd m cc c) (cx : List Value) (x : Ask) (hx : Enc.rd m cx x) (third : Int) (n : Int)  (ok0 : Rng.ok c) (ok1 : Rng.ok x) (lo2 : -9223372036854775808 ≤ third) (hi2 : third ≤ 9223372036854775807) (lo3 : -9223372036854775808 ≤ n) (hi3 : n ≤ 9223372036854775807) : Exact Try.prog 9 #[.agg cc.toArray, .agg cx.toArray, .int .i64 (third), .int .i64 (n)] m (.bool true) := by
  obtain ⟨v1, v3, v5, rfl, hs2, hs4, hs6⟩ := hc
  have hl7 := hs2.le
  have hl8 := hs4.le
  have hl9 := hs6.le
  obtain ⟨v10, v12, v14, rfl, hs11, hs13, hs15⟩ := hx
  have hl16 := hs11.le
  have hl17 := hs13.le
  have hl18 := hs15.le
  refine Exact.start Try.func9 rfl Try.ntmps9 rfl fun wld => ?_
  refine WC.seq ?_
  refine WC.region ?_
  refine WL.tn (T.boxB rfl rfl) (by decide) fun b19 => ?_
  refine WL.tn (T.boxB rfl rfl) (by decide) fun b20 => ?_
  refine WL.x (X.assign rfl) (by decide) ?_
  refine WL.nil ?_
  refine WK.nThen ?_
  refine WC.seq ?_
  refine WC.region ?_
  refine WL.x (X.call Try.call19 rfl (awake19 _  )) (by decide) ?_
  refine WL.x (X.assign rfl) (by decide) ?_
  refine WL.nil ?_
  refine WK.nThen ?_
  refine WC.seq ?_
  refine WC.seq ?_
  refine WC.region ?_
  refine WL.x (X.loadBA (k := 1) Try.isAgg28 Try.sizeOf28 rfl rfl rfl) (by decide) ?_
  refine WL.cond (X.call Try.call20 rfl (few20 _ _ c ⟨_, _, _, rfl, hs2, hs4, hs6⟩ )) (by decide) (fun h21 => ?_) (fun h21 => ?_)
  · refine WL.x (X.not rfl) (by decide) ?_
    refine WL.x (X.move rfl) (by decide) ?_
    refine WL.yes rfl rfl ?_
    refine WL.x (X.field Try.runUnderlying28 rfl Try.sizeOf26 rfl) (by decide) ?_
    refine WL.yes rfl rfl ?_
    refine WL.x (X.loadB (k := 1) Try.isAgg26 rfl rfl rfl) (by decide) ?_
    refine WL.yes rfl rfl ?_
    refine WL.x (X.len Try.runUnderlying26 rfl hs6) (by decide) ?_
    refine WL.yes rfl rfl ?_
    refine WL.cond (X.gtr rfl rfl) (by decide) (fun h22 => ?_) (fun h22 => ?_)
    · refine WL.x (X.pickF rfl rfl rfl) (by decide) ?_
      refine WL.nil ?_
      refine WK.nThen ?_
      refine WC.condT rfl ?_
      refine WC.seq ?_
      refine WC.region ?_
      refine WL.x (X.move rfl) (by decide) ?_
      refine WL.x (X.assign rfl) (by decide) ?_
      refine WL.nil ?_
      refine WK.nThen ?_
      refine WC.ret ?_
      refine WK.rThen ?_
      refine WK.ret1 rfl rfl (fun w' hw' => Ret.exact hw' ?_)
      first | rfl | (exfalso; omega) | (exfalso; contradiction) | (exfalso; have q_ := hz6 (by omega); contradiction) | exact (bool_true (by first | omega | assumption)).symm
    refine WL.x (X.pickF rfl rfl rfl) (by decide) ?_
    refine WL.nil ?_
    refine WK.nThen ?_
    refine WC.condF rfl ?_
    refine WC.skip ?_
    refine WK.nThen ?_
    refine WC.seq ?_
    refine WC.region ?_
    refine WL.x (X.field Try.runUnderlying28 rfl Try.sizeOf25 rfl) (by decide) ?_
    refine WL.x (X.loadBP (k := 1) (vs := [v1, v3]) Try.isAgg25 Try.sizeOf25 rfl rfl rfl rfl) (by decide) ?_
    refine WL.x (X.field Try.runUnderlying28 rfl Try.sizeOf26 rfl) (by decide) ?_
    refine WL.x (X.loadB (k := 1) Try.isAgg26 rfl rfl rfl) (by decide) ?_
    refine WL.x (X.field Try.runUnderlying36 rfl Try.sizeOf3 rfl) (by decide) ?_
    refine WL.x (X.loadB (k := 0) Try.isAgg3 rfl rfl rfl) (by decide) ?_
    refine WL.x (X.field Try.runUnderlying36 rfl Try.sizeOf3 rfl) (by decide) ?_
    refine WL.x (X.loadB (k := 0) Try.isAgg3 rfl rfl rfl) (by decide) ?_
    refine WL.x (X.call Try.call21 rfl (between21 _ _ c.D ⟨_, _, rfl, hs2, hs4⟩ _ _ hs6 _ _ )) (by decide) ?_
    refine WL.x (X.move rfl) (by decide) ?_
    refine WL.x (X.extract rfl rfl) (by decide) ?_
    refine WL.x (X.extract rfl rfl) (by decide) ?_
    refine WL.tn (T.alloc Try.zeroValue31 rfl) (by decide) fun b23 => ?_
    refine WL.ts (T.storeBA (k := 0) Try.sizeOf31 rfl rfl rfl (one_cons rfl (one_cons rfl one_nil)) rfl rfl) ?_
    refine WL.x (X.assign rfl) (by decide) ?_
    refine WL.nil ?_
    refine WK.nThen ?_
    refine WC.seq ?_
    refine WC.region ?_
    refine WL.x (X.field Try.runUnderlying28 rfl Try.sizeOf25 rfl) (by decide) ?_
    refine WL.x (X.loadBP (k := 2) (vs := [v1, v3]) Try.isAgg25 Try.sizeOf25 rfl rfl rfl rfl) (by decide) ?_
    refine WL.x (X.field Try.runUnderlying28 rfl Try.sizeOf26 rfl) (by decide) ?_
    refine WL.x (X.loadB (k := 2) Try.isAgg26 rfl rfl rfl) (by decide) ?_
    refine WL.x (X.field Try.runUnderlying36 rfl Try.sizeOf3 rfl) (by decide) ?_
    refine WL.x (X.loadB (k := 1) Try.isAgg3 rfl rfl rfl) (by decide) ?_
    refine WL.x (X.field Try.runUnderlying36 rfl Try.sizeOf3 rfl) (by decide) ?_
    refine WL.x (X.loadB (k := 1) Try.isAgg3 rfl rfl rfl) (by decide) ?_
    refine WL.x (X.call Try.call21 rfl (between21 _ _ c.D ⟨_, _, rfl, hs2, hs4⟩ _ _ hs6 _ _ )) (by decide) ?_
    refine WL.x (X.move rfl) (by decide) ?_
    refine WL.x (X.extract rfl rfl) (by decide) ?_
    refine WL.x (X.extract rfl rfl) (by decide) ?_
    refine WL.tn (T.alloc Try.zeroValue31 rfl) (by decide) fun b24 => ?_
    refine WL.ts (T.storeBA (k := 0) Try.sizeOf31 rfl rfl rfl (one_cons rfl (one_cons rfl one_nil)) rfl rfl) ?_
    refine WL.x (X.assign rfl) (by decide) ?_
    refine WL.nil ?_
    refine WK.nThen ?_
    refine WC.seq ?_
    refine WC.region ?_
    refine WL.x (X.field Try.runUnderlying28 rfl Try.sizeOf25 rfl) (by decide) ?_
    refine WL.x (X.loadBP (k := 3) (vs := [v1, v3]) Try.isAgg25 Try.sizeOf25 rfl rfl rfl rfl) (by decide) ?_
    refine WL.x (X.field Try.runUnderlying28 rfl Try.sizeOf26 rfl) (by decide) ?_
    refine WL.x (X.loadB (k := 3) Try.isAgg26 rfl rfl rfl) (by decide) ?_
    refine WL.x (X.field Try.runUnderlying36 rfl Try.sizeOf3 rfl) (by decide) ?_
    refine WL.x (X.loadB (k := 2) Try.isAgg3 rfl rfl rfl) (by decide) ?_
    refine WL.x (X.call Try.call37 rfl (span37 _ _ c.D ⟨_, _, rfl, hs2, hs4⟩ _ _ hs6 _ )) (by decide) ?_
    refine WL.x (X.move rfl) (by decide) ?_
    refine WL.x (X.extract rfl rfl) (by decide) ?_
    refine WL.x (X.extract rfl rfl) (by decide) ?_
    refine WL.tn (T.alloc Try.zeroValue31 rfl) (by decide) fun b25 => ?_
    refine WL.ts (T.storeBA (k := 0) Try.sizeOf31 rfl rfl rfl (one_cons rfl (one_cons rfl one_nil)) rfl rfl) ?_
    refine WL.x (X.assign rfl) (by decide) ?_
    refine WL.nil ?_
    refine WK.nThen ?_
    refine WC.seq ?_
    refine WC.seq ?_
    refine WC.region ?_
    refine WL.x (X.move rfl) (by decide) ?_
    refine WL.condn (X.neq rfl rfl) (by decide) (fun h26 => ?_) (fun h26 => ?_)
    · refine WL.nil ?_
      refine WK.nThen ?_
      refine WC.condT rfl ?_
      refine WC.seq ?_
      have hq := ex_sym c.D c.M x.A x.B
      refine WC.region ?_
      refine WL.x (X.move rfl) (by decide) ?_
      refine WL.x (X.move rfl) (by decide) ?_
      refine WL.yes rfl rfl ?_
      refine WL.x (X.move rfl) (by decide) ?_
      refine WL.yes rfl rfl ?_
      refine WL.x (X.move rfl) (by decide) ?_
      refine WL.yes rfl rfl ?_
      refine WL.x (X.eql rfl rfl) (by decide) ?_
      refine WL.x (X.pickT rfl rfl rfl) (by decide) ?_
      refine WL.x (X.assign rfl) (by decide) ?_
      refine WL.nil ?_
      refine WK.nThen ?_
      refine WC.ret ?_
      refine WK.rThen ?_
      refine WK.ret1 rfl rfl (fun w' hw' => Ret.exact hw' ?_)
      first | rfl | (exfalso; omega) | (exfalso; contradiction) | (exfalso; have q_ := hz6 (by omega); contradiction) | exact (bool_true (by first | omega | assumption)).symm
    refine WL.nil ?_
    refine WK.nThen ?_
    refine WC.condF rfl ?_
    refine WC.skip ?_
    refine WK.nThen ?_
    refine WC.seq ?_
    refine WC.seq ?_
    have hb : (betR c.D c.M x.A x.B).2 = 0 := (by omega)
    have hz := ex_zero hb
    have hz1 := hz.1.1
    have hz2 := hz.1.2
    have hz3 := hz.2.1
    have hz4 := hz.2.2.1
    have hz5 := hz.2.2.2.1
    have hz6 := hz.2.2.2.2
    have hsb := span_bd hz2
    refine WC.region ?_
    refine WL.x (X.move rfl) (by decide) ?_
    refine WL.condn (X.neq rfl rfl) (by decide) (fun h27 => ?_) (fun h27 => ?_)
    · refine WL.x (X.move rfl) (by decide) ?_
      refine WL.no rfl rfl rfl (by decide) ?_
      refine WL.no rfl rfl rfl (by decide) ?_
      refine WL.x (X.pickT rfl rfl rfl) (by decide) ?_
      refine WL.x (X.move rfl) (by decide) ?_
      refine WL.no rfl rfl rfl (by decide) ?_
      refine WL.no rfl rfl rfl (by decide) ?_
      refine WL.no rfl rfl rfl (by decide) ?_
      refine WL.no rfl rfl rfl (by decide) ?_
      refine WL.no rfl rfl rfl (by decide) ?_
      refine WL.no rfl rfl rfl (by decide) ?_
      refine WL.x (X.pickT rfl rfl rfl) (by decide) ?_
      refine WL.x (X.move rfl) (by decide) ?_
      refine WL.no rfl rfl rfl (by decide) ?_
      refine WL.no rfl rfl rfl (by decide) ?_
      refine WL.no rfl rfl rfl (by decide) ?_
      refine WL.no rfl rfl rfl (by decide) ?_
      refine WL.no rfl rfl rfl (by decide) ?_
      refine WL.no rfl rfl rfl (by decide) ?_
      refine WL.x (X.pickT rfl rfl rfl) (by decide) ?_
      refine WL.x (X.move rfl) (by decide) ?_
      refine WL.no rfl rfl rfl (by decide) ?_
      refine WL.no rfl rfl rfl (by decide) ?_
      refine WL.no rfl rfl rfl (by decide) ?_
      refine WL.no rfl rfl rfl (by decide) ?_
      refine WL.no rfl rfl rfl (by decide) ?_
      refine WL.x (X.pickT rfl rfl rfl) (by decide) ?_
      refine WL.x (X.move rfl) (by decide) ?_
      refine WL.no rfl rfl rfl (by decide) ?_
      refine WL.no rfl rfl rfl (by decide) ?_
      refine WL.no rfl rfl rfl (by decide) ?_
      refine WL.no rfl rfl rfl (by decide) ?_
      refine WL.no rfl rfl rfl (by decide) ?_
      refine WL.no rfl rfl rfl (by decide) ?_
      refine WL.noU rfl rfl (by decide) ?_
      refine WL.noU rfl rfl (by decide) ?_
      refine WL.noU rfl rfl (by decide) ?_
      refine WL.no rfl rfl rfl (by decide) ?_
      refine WL.x (X.pickT rfl rfl rfl) (by decide) ?_
      refine WL.nil ?_
      refine WK.nThen ?_
      refine WC.condT rfl ?_
      refine WC.seq ?_
      refine WC.region ?_
      refine WL.x (X.assign rfl) (by decide) ?_
      refine WL.nil ?_
      refine WK.nThen ?_
      refine WC.ret ?_
      refine WK.rThen ?_
      refine WK.ret1 rfl rfl (fun w' hw' => Ret.exact hw' ?_)
      first | rfl | (exfalso; omega) | (exfalso; contradiction) | (exfalso; have q_ := hz6 (by omega); contradiction) | exact (bool_true (by first | omega | assumption)).symm
    refine WL.x (X.move rfl) (by decide) ?_
    refine WL.yes rfl rfl ?_
    refine WL.x (X.move rfl) (by decide) ?_
    refine WL.yes rfl rfl ?_
    refine WL.condn (X.neq rfl rfl) (by decide) (fun h28 => ?_) (fun h28 => ?_)
    · refine WL.x (X.pickF rfl rfl rfl) (by decide) ?_
      refine WL.x (X.move rfl) (by decide) ?_
      refine WL.no rfl rfl rfl (by decide) ?_
      refine WL.no rfl rfl rfl (by decide) ?_
      refine WL.no rfl rfl rfl (by decide) ?_
      refine WL.no rfl rfl rfl (by decide) ?_
      refine WL.no rfl rfl rfl (by decide) ?_
      refine WL.no rfl rfl rfl (by decide) ?_
      refine WL.x (X.pickT rfl rfl rfl) (by decide) ?_
      refine WL.x (X.move rfl) (by decide) ?_
      refine WL.no rfl rfl rfl (by decide) ?_
      refine WL.no rfl rfl rfl (by decide) ?_
      refine WL.no rfl rfl rfl (by decide) ?_
      refine WL.no rfl rfl rfl (by decide) ?_
      refine WL.no rfl rfl rfl (by decide) ?_
      refine WL.no rfl rfl rfl (by decide) ?_
      refine WL.x (X.pickT rfl rfl rfl) (by decide) ?_
      refine WL.x (X.move rfl) (by decide) ?_
      refine WL.no rfl rfl rfl (by decide) ?_
      refine WL.no rfl rfl rfl (by decide) ?_
      refine WL.no rfl rfl rfl (by decide) ?_
      refine WL.no rfl rfl rfl (by decide) ?_
      refine WL.no rfl rfl rfl (by decide) ?_
      refine WL.x (X.pickT rfl rfl rfl) (by decide) ?_
      refine WL.x (X.move rfl) (by decide) ?_
      refine WL.no rfl rfl rfl (by decide) ?_
      refine WL.no rfl rfl rfl (by decide) ?_
      refine WL.no rfl rfl rfl (by decide) ?_
      refine WL.no rfl rfl rfl (by decide) ?_
      refine WL.no rfl rfl rfl (by decide) ?_
      refine WL.no rfl rfl rfl (by decide) ?_
      refine WL.noU rfl rfl (by decide) ?_
      refine WL.noU rfl rfl (by decide) ?_
      refine WL.noU rfl rfl (by decide) ?_
      refine WL.no rfl rfl rfl (by decide) ?_
      refine WL.x (X.pickT rfl rfl rfl) (by decide) ?_
      refine WL.nil ?_
      refine WK.nThen ?_
      refine WC.condT rfl ?_
      refine WC.seq ?_
      refine WC.region ?_
      refine WL.x (X.assign rfl) (by decide) ?_
      refine WL.nil ?_
      refine WK.nThen ?_
      refine WC.ret ?_
      refine WK.rThen ?_
      refine WK.ret1 rfl rfl (fun w' hw' => Ret.exact hw' ?_)
      first | rfl | (exfalso; omega) | (exfalso; contradiction) | (exfalso; have q_ := hz6 (by omega); contradiction) | exact (bool_true (by first | omega | assumption)).symm
    refine WL.x (X.pickF rfl rfl rfl) (by decide) ?_
    refine WL.x (X.move rfl) (by decide) ?_
    refine WL.yes rfl rfl ?_
    refine WL.x (X.field Try.runUnderlying31 rfl Try.sizeOf3 rfl) (by decide) ?_
    refine WL.yes rfl rfl ?_
    refine WL.x (X.loadB (k := 1) Try.isAgg3 rfl rfl rfl) (by decide) ?_
    refine WL.yes rfl rfl ?_
    refine WL.x (X.field Try.runUnderlying31 rfl Try.sizeOf3 rfl) (by decide) ?_
    refine WL.yes rfl rfl ?_
    refine WL.x (X.loadB (k := 2) Try.isAgg3 rfl rfl rfl) (by decide) ?_
    refine WL.yes rfl rfl ?_
    refine WL.x (X.neg rfl (by omega) (by omega)) (by decide) ?_
    refine WL.yes rfl rfl ?_
    refine WL.condn (X.neq rfl rfl) (by decide) (fun h29 => ?_) (fun h29 => ?_)
    · refine WL.x (X.pickF rfl rfl rfl) (by decide) ?_
      refine WL.x (X.move rfl) (by decide) ?_
      refine WL.no rfl rfl rfl (by decide) ?_
      refine WL.no rfl rfl rfl (by decide) ?_
      refine WL.no rfl rfl rfl (by decide) ?_
      refine WL.no rfl rfl rfl (by decide) ?_
      refine WL.no rfl rfl rfl (by decide) ?_
      refine WL.no rfl rfl rfl (by decide) ?_
      refine WL.x (X.pickT rfl rfl rfl) (by decide) ?_
      refine WL.x (X.move rfl) (by decide) ?_
      refine WL.no rfl rfl rfl (by decide) ?_
      refine WL.no rfl rfl rfl (by decide) ?_
      refine WL.no rfl rfl rfl (by decide) ?_
      refine WL.no rfl rfl rfl (by decide) ?_
      refine WL.no rfl rfl rfl (by decide) ?_
      refine WL.x (X.pickT rfl rfl rfl) (by decide) ?_
      refine WL.x (X.move rfl) (by decide) ?_
      refine WL.no rfl rfl rfl (by decide) ?_
      refine WL.no rfl rfl rfl (by decide) ?_
      refine WL.no rfl rfl rfl (by decide) ?_
      refine WL.no rfl rfl rfl (by decide) ?_
      refine WL.no rfl rfl rfl (by decide) ?_
      refine WL.no rfl rfl rfl (by decide) ?_
      refine WL.noU rfl rfl (by decide) ?_
      refine WL.noU rfl rfl (by decide) ?_
      refine WL.noU rfl rfl (by decide) ?_
      refine WL.no rfl rfl rfl (by decide) ?_
      refine WL.x (X.pickT rfl rfl rfl) (by decide) ?_
      refine WL.nil ?_
      refine WK.nThen ?_
      refine WC.condT rfl ?_
      refine WC.seq ?_
      refine WC.region ?_
      refine WL.x (X.assign rfl) (by decide) ?_
      refine WL.nil ?_
      refine WK.nThen ?_
      refine WC.ret ?_
      refine WK.rThen ?_
      refine WK.ret1 rfl rfl (fun w' hw' => Ret.exact hw' ?_)
      first | rfl | (exfalso; omega) | (exfalso; contradiction) | (exfalso; have q_ := hz6 (by omega); contradiction) | exact (bool_true (by first | omega | assumption)).symm
    refine WL.x (X.pickF rfl rfl rfl) (by decide) ?_
    refine WL.x (X.move rfl) (by decide) ?_
    refine WL.yes rfl rfl ?_
    refine WL.x (X.field Try.runUnderlying31 rfl Try.sizeOf3 rfl) (by decide) ?_
    refine WL.yes rfl rfl ?_
    refine WL.x (X.loadB (k := 1) Try.isAgg3 rfl rfl rfl) (by decide) ?_
    refine WL.yes rfl rfl ?_
    refine WL.x (X.field Try.runUnderlying31 rfl Try.sizeOf3 rfl) (by decide) ?_
    refine WL.yes rfl rfl ?_
    refine WL.x (X.loadB (k := 2) Try.isAgg3 rfl rfl rfl) (by decide) ?_
    refine WL.yes rfl rfl ?_
    refine WL.x (X.neg rfl (by omega) (by omega)) (by decide) ?_
    refine WL.yes rfl rfl ?_
    refine WL.condn (X.neq rfl rfl) (by decide) (fun h30 => ?_) (fun h30 => ?_)
    · refine WL.x (X.pickF rfl rfl rfl) (by decide) ?_
      refine WL.x (X.move rfl) (by decide) ?_
      refine WL.no rfl rfl rfl (by decide) ?_
      refine WL.no rfl rfl rfl (by decide) ?_
      refine WL.no rfl rfl rfl (by decide) ?_
      refine WL.no rfl rfl rfl (by decide) ?_
      refine WL.no rfl rfl rfl (by decide) ?_
      refine WL.x (X.pickT rfl rfl rfl) (by decide) ?_
      refine WL.x (X.move rfl) (by decide) ?_
      refine WL.no rfl rfl rfl (by decide) ?_
      refine WL.no rfl rfl rfl (by decide) ?_
      refine WL.no rfl rfl rfl (by decide) ?_
      refine WL.no rfl rfl rfl (by decide) ?_
      refine WL.no rfl rfl rfl (by decide) ?_
      refine WL.no rfl rfl rfl (by decide) ?_
      refine WL.noU rfl rfl (by decide) ?_
      refine WL.noU rfl rfl (by decide) ?_
      refine WL.noU rfl rfl (by decide) ?_
      refine WL.no rfl rfl rfl (by decide) ?_
      refine WL.x (X.pickT rfl rfl rfl) (by decide) ?_
      refine WL.nil ?_
      refine WK.nThen ?_
      refine WC.condT rfl ?_
      refine WC.seq ?_
      refine WC.region ?_
      refine WL.x (X.assign rfl) (by decide) ?_
      refine WL.nil ?_
      refine WK.nThen ?_
      refine WC.ret ?_
      refine WK.rThen ?_
      refine WK.ret1 rfl rfl (fun w' hw' => Ret.exact hw' ?_)
      first | rfl | (exfalso; omega) | (exfalso; contradiction) | (exfalso; have q_ := hz6 (by omega); contradiction) | exact (bool_true (by first | omega | assumption)).symm
    refine WL.x (X.pickF rfl rfl rfl) (by decide) ?_
    refine WL.x (X.move rfl) (by decide) ?_
    refine WL.yes rfl rfl ?_
    refine WL.x (X.field Try.runUnderlying31 rfl Try.sizeOf3 rfl) (by decide) ?_
    refine WL.yes rfl rfl ?_
    refine WL.x (X.loadB (k := 2) Try.isAgg3 rfl rfl rfl) (by decide) ?_
    refine WL.yes rfl rfl ?_
    refine WL.x (X.field Try.runUnderlying31 rfl Try.sizeOf3 rfl) (by decide) ?_
    refine WL.yes rfl rfl ?_
    refine WL.x (X.loadB (k := 2) Try.isAgg3 rfl rfl rfl) (by decide) ?_
    refine WL.yes rfl rfl ?_
    refine WL.cond (X.gtr rfl rfl) (by decide) (fun h31 => ?_) (fun h31 => ?_)
    · refine WL.x (X.pickF rfl rfl rfl) (by decide) ?_
      refine WL.x (X.move rfl) (by decide) ?_
      refine WL.no rfl rfl rfl (by decide) ?_
      refine WL.no rfl rfl rfl (by decide) ?_
      refine WL.no rfl rfl rfl (by decide) ?_
      refine WL.no rfl rfl rfl (by decide) ?_
      refine WL.no rfl rfl rfl (by decide) ?_
      refine WL.no rfl rfl rfl (by decide) ?_
      refine WL.noU rfl rfl (by decide) ?_
      refine WL.noU rfl rfl (by decide) ?_
      refine WL.noU rfl rfl (by decide) ?_
      refine WL.no rfl rfl rfl (by decide) ?_
      refine WL.x (X.pickT rfl rfl rfl) (by decide) ?_
      refine WL.nil ?_
      refine WK.nThen ?_
      refine WC.condT rfl ?_
      refine WC.seq ?_
      refine WC.region ?_
      refine WL.x (X.assign rfl) (by decide) ?_
      refine WL.nil ?_
      refine WK.nThen ?_
      refine WC.ret ?_
      refine WK.rThen ?_
      refine WK.ret1 rfl rfl (fun w' hw' => Ret.exact hw' ?_)
      first | rfl | (exfalso; omega) | (exfalso; contradiction) | (exfalso; have q_ := hz6 (by omega); contradiction) | exact (bool_true (by first | omega | assumption)).symm
    refine WL.x (X.pickF rfl rfl rfl) (by decide) ?_
    refine WL.x (X.move rfl) (by decide) ?_
    refine WL.yes rfl rfl ?_
    refine WL.x (X.field Try.runUnderlying36 rfl Try.sizeOf3 rfl) (by decide) ?_
    refine WL.yes rfl rfl ?_
    refine WL.x (X.loadB (k := 3) Try.isAgg3 rfl rfl rfl) (by decide) ?_
    refine WL.yes rfl rfl ?_
    refine WL.x (X.field Try.runUnderlying36 rfl Try.sizeOf3 rfl) (by decide) ?_
    refine WL.yes rfl rfl ?_
    refine WL.x (X.loadB (k := 3) Try.isAgg3 rfl rfl rfl) (by decide) ?_
    refine WL.yes rfl rfl ?_
    refine WL.cond (X.eql rfl rfl) (by decide) (fun h32 => ?_) (fun h32 => ?_)
    · refine WL.yes rfl rfl ?_
      refine WL.x (X.move rfl) (by decide) ?_
      refine WL.yes rfl rfl ?_
      refine WL.x (X.loadBA (k := 2) Try.isAgg31 Try.sizeOf31 rfl rfl rfl) (by decide) ?_
      refine WL.yes rfl rfl ?_
      refine WL.x (V := Value.agg [.int .i64 (0), .int .i64 (0)].toArray) (X.build Try.zeroValue31 Try.runUnderlying31 (places31 _ Try.underlying31) rfl rfl) (by decide) ?_
      refine WL.yes rfl rfl ?_
      refine WL.condn (X.neqS (a := (betR c.D c.M x.A x.B).1) (b := (Span.mk (0) (0))) gd31 (fun w => eqS31 9998 _ _ w) rfl rfl) (by decide) (fun h33 => ?_) (fun h33 => ?_)
      · refine WL.yes rfl rfl ?_
        refine WL.x (X.pickT rfl rfl rfl) (by decide) ?_
        refine WL.x (X.pickF rfl rfl rfl) (by decide) ?_
        refine WL.nil ?_
        refine WK.nThen ?_
        refine WC.condT rfl ?_
        refine WC.seq ?_
        refine WC.region ?_
        refine WL.x (X.assign rfl) (by decide) ?_
        refine WL.nil ?_
        refine WK.nThen ?_
        refine WC.ret ?_
        refine WK.rThen ?_
        refine WK.ret1 rfl rfl (fun w' hw' => Ret.exact hw' ?_)
        first | rfl | (exfalso; omega) | (exfalso; contradiction) | (exfalso; have q_ := hz6 (by omega); contradiction) | exact (bool_true (by first | omega | assumption)).symm
      refine WL.yes rfl rfl ?_
      refine WL.x (X.pickT rfl rfl rfl) (by decide) ?_
      refine WL.x (X.pickF rfl rfl rfl) (by decide) ?_
      refine WL.nil ?_
      refine WK.nThen ?_
      refine WC.condF rfl ?_
      refine WC.skip ?_
      refine WK.nThen ?_
      refine WC.seq ?_
      refine WC.region ?_
      refine WL.x (X.assign rfl) (by decide) ?_
      refine WL.nil ?_
      refine WK.nThen ?_
      refine WC.seq ?_
      refine WC.seq ?_
      refine WC.region ?_
      refine WL.x (X.field Try.runUnderlying31 rfl Try.sizeOf3 rfl) (by decide) ?_
      refine WL.x (X.loadB (k := 0) Try.isAgg3 rfl rfl rfl) (by decide) ?_
      refine WL.x (X.assign rfl) (by decide) ?_
      refine WL.nil ?_
      refine WK.nThen ?_
      refine WC.block ?_
      refine WC.loop (G := Int × Mem) (fun (t, mm) => ((spanR c.D c.M x.A).1.Hi + 1 - t).toNat) (fun (t, mm) => mm) (fun (t, mm) => [blk b25 31 [.int .i64 ((spanR c.D c.M x.A).1.Lo), .int .i64 ((spanR c.D c.M x.A).1.Hi)], blk b24 31 [.int .i64 ((betR c.D c.M x.B x.A).1.Lo), .int .i64 ((betR c.D c.M x.B x.A).1.Hi)], blk b23 31 [.int .i64 ((betR c.D c.M x.A x.B).1.Lo), .int .i64 ((betR c.D c.M x.A x.B).1.Hi)], blk b20 36 [.int .i64 (x.A), .int .i64 (x.B), .int .i64 (x.Tick), v10, v12, v14, .int .i64 (x.First.Column), .int .i64 (x.First.Ticks.Lo), .int .i64 (x.First.Ticks.Hi), .int .i64 (x.Second.Column), .int .i64 (x.Second.Ticks.Lo), .int .i64 (x.Second.Ticks.Hi), .int .i64 (x.Stop.Column), .int .i64 (x.Stop.Ticks.Lo), .int .i64 (x.Stop.Ticks.Hi)], blk b19 28 [v1, v3, v5]]) (fun (t, mm) => [(2, .int .i64 (third)), (3, .int .i64 (n)), (4, .pointer (some ⟨b19, 0, none⟩)), (5, .pointer (some ⟨b20, 0, none⟩)), (9, .bool true), (10, .pointer (some ⟨b23, 0, none⟩)), (14, .pointer (some ⟨b25, 0, none⟩)), (16, .bool false), (17, .int .i64 (t))]) (fun (t, mm) => m.le mm ∧ ((spanR c.D c.M x.A).1.Lo ≤ t ∧ t ≤ (spanR c.D c.M x.A).1.Hi + 1) ∧ ∀ q, (spanR c.D c.M x.A).1.Lo ≤ q → q < t → ¬ ((0 ≤ q + n ∧ q + n ≤ 400) ∧ canR c [⟨x.A, ⟨q, q⟩⟩, ⟨x.B, ⟨q + n, q + n⟩⟩] = true)) (((spanR c.D c.M x.A).1.Lo, m)) rfl (.refl _) (.cons rfl (.cons rfl (.cons rfl (.cons rfl (.cons rfl (.cons rfl (.cons rfl (.cons rfl (.cons rfl .nil))))))))) ?_ ?_
      · exact ⟨Mem.le_refl _, by omega, fun q h1_ h2_ => absurd h2_ (by omega)⟩
      · rintro ⟨t, mm⟩ hF34
        show WK _ _ mm [blk b25 31 [.int .i64 ((spanR c.D c.M x.A).1.Lo), .int .i64 ((spanR c.D c.M x.A).1.Hi)], blk b24 31 [.int .i64 ((betR c.D c.M x.B x.A).1.Lo), .int .i64 ((betR c.D c.M x.B x.A).1.Hi)], blk b23 31 [.int .i64 ((betR c.D c.M x.A x.B).1.Lo), .int .i64 ((betR c.D c.M x.A x.B).1.Hi)], blk b20 36 [.int .i64 (x.A), .int .i64 (x.B), .int .i64 (x.Tick), v10, v12, v14, .int .i64 (x.First.Column), .int .i64 (x.First.Ticks.Lo), .int .i64 (x.First.Ticks.Hi), .int .i64 (x.Second.Column), .int .i64 (x.Second.Ticks.Lo), .int .i64 (x.Second.Ticks.Hi), .int .i64 (x.Stop.Column), .int .i64 (x.Stop.Ticks.Lo), .int .i64 (x.Stop.Ticks.Hi)], blk b19 28 [v1, v3, v5]] [(2, .int .i64 (third)), (3, .int .i64 (n)), (4, .pointer (some ⟨b19, 0, none⟩)), (5, .pointer (some ⟨b20, 0, none⟩)), (9, .bool true), (10, .pointer (some ⟨b23, 0, none⟩)), (14, .pointer (some ⟨b25, 0, none⟩)), (16, .bool false), (17, .int .i64 (t))] _
        replace hF34 : m.le mm ∧ ((spanR c.D c.M x.A).1.Lo ≤ t ∧ t ≤ (spanR c.D c.M x.A).1.Hi + 1) ∧ ∀ q, (spanR c.D c.M x.A).1.Lo ≤ q → q < t → ¬ ((0 ≤ q + n ∧ q + n ≤ 400) ∧ canR c [⟨x.A, ⟨q, q⟩⟩, ⟨x.B, ⟨q + n, q + n⟩⟩] = true) := hF34
        obtain ⟨hmm, ht, hall⟩ := hF34
        replace hs2 := hs2.mono hmm
        replace hs4 := hs4.mono hmm
        replace hs6 := hs6.mono hmm
        replace hs11 := hs11.mono hmm
        replace hs13 := hs13.mono hmm
        replace hs15 := hs15.mono hmm
        refine WC.seq ?_
        refine WC.seq ?_
        refine WC.region ?_
        refine WL.x (X.move rfl) (by decide) ?_
        refine WL.x (X.field Try.runUnderlying31 rfl Try.sizeOf3 rfl) (by decide) ?_
        refine WL.x (X.loadB (k := 0) Try.isAgg3 rfl rfl rfl) (by decide) ?_
        refine WL.cond (X.leq rfl rfl) (by decide) (fun h35 => ?_) (fun h35 => ?_)
        · refine WL.x (X.move rfl) (by decide) ?_
          refine WL.yes rfl rfl ?_
          refine WL.x (X.move rfl) (by decide) ?_
          refine WL.yes rfl rfl ?_
          refine WL.cond (X.geq rfl rfl) (by decide) (fun h36 => ?_) (fun h36 => ?_)
          · refine WL.x (X.pickT rfl rfl rfl) (by decide) ?_
            refine WL.x (X.move rfl) (by decide) ?_
            refine WL.yes rfl rfl ?_
            refine WL.x (X.move rfl) (by decide) ?_
            refine WL.yes rfl rfl ?_
            refine WL.cond (X.leq rfl rfl) (by decide) (fun h37 => ?_) (fun h37 => ?_)
            · refine WL.x (X.pickT rfl rfl rfl) (by decide) ?_
              refine WL.nil ?_
              refine WK.nThen ?_
              refine WC.condT rfl ?_
              refine WC.skip ?_
              refine WK.nThen ?_
              refine WC.seq ?_
              refine WC.block ?_
              refine WC.seq ?_
              refine WC.draw (π := (.cons 0 (.cons 1 (.cons 2 (.cons 3 (.cons 4 (.cons 5 (.cons 6 (.cons 7 (.cons 8 (.cons 9 (.cons 10 (.cons 11 (.cons 12 (.cons 13 (.cons 14 (.cons 15 (.cons 16 (.cons 17 (.cons 18 (.cons 19 (.cons 20 (.cons 21 (.cons 22 (.cons 23 (.cons 24 .done)))))))))))))))))))))))))) [22] [] rfl (by kernel_rfl) ?_
              refine DW.x rfl rfl (X.move rfl) (by decide) ?_
              refine DW.x rfl rfl (X.move rfl) (by decide) ?_
              refine DW.x rfl rfl (X.add rfl rfl (by omega) (by omega)) (by decide) ?_
              refine DW.cond rfl rfl (X.geq rfl rfl) (by decide) (fun h38 => ?_) (fun h38 => ?_)
              · refine DW.x rfl rfl (X.move rfl) (by decide) ?_
                refine DW.x rfl rfl (X.move rfl) (by decide) ?_
                refine DW.x rfl rfl (X.move rfl) (by decide) ?_
                refine DW.x rfl rfl (X.add rfl rfl (by omega) (by omega)) (by decide) ?_
                refine DW.cond rfl rfl (X.leq rfl rfl) (by decide) (fun h39 => ?_) (fun h39 => ?_)
                · refine DW.x rfl rfl (X.pickT rfl rfl rfl) (by decide) ?_
                  refine DW.x rfl rfl (X.move rfl) (by decide) ?_
                  refine DW.x rfl rfl (X.loadBA (k := 4) Try.isAgg28 Try.sizeOf28 rfl rfl rfl) (by decide) ?_
                  refine DW.x rfl rfl (X.field Try.runUnderlying36 rfl Try.sizeOf3 rfl) (by decide) ?_
                  refine DW.x rfl rfl (X.loadB (k := 3) Try.isAgg3 rfl rfl rfl) (by decide) ?_
                  refine DW.x rfl rfl (X.move rfl) (by decide) ?_
                  refine DW.x rfl rfl (X.call Try.call39 rfl (one39 _ _ _ )) (by decide) ?_
                  refine DW.x rfl rfl (X.field Try.runUnderlying36 rfl Try.sizeOf3 rfl) (by decide) ?_
                  refine DW.x rfl rfl (X.loadB (k := 3) Try.isAgg3 rfl rfl rfl) (by decide) ?_
                  refine DW.x rfl rfl (X.move rfl) (by decide) ?_
                  refine DW.x rfl rfl (X.move rfl) (by decide) ?_
                  refine DW.x rfl rfl (X.add rfl rfl (by omega) (by omega)) (by decide) ?_
                  refine DW.x rfl rfl (X.call Try.call39 rfl (one39 _ _ _ )) (by decide) ?_
                  refine DW.tm rfl rfl rfl (T.litM (α := Mark) (vals := [.agg [.int .i64 (x.A), .int .i64 (t), .int .i64 (t)].toArray, .agg [.int .i64 (x.B), .int .i64 ((t + n)), .int .i64 ((t + n))].toArray]) (L := [(Mark.mk (x.A) ((Span.mk (t) (t)))), (Mark.mk (x.B) ((Span.mk ((t + n)) ((t + n)))))]) sl26 rfl (.cons rfl rfl (.cons rfl rfl .nil)) rfl rfl) (by decide) (fun m40 v41 hle42 hs43 => ?_)
                  replace hs2 := hs2.mono hle42
                  replace hs4 := hs4.mono hle42
                  replace hs6 := hs6.mono hle42
                  replace hs11 := hs11.mono hle42
                  replace hs13 := hs13.mono hle42
                  replace hs15 := hs15.mono hle42
                  refine DW.condb rfl rfl (X.call Try.call30 rfl (can30 _ _ c ⟨_, _, _, rfl, hs2, hs4, hs6⟩ _ _ hs43 (by first | omega | simp) (by first | omega | simp))) (by decide) (fun h44 => ?_) (fun h44 => ?_)
                  · refine DW.x rfl rfl (X.pickT rfl rfl rfl) (by decide) ?_
                    refine DW.nil ?_
                    refine WK.nThen ?_
                    refine WC.condT rfl ?_
                    refine WC.seq ?_
                    have hin := ex_in hb (by omega) (t := t) (n := n) (by omega) (by omega) (by assumption)
                    refine WC.region ?_
                    refine WL.x (X.assign rfl) (by decide) ?_
                    refine WL.nil ?_
                    refine WK.nThen ?_
                    refine WC.exit ?_
                    refine WK.eMiss rfl ?_
                    refine WK.eThen ?_
                    refine WK.eThen ?_
                    refine WK.eHit ?_
                    refine WK.nThen ?_
                    refine WC.seq ?_
                    refine WC.seq ?_
                    refine WC.region ?_
                    refine WL.x (X.move rfl) (by decide) ?_
                    refine WL.x (X.field Try.runUnderlying31 rfl Try.sizeOf3 rfl) (by decide) ?_
                    refine WL.x (X.loadB (k := 2) Try.isAgg3 rfl rfl rfl) (by decide) ?_
                    refine WL.x (X.move rfl) (by decide) ?_
                    refine WL.cond (X.leq rfl rfl) (by decide) (fun h45 => ?_) (fun h45 => ?_)
                    · refine WL.x (X.move rfl) (by decide) ?_
                      refine WL.yes rfl rfl ?_
                      refine WL.x (X.move rfl) (by decide) ?_
                      refine WL.yes rfl rfl ?_
                      refine WL.x (X.field Try.runUnderlying31 rfl Try.sizeOf3 rfl) (by decide) ?_
                      refine WL.yes rfl rfl ?_
                      refine WL.x (X.loadB (k := 2) Try.isAgg3 rfl rfl rfl) (by decide) ?_
                      refine WL.yes rfl rfl ?_
                      refine WL.cond (X.leq rfl rfl) (by decide) (fun h46 => ?_) (fun h46 => ?_)
                      · refine WL.x (X.pickT rfl rfl rfl) (by decide) ?_
                        refine WL.x (OpX.f (X.neqB Try.underlying4 rfl rfl) (fun h => h rfl)) (by decide) ?_
                        refine WL.nil ?_
                        refine WK.nThen ?_
                        refine WC.condF rfl ?_
                        refine WC.skip ?_
                        refine WK.nThen ?_
                        refine WC.seq ?_
                        refine WC.region ?_
                        refine WL.x (X.field Try.runUnderlying28 rfl Try.sizeOf25 rfl) (by decide) ?_
                        refine WL.x (X.loadBP (k := 4) (vs := [v1, v3]) Try.isAgg25 Try.sizeOf25 rfl rfl rfl rfl) (by decide) ?_
                        refine WL.x (X.field Try.runUnderlying28 rfl Try.sizeOf26 rfl) (by decide) ?_
                        refine WL.x (X.loadB (k := 4) Try.isAgg26 rfl rfl rfl) (by decide) ?_
                        refine WL.x (X.field Try.runUnderlying36 rfl Try.sizeOf3 rfl) (by decide) ?_
                        refine WL.x (X.loadB (k := 3) Try.isAgg3 rfl rfl rfl) (by decide) ?_
                        refine WL.x (X.move rfl) (by decide) ?_
                        refine WL.x (X.call Try.call21 rfl (between21 _ _ c.D ⟨_, _, rfl, hs2, hs4⟩ _ _ hs6 _ _ )) (by decide) ?_
                        refine WL.x (X.move rfl) (by decide) ?_
                        refine WL.x (X.extract rfl rfl) (by decide) ?_
                        refine WL.x (X.extract rfl rfl) (by decide) ?_
                        refine WL.tn (T.alloc Try.zeroValue31 rfl) (by decide) fun b47 => ?_
                        refine WL.ts (T.storeBA (k := 0) Try.sizeOf31 rfl rfl rfl (one_cons rfl (one_cons rfl one_nil)) rfl rfl) ?_
                        refine WL.x (X.assign rfl) (by decide) ?_
                        refine WL.nil ?_
                        refine WK.nThen ?_
                        refine WC.seq ?_
                        refine WC.region ?_
                        refine WL.x (X.field Try.runUnderlying28 rfl Try.sizeOf25 rfl) (by decide) ?_
                        refine WL.x (X.loadBP (k := 5) (vs := [v1, v3]) Try.isAgg25 Try.sizeOf25 rfl rfl rfl rfl) (by decide) ?_
                        refine WL.x (X.field Try.runUnderlying28 rfl Try.sizeOf26 rfl) (by decide) ?_
                        refine WL.x (X.loadB (k := 5) Try.isAgg26 rfl rfl rfl) (by decide) ?_
                        refine WL.x (X.move rfl) (by decide) ?_
                        refine WL.x (X.field Try.runUnderlying36 rfl Try.sizeOf3 rfl) (by decide) ?_
                        refine WL.x (X.loadB (k := 4) Try.isAgg3 rfl rfl rfl) (by decide) ?_
                        refine WL.x (X.call Try.call21 rfl (between21 _ _ c.D ⟨_, _, rfl, hs2, hs4⟩ _ _ hs6 _ _ )) (by decide) ?_
                        refine WL.x (X.move rfl) (by decide) ?_
                        refine WL.x (X.extract rfl rfl) (by decide) ?_
                        refine WL.x (X.extract rfl rfl) (by decide) ?_
                        refine WL.tn (T.alloc Try.zeroValue31 rfl) (by decide) fun b48 => ?_
                        refine WL.ts (T.storeBA (k := 0) Try.sizeOf31 rfl rfl rfl (one_cons rfl (one_cons rfl one_nil)) rfl rfl) ?_
                        refine WL.x (X.assign rfl) (by decide) ?_
                        refine WL.nil ?_
                        refine WK.nThen ?_
                        refine WC.seq ?_
                        have htri : (betR c.D c.M x.A third).2 = 0 → (betR c.D c.M third x.B).2 = 0 → _ := fun a_ b_ => ex_tri hb a_ b_
                        have hv1 : (betR c.D c.M x.A third).2 = 0 → _ := fun h_ => (betR_zero h_).2.2.2.2.2
                        have hv2 : (betR c.D c.M third x.B).2 = 0 → _ := fun h_ => (betR_zero h_).2.2.2.2.2
                        refine WC.region ?_
                        refine WL.x (X.move rfl) (by decide) ?_
                        refine WL.x (X.move rfl) (by decide) ?_
                        refine WL.yes rfl rfl ?_
                        refine WL.x (X.move rfl) (by decide) ?_
                        refine WL.yes rfl rfl ?_
                        refine WL.condn (X.neq rfl rfl) (by decide) (fun h49 => ?_) (fun h49 => ?_)
                        · refine WL.yes rfl rfl ?_
                          refine WL.x (X.move rfl) (by decide) ?_
                          refine WL.no rfl rfl rfl (by decide) ?_
                          refine WL.no rfl rfl rfl (by decide) ?_
                          refine WL.yes rfl rfl ?_
                          refine WL.x (X.pickT rfl rfl rfl) (by decide) ?_
                          refine WL.yes rfl rfl ?_
                          refine WL.x (X.move rfl) (by decide) ?_
                          refine WL.no rfl rfl rfl (by decide) ?_
                          refine WL.no rfl rfl rfl (by decide) ?_
                          refine WL.no rfl rfl rfl (by decide) ?_
                          refine WL.no rfl rfl rfl (by decide) ?_
                          refine WL.no rfl rfl rfl (by decide) ?_
                          refine WL.no rfl rfl rfl (by decide) ?_
                          refine WL.no rfl rfl rfl (by decide) ?_
                          refine WL.no rfl rfl rfl (by decide) ?_
                          refine WL.no rfl rfl rfl (by decide) ?_
                          refine WL.noU rfl rfl (by decide) ?_
                          refine WL.noU rfl rfl (by decide) ?_
                          refine WL.noU rfl rfl (by decide) ?_
                          refine WL.noU rfl rfl (by decide) ?_
                          refine WL.noU rfl rfl (by decide) ?_
                          refine WL.noU rfl rfl (by decide) ?_
                          refine WL.noU rfl rfl (by decide) ?_
                          refine WL.noU rfl rfl (by decide) ?_
                          refine WL.no rfl rfl rfl (by decide) ?_
                          refine WL.yes rfl rfl ?_
                          refine WL.x (X.pickT rfl rfl rfl) (by decide) ?_
                          refine WL.x (X.pickT rfl rfl rfl) (by decide) ?_
                          refine WL.x (X.assign rfl) (by decide) ?_
                          refine WL.nil ?_
                          refine WK.nThen ?_
                          refine WC.ret ?_
                          refine WK.ret1 rfl rfl (fun w' hw' => Ret.exact hw' ?_)
                          first | rfl | (exfalso; omega) | (exfalso; contradiction) | (exfalso; have q_ := hz6 (by omega); contradiction) | exact (bool_true (by first | omega | assumption)).symm
                        refine WL.yes rfl rfl ?_
                        refine WL.x (X.move rfl) (by decide) ?_
                        refine WL.yes rfl rfl ?_
                        refine WL.x (X.move rfl) (by decide) ?_
                        refine WL.yes rfl rfl ?_
                        refine WL.condn (X.neq rfl rfl) (by decide) (fun h50 => ?_) (fun h50 => ?_)
                        · refine WL.yes rfl rfl ?_
                          refine WL.x (X.pickF rfl rfl rfl) (by decide) ?_
                          refine WL.yes rfl rfl ?_
                          refine WL.x (X.move rfl) (by decide) ?_
                          refine WL.no rfl rfl rfl (by decide) ?_
                          refine WL.no rfl rfl rfl (by decide) ?_
                          refine WL.no rfl rfl rfl (by decide) ?_
                          refine WL.no rfl rfl rfl (by decide) ?_
                          refine WL.no rfl rfl rfl (by decide) ?_
                          refine WL.no rfl rfl rfl (by decide) ?_
                          refine WL.no rfl rfl rfl (by decide) ?_
                          refine WL.no rfl rfl rfl (by decide) ?_
                          refine WL.no rfl rfl rfl (by decide) ?_
                          refine WL.noU rfl rfl (by decide) ?_
                          refine WL.noU rfl rfl (by decide) ?_
                          refine WL.noU rfl rfl (by decide) ?_
                          refine WL.noU rfl rfl (by decide) ?_
                          refine WL.noU rfl rfl (by decide) ?_
                          refine WL.noU rfl rfl (by decide) ?_
                          refine WL.noU rfl rfl (by decide) ?_
                          refine WL.noU rfl rfl (by decide) ?_
                          refine WL.no rfl rfl rfl (by decide) ?_
                          refine WL.yes rfl rfl ?_
                          refine WL.x (X.pickT rfl rfl rfl) (by decide) ?_
                          refine WL.x (X.pickT rfl rfl rfl) (by decide) ?_
                          refine WL.x (X.assign rfl) (by decide) ?_
                          refine WL.nil ?_
                          refine WK.nThen ?_
                          refine WC.ret ?_
                          refine WK.ret1 rfl rfl (fun w' hw' => Ret.exact hw' ?_)
                          first | rfl | (exfalso; omega) | (exfalso; contradiction) | (exfalso; have q_ := hz6 (by omega); contradiction) | exact (bool_true (by first | omega | assumption)).symm
                        refine WL.yes rfl rfl ?_
                        refine WL.x (X.pickF rfl rfl rfl) (by decide) ?_
                        refine WL.yes rfl rfl ?_
                        refine WL.x (X.move rfl) (by decide) ?_
                        refine WL.yes rfl rfl ?_
                        refine WL.x (X.field Try.runUnderlying31 rfl Try.sizeOf3 rfl) (by decide) ?_
                        refine WL.yes rfl rfl ?_
                        refine WL.x (X.loadB (k := 4) Try.isAgg3 rfl rfl rfl) (by decide) ?_
                        refine WL.yes rfl rfl ?_
                        refine WL.x (X.field Try.runUnderlying31 rfl Try.sizeOf3 rfl) (by decide) ?_
                        refine WL.yes rfl rfl ?_
                        refine WL.x (X.loadB (k := 1) Try.isAgg3 rfl rfl rfl) (by decide) ?_
                        refine WL.yes rfl rfl ?_
                        refine WL.x (X.field Try.runUnderlying31 rfl Try.sizeOf3 rfl) (by decide) ?_
                        refine WL.yes rfl rfl ?_
                        refine WL.x (X.loadB (k := 0) Try.isAgg3 rfl rfl rfl) (by decide) ?_
                        refine WL.yes rfl rfl ?_
                        refine WL.x (X.add rfl rfl (by omega) (by omega)) (by decide) ?_
                        refine WL.yes rfl rfl ?_
                        refine WL.cond (X.geq rfl rfl) (by decide) (fun h51 => ?_) (fun h51 => ?_)
                        · refine WL.yes rfl rfl ?_
                          refine WL.x (X.move rfl) (by decide) ?_
                          refine WL.yes rfl rfl ?_
                          refine WL.x (X.field Try.runUnderlying31 rfl Try.sizeOf3 rfl) (by decide) ?_
                          refine WL.yes rfl rfl ?_
                          refine WL.x (X.loadB (k := 4) Try.isAgg3 rfl rfl rfl) (by decide) ?_
                          refine WL.yes rfl rfl ?_
                          refine WL.x (X.field Try.runUnderlying31 rfl Try.sizeOf3 rfl) (by decide) ?_
                          refine WL.yes rfl rfl ?_
                          refine WL.x (X.loadB (k := 1) Try.isAgg3 rfl rfl rfl) (by decide) ?_
                          refine WL.yes rfl rfl ?_
                          refine WL.x (X.field Try.runUnderlying31 rfl Try.sizeOf3 rfl) (by decide) ?_
                          refine WL.yes rfl rfl ?_
                          refine WL.x (X.loadB (k := 0) Try.isAgg3 rfl rfl rfl) (by decide) ?_
                          refine WL.yes rfl rfl ?_
                          refine WL.x (X.add rfl rfl (by omega) (by omega)) (by decide) ?_
                          refine WL.yes rfl rfl ?_
                          refine WL.x (X.leq rfl rfl) (by decide) ?_
                          refine WL.yes rfl rfl ?_
                          refine WL.x (X.pickT rfl rfl rfl) (by decide) ?_
                          refine WL.yes rfl rfl ?_
                          refine WL.x (X.pickF rfl rfl rfl) (by decide) ?_
                          refine WL.x (X.pickT rfl rfl rfl) (by decide) ?_
                          refine WL.x (X.assign rfl) (by decide) ?_
                          refine WL.nil ?_
                          refine WK.nThen ?_
                          refine WC.ret ?_
                          refine WK.ret1 rfl rfl (fun w' hw' => Ret.exact hw' ?_)
                          first | rfl | (exfalso; omega) | (exfalso; contradiction) | (exfalso; have q_ := hz6 (by omega); contradiction) | exact (bool_true (by first | omega | assumption)).symm
                        refine WL.yes rfl rfl ?_
                        refine WL.x (X.move rfl) (by decide) ?_
                        refine WL.no rfl rfl rfl (by decide) ?_
                        refine WL.no rfl rfl rfl (by decide) ?_
                        refine WL.no rfl rfl rfl (by decide) ?_
                        refine WL.no rfl rfl rfl (by decide) ?_
                        refine WL.no rfl rfl rfl (by decide) ?_
                        refine WL.no rfl rfl rfl (by decide) ?_
                        refine WL.no rfl rfl rfl (by decide) ?_
                        refine WL.no rfl rfl rfl (by decide) ?_
                        refine WL.yes rfl rfl ?_
                        refine WL.x (X.pickF rfl rfl rfl) (by decide) ?_
                        refine WL.yes rfl rfl ?_
                        refine WL.x (X.pickF rfl rfl rfl) (by decide) ?_
                        refine WL.x (X.pickT rfl rfl rfl) (by decide) ?_
                        refine WL.x (X.assign rfl) (by decide) ?_
                        refine WL.nil ?_
                        refine WK.nThen ?_
                        refine WC.ret ?_
                        refine WK.ret1 rfl rfl (fun w' hw' => Ret.exact hw' ?_)
                        first | rfl | (exfalso; omega) | (exfalso; contradiction) | (exfalso; have q_ := hz6 (by omega); contradiction) | exact (bool_true (by first | omega | assumption)).symm
                      refine WL.x (X.pickT rfl rfl rfl) (by decide) ?_
                      refine WL.x (OpX.t (X.neqB Try.underlying4 rfl rfl) (by decide)) (by decide) ?_
                      refine WL.nil ?_
                      refine WK.nThen ?_
                      refine WC.condT rfl ?_
                      refine WC.seq ?_
                      refine WC.region ?_
                      refine WL.x (X.assign rfl) (by decide) ?_
                      refine WL.nil ?_
                      refine WK.nThen ?_
                      refine WC.ret ?_
                      refine WK.rThen ?_
                      refine WK.ret1 rfl rfl (fun w' hw' => Ret.exact hw' ?_)
                      first | rfl | (exfalso; omega) | (exfalso; contradiction) | (exfalso; have q_ := hz6 (by omega); contradiction) | exact (bool_true (by first | omega | assumption)).symm
                    refine WL.x (X.move rfl) (by decide) ?_
                    refine WL.no rfl rfl rfl (by decide) ?_
                    refine WL.no rfl rfl rfl (by decide) ?_
                    refine WL.no rfl rfl rfl (by decide) ?_
                    refine WL.no rfl rfl rfl (by decide) ?_
                    refine WL.x (X.pickF rfl rfl rfl) (by decide) ?_
                    refine WL.x (OpX.t (X.neqB Try.underlying4 rfl rfl) (by decide)) (by decide) ?_
                    refine WL.nil ?_
                    refine WK.nThen ?_
                    refine WC.condT rfl ?_
                    refine WC.seq ?_
                    refine WC.region ?_
                    refine WL.x (X.assign rfl) (by decide) ?_
                    refine WL.nil ?_
                    refine WK.nThen ?_
                    refine WC.ret ?_
                    refine WK.rThen ?_
                    refine WK.ret1 rfl rfl (fun w' hw' => Ret.exact hw' ?_)
                    first | rfl | (exfalso; omega) | (exfalso; contradiction) | (exfalso; have q_ := hz6 (by omega); contradiction) | exact (bool_true (by first | omega | assumption)).symm
                  refine DW.x rfl rfl (X.pickT rfl rfl rfl) (by decide) ?_
                  refine DW.nil ?_
                  refine WK.nThen ?_
                  refine WC.condF rfl ?_
                  refine WC.skip ?_
                  refine WK.nBlock ?_
                  refine WK.nThen ?_
                  refine WC.region ?_
                  refine WL.x (X.move rfl) (by decide) ?_
                  refine WL.x (X.add rfl rfl (by omega) (by omega)) (by decide) ?_
                  refine WL.x (X.assign rfl) (by decide) ?_
                  refine WL.nil ?_
                  refine WK.nThen ?_
                  refine WK.next ((t + 1, m40)) rfl (.refl _) (.cons rfl (.cons rfl (.cons rfl (.cons rfl (.cons rfl (.cons rfl (.cons rfl (.cons rfl (.cons rfl .nil))))))))) ?_ ?_
                  · exact ⟨Mem.le_trans hmm hle42, by omega, fun q_ h1_ h2_ => by rcases (show q_ < t ∨ q_ = t by omega) with h_ | h_; exact hall q_ h1_ h_; rw [h_]; intro hh_; first | omega | exact Bool.noConfusion (hh_.2.symm.trans ‹canR c [⟨x.A, ⟨t, t⟩⟩, ⟨x.B, ⟨t + n, t + n⟩⟩] = false›)⟩
                  · (dsimp only; omega)
                refine DW.x rfl rfl (X.pickT rfl rfl rfl) (by decide) ?_
                refine DW.x rfl rfl (X.move rfl) (by decide) ?_
                refine DW.no rfl rfl (by decide) ?_
                refine DW.no rfl rfl (by decide) ?_
                refine DW.no rfl rfl (by decide) ?_
                refine DW.no rfl rfl (by decide) ?_
                refine DW.no rfl rfl (by decide) ?_
                refine DW.no rfl rfl (by decide) ?_
                refine DW.no rfl rfl (by decide) ?_
                refine DW.no rfl rfl (by decide) ?_
                refine DW.no rfl rfl (by decide) ?_
                refine DW.no rfl rfl (by decide) ?_
                refine DW.no rfl rfl (by decide) ?_
                refine DW.no rfl rfl (by decide) ?_
                refine DW.no rfl rfl (by decide) ?_
                refine DW.x rfl rfl (X.pickF rfl rfl rfl) (by decide) ?_
                refine DW.nil ?_
                refine WK.nThen ?_
                refine WC.condF rfl ?_
                refine WC.skip ?_
                refine WK.nBlock ?_
                refine WK.nThen ?_
                refine WC.region ?_
                refine WL.x (X.move rfl) (by decide) ?_
                refine WL.x (X.add rfl rfl (by omega) (by omega)) (by decide) ?_
                refine WL.x (X.assign rfl) (by decide) ?_
                refine WL.nil ?_
                refine WK.nThen ?_
                refine WK.next ((t + 1, mm)) rfl (.refl _) (.cons rfl (.cons rfl (.cons rfl (.cons rfl (.cons rfl (.cons rfl (.cons rfl (.cons rfl (.cons rfl .nil))))))))) ?_ ?_
                · exact ⟨Mem.le_trans hmm (Mem.le_refl _), by omega, fun q_ h1_ h2_ => by rcases (show q_ < t ∨ q_ = t by omega) with h_ | h_; exact hall q_ h1_ h_; rw [h_]; intro hh_; first | omega | exact Bool.noConfusion (hh_.2.symm.trans ‹canR c [⟨x.A, ⟨t, t⟩⟩, ⟨x.B, ⟨t + n, t + n⟩⟩] = false›)⟩
                · (dsimp only; omega)
              refine DW.x rfl rfl (X.move rfl) (by decide) ?_
              refine DW.no rfl rfl (by decide) ?_
              refine DW.no rfl rfl (by decide) ?_
              refine DW.no rfl rfl (by decide) ?_
              refine DW.no rfl rfl (by decide) ?_
              refine DW.x rfl rfl (X.pickF rfl rfl rfl) (by decide) ?_
              refine DW.x rfl rfl (X.move rfl) (by decide) ?_
              refine DW.no rfl rfl (by decide) ?_
              refine DW.no rfl rfl (by decide) ?_
              refine DW.no rfl rfl (by decide) ?_
              refine DW.no rfl rfl (by decide) ?_
              refine DW.no rfl rfl (by decide) ?_
              refine DW.no rfl rfl (by decide) ?_
              refine DW.no rfl rfl (by decide) ?_
              refine DW.no rfl rfl (by decide) ?_
              refine DW.no rfl rfl (by decide) ?_
              refine DW.no rfl rfl (by decide) ?_
              refine DW.no rfl rfl (by decide) ?_
              refine DW.no rfl rfl (by decide) ?_
              refine DW.no rfl rfl (by decide) ?_
              refine DW.x rfl rfl (X.pickF rfl rfl rfl) (by decide) ?_
              refine DW.nil ?_
              refine WK.nThen ?_
              refine WC.condF rfl ?_
              refine WC.skip ?_
              refine WK.nBlock ?_
              refine WK.nThen ?_
              refine WC.region ?_
              refine WL.x (X.move rfl) (by decide) ?_
              refine WL.x (X.add rfl rfl (by omega) (by omega)) (by decide) ?_
              refine WL.x (X.assign rfl) (by decide) ?_
              refine WL.nil ?_
              refine WK.nThen ?_
              refine WK.next ((t + 1, mm)) rfl (.refl _) (.cons rfl (.cons rfl (.cons rfl (.cons rfl (.cons rfl (.cons rfl (.cons rfl (.cons rfl (.cons rfl .nil))))))))) ?_ ?_
              · exact ⟨Mem.le_trans hmm (Mem.le_refl _), by omega, fun q_ h1_ h2_ => by rcases (show q_ < t ∨ q_ = t by omega) with h_ | h_; exact hall q_ h1_ h_; rw [h_]; intro hh_; first | omega | exact Bool.noConfusion (hh_.2.symm.trans ‹canR c [⟨x.A, ⟨t, t⟩⟩, ⟨x.B, ⟨t + n, t + n⟩⟩] = false›)⟩
              · (dsimp only; omega)
            refine WL.x (X.pickT rfl rfl rfl) (by decide) ?_
            refine WL.nil ?_
            refine WK.nThen ?_
            refine WC.condF rfl ?_
            refine WC.exit ?_
            refine WK.eThen ?_
            refine WK.eThen ?_
            refine WK.eHit ?_
            refine WK.nThen ?_
            refine WC.seq ?_
            refine WC.seq ?_
            have hout : ¬ ((betR c.D c.M x.A x.B).1.Lo ≤ n ∧ n ≤ (betR c.D c.M x.A x.B).1.Hi) := (by first | omega | exact ex_out hb (by omega) (fun q_ h1_ h2_ => hall q_ h1_ (by omega)))
            refine WC.region ?_
            refine WL.x (X.move rfl) (by decide) ?_
            refine WL.x (X.field Try.runUnderlying31 rfl Try.sizeOf3 rfl) (by decide) ?_
            refine WL.x (X.loadB (k := 2) Try.isAgg3 rfl rfl rfl) (by decide) ?_
            refine WL.x (X.move rfl) (by decide) ?_
            refine WL.cond (X.leq rfl rfl) (by decide) (fun h52 => ?_) (fun h52 => ?_)
            · refine WL.x (X.move rfl) (by decide) ?_
              refine WL.yes rfl rfl ?_
              refine WL.x (X.move rfl) (by decide) ?_
              refine WL.yes rfl rfl ?_
              refine WL.x (X.field Try.runUnderlying31 rfl Try.sizeOf3 rfl) (by decide) ?_
              refine WL.yes rfl rfl ?_
              refine WL.x (X.loadB (k := 2) Try.isAgg3 rfl rfl rfl) (by decide) ?_
              refine WL.yes rfl rfl ?_
              refine WL.cond (X.leq rfl rfl) (by decide) (fun h53 => ?_) (fun h53 => ?_)
              · refine WL.x (X.pickT rfl rfl rfl) (by decide) ?_
                refine WL.x (OpX.t (X.neqB Try.underlying4 rfl rfl) (by decide)) (by decide) ?_
                refine WL.nil ?_
                refine WK.nThen ?_
                refine WC.condT rfl ?_
                refine WC.seq ?_
                refine WC.region ?_
                refine WL.x (X.assign rfl) (by decide) ?_
                refine WL.nil ?_
                refine WK.nThen ?_
                refine WC.ret ?_
                refine WK.rThen ?_
                refine WK.ret1 rfl rfl (fun w' hw' => Ret.exact hw' ?_)
                first | rfl | (exfalso; omega) | (exfalso; contradiction) | (exfalso; have q_ := hz6 (by omega); contradiction) | exact (bool_true (by first | omega | assumption)).symm
              refine WL.x (X.pickT rfl rfl rfl) (by decide) ?_
              refine WL.x (OpX.f (X.neqB Try.underlying4 rfl rfl) (fun h => h rfl)) (by decide) ?_
              refine WL.nil ?_
              refine WK.nThen ?_
              refine WC.condF rfl ?_
              refine WC.skip ?_
              refine WK.nThen ?_
              refine WC.seq ?_
              refine WC.region ?_
              refine WL.x (X.field Try.runUnderlying28 rfl Try.sizeOf25 rfl) (by decide) ?_
              refine WL.x (X.loadBP (k := 4) (vs := [v1, v3]) Try.isAgg25 Try.sizeOf25 rfl rfl rfl rfl) (by decide) ?_
              refine WL.x (X.field Try.runUnderlying28 rfl Try.sizeOf26 rfl) (by decide) ?_
              refine WL.x (X.loadB (k := 4) Try.isAgg26 rfl rfl rfl) (by decide) ?_
              refine WL.x (X.field Try.runUnderlying36 rfl Try.sizeOf3 rfl) (by decide) ?_
              refine WL.x (X.loadB (k := 3) Try.isAgg3 rfl rfl rfl) (by decide) ?_
              refine WL.x (X.move rfl) (by decide) ?_
              refine WL.x (X.call Try.call21 rfl (between21 _ _ c.D ⟨_, _, rfl, hs2, hs4⟩ _ _ hs6 _ _ )) (by decide) ?_
              refine WL.x (X.move rfl) (by decide) ?_
              refine WL.x (X.extract rfl rfl) (by decide) ?_
              refine WL.x (X.extract rfl rfl) (by decide) ?_
              refine WL.tn (T.alloc Try.zeroValue31 rfl) (by decide) fun b54 => ?_
              refine WL.ts (T.storeBA (k := 0) Try.sizeOf31 rfl rfl rfl (one_cons rfl (one_cons rfl one_nil)) rfl rfl) ?_
              refine WL.x (X.assign rfl) (by decide) ?_
              refine WL.nil ?_
              refine WK.nThen ?_
              refine WC.seq ?_
              refine WC.region ?_
              refine WL.x (X.field Try.runUnderlying28 rfl Try.sizeOf25 rfl) (by decide) ?_
              refine WL.x (X.loadBP (k := 5) (vs := [v1, v3]) Try.isAgg25 Try.sizeOf25 rfl rfl rfl rfl) (by decide) ?_
              refine WL.x (X.field Try.runUnderlying28 rfl Try.sizeOf26 rfl) (by decide) ?_
              refine WL.x (X.loadB (k := 5) Try.isAgg26 rfl rfl rfl) (by decide) ?_
              refine WL.x (X.move rfl) (by decide) ?_
              refine WL.x (X.field Try.runUnderlying36 rfl Try.sizeOf3 rfl) (by decide) ?_
              refine WL.x (X.loadB (k := 4) Try.isAgg3 rfl rfl rfl) (by decide) ?_
              refine WL.x (X.call Try.call21 rfl (between21 _ _ c.D ⟨_, _, rfl, hs2, hs4⟩ _ _ hs6 _ _ )) (by decide) ?_
              refine WL.x (X.move rfl) (by decide) ?_
              refine WL.x (X.extract rfl rfl) (by decide) ?_
              refine WL.x (X.extract rfl rfl) (by decide) ?_
              refine WL.tn (T.alloc Try.zeroValue31 rfl) (by decide) fun b55 => ?_
              refine WL.ts (T.storeBA (k := 0) Try.sizeOf31 rfl rfl rfl (one_cons rfl (one_cons rfl one_nil)) rfl rfl) ?_
              refine WL.x (X.assign rfl) (by decide) ?_
              refine WL.nil ?_
              refine WK.nThen ?_
              refine WC.seq ?_
              have htri : (betR c.D c.M x.A third).2 = 0 → (betR c.D c.M third x.B).2 = 0 → _ := fun a_ b_ => ex_tri hb a_ b_
              have hv1 : (betR c.D c.M x.A third).2 = 0 → _ := fun h_ => (betR_zero h_).2.2.2.2.2
              have hv2 : (betR c.D c.M third x.B).2 = 0 → _ := fun h_ => (betR_zero h_).2.2.2.2.2
              refine WC.region ?_
              refine WL.x (X.move rfl) (by decide) ?_
              refine WL.x (X.move rfl) (by decide) ?_
              refine WL.yes rfl rfl ?_
              refine WL.x (X.move rfl) (by decide) ?_
              refine WL.yes rfl rfl ?_
              refine WL.condn (X.neq rfl rfl) (by decide) (fun h56 => ?_) (fun h56 => ?_)
              · refine WL.yes rfl rfl ?_
                refine WL.x (X.move rfl) (by decide) ?_
                refine WL.no rfl rfl rfl (by decide) ?_
                refine WL.no rfl rfl rfl (by decide) ?_
                refine WL.yes rfl rfl ?_
                refine WL.x (X.pickT rfl rfl rfl) (by decide) ?_
                refine WL.yes rfl rfl ?_
                refine WL.x (X.move rfl) (by decide) ?_
                refine WL.no rfl rfl rfl (by decide) ?_
                refine WL.no rfl rfl rfl (by decide) ?_
                refine WL.no rfl rfl rfl (by decide) ?_
                refine WL.no rfl rfl rfl (by decide) ?_
                refine WL.no rfl rfl rfl (by decide) ?_
                refine WL.no rfl rfl rfl (by decide) ?_
                refine WL.no rfl rfl rfl (by decide) ?_
                refine WL.no rfl rfl rfl (by decide) ?_
                refine WL.no rfl rfl rfl (by decide) ?_
                refine WL.noU rfl rfl (by decide) ?_
                refine WL.noU rfl rfl (by decide) ?_
                refine WL.noU rfl rfl (by decide) ?_
                refine WL.noU rfl rfl (by decide) ?_
                refine WL.noU rfl rfl (by decide) ?_
                refine WL.noU rfl rfl (by decide) ?_
                refine WL.noU rfl rfl (by decide) ?_
                refine WL.noU rfl rfl (by decide) ?_
                refine WL.no rfl rfl rfl (by decide) ?_
                refine WL.yes rfl rfl ?_
                refine WL.x (X.pickT rfl rfl rfl) (by decide) ?_
                refine WL.x (X.pickT rfl rfl rfl) (by decide) ?_
                refine WL.x (X.assign rfl) (by decide) ?_
                refine WL.nil ?_
                refine WK.nThen ?_
                refine WC.ret ?_
                refine WK.ret1 rfl rfl (fun w' hw' => Ret.exact hw' ?_)
                first | rfl | (exfalso; omega) | (exfalso; contradiction) | (exfalso; have q_ := hz6 (by omega); contradiction) | exact (bool_true (by first | omega | assumption)).symm
              refine WL.yes rfl rfl ?_
              refine WL.x (X.move rfl) (by decide) ?_
              refine WL.yes rfl rfl ?_
              refine WL.x (X.move rfl) (by decide) ?_
              refine WL.yes rfl rfl ?_
              refine WL.condn (X.neq rfl rfl) (by decide) (fun h57 => ?_) (fun h57 => ?_)
              · refine WL.yes rfl rfl ?_
                refine WL.x (X.pickF rfl rfl rfl) (by decide) ?_
                refine WL.yes rfl rfl ?_
                refine WL.x (X.move rfl) (by decide) ?_
                refine WL.no rfl rfl rfl (by decide) ?_
                refine WL.no rfl rfl rfl (by decide) ?_
                refine WL.no rfl rfl rfl (by decide) ?_
                refine WL.no rfl rfl rfl (by decide) ?_
                refine WL.no rfl rfl rfl (by decide) ?_
                refine WL.no rfl rfl rfl (by decide) ?_
                refine WL.no rfl rfl rfl (by decide) ?_
                refine WL.no rfl rfl rfl (by decide) ?_
                refine WL.no rfl rfl rfl (by decide) ?_
                refine WL.noU rfl rfl (by decide) ?_
                refine WL.noU rfl rfl (by decide) ?_
                refine WL.noU rfl rfl (by decide) ?_
                refine WL.noU rfl rfl (by decide) ?_
                refine WL.noU rfl rfl (by decide) ?_
                refine WL.noU rfl rfl (by decide) ?_
                refine WL.noU rfl rfl (by decide) ?_
                refine WL.noU rfl rfl (by decide) ?_
                refine WL.no rfl rfl rfl (by decide) ?_
                refine WL.yes rfl rfl ?_
                refine WL.x (X.pickT rfl rfl rfl) (by decide) ?_
                refine WL.x (X.pickT rfl rfl rfl) (by decide) ?_
                refine WL.x (X.assign rfl) (by decide) ?_
                refine WL.nil ?_
                refine WK.nThen ?_
                refine WC.ret ?_
                refine WK.ret1 rfl rfl (fun w' hw' => Ret.exact hw' ?_)
                first | rfl | (exfalso; omega) | (exfalso; contradiction) | (exfalso; have q_ := hz6 (by omega); contradiction) | exact (bool_true (by first | omega | assumption)).symm
              refine WL.yes rfl rfl ?_
              refine WL.x (X.pickF rfl rfl rfl) (by decide) ?_
              refine WL.yes rfl rfl ?_
              refine WL.x (X.move rfl) (by decide) ?_
              refine WL.yes rfl rfl ?_
              refine WL.x (X.field Try.runUnderlying31 rfl Try.sizeOf3 rfl) (by decide) ?_
              refine WL.yes rfl rfl ?_
              refine WL.x (X.loadB (k := 4) Try.isAgg3 rfl rfl rfl) (by decide) ?_
              refine WL.yes rfl rfl ?_
              refine WL.x (X.field Try.runUnderlying31 rfl Try.sizeOf3 rfl) (by decide) ?_
              refine WL.yes rfl rfl ?_
              refine WL.x (X.loadB (k := 1) Try.isAgg3 rfl rfl rfl) (by decide) ?_
              refine WL.yes rfl rfl ?_
              refine WL.x (X.field Try.runUnderlying31 rfl Try.sizeOf3 rfl) (by decide) ?_
              refine WL.yes rfl rfl ?_
              refine WL.x (X.loadB (k := 0) Try.isAgg3 rfl rfl rfl) (by decide) ?_
              refine WL.yes rfl rfl ?_
              refine WL.x (X.add rfl rfl (by omega) (by omega)) (by decide) ?_
              refine WL.yes rfl rfl ?_
              refine WL.cond (X.geq rfl rfl) (by decide) (fun h58 => ?_) (fun h58 => ?_)
              · refine WL.yes rfl rfl ?_
                refine WL.x (X.move rfl) (by decide) ?_
                refine WL.yes rfl rfl ?_
                refine WL.x (X.field Try.runUnderlying31 rfl Try.sizeOf3 rfl) (by decide) ?_
                refine WL.yes rfl rfl ?_
                refine WL.x (X.loadB (k := 4) Try.isAgg3 rfl rfl rfl) (by decide) ?_
                refine WL.yes rfl rfl ?_
                refine WL.x (X.field Try.runUnderlying31 rfl Try.sizeOf3 rfl) (by decide) ?_
                refine WL.yes rfl rfl ?_
                refine WL.x (X.loadB (k := 1) Try.isAgg3 rfl rfl rfl) (by decide) ?_
                refine WL.yes rfl rfl ?_
                refine WL.x (X.field Try.runUnderlying31 rfl Try.sizeOf3 rfl) (by decide) ?_
                refine WL.yes rfl rfl ?_
                refine WL.x (X.loadB (k := 0) Try.isAgg3 rfl rfl rfl) (by decide) ?_
                refine WL.yes rfl rfl ?_
                refine WL.x (X.add rfl rfl (by omega) (by omega)) (by decide) ?_
                refine WL.yes rfl rfl ?_
                refine WL.x (X.leq rfl rfl) (by decide) ?_
                refine WL.yes rfl rfl ?_
                refine WL.x (X.pickT rfl rfl rfl) (by decide) ?_
                refine WL.yes rfl rfl ?_
                refine WL.x (X.pickF rfl rfl rfl) (by decide) ?_
                refine WL.x (X.pickT rfl rfl rfl) (by decide) ?_
                refine WL.x (X.assign rfl) (by decide) ?_
                refine WL.nil ?_
                refine WK.nThen ?_
                refine WC.ret ?_
                refine WK.ret1 rfl rfl (fun w' hw' => Ret.exact hw' ?_)
                first | rfl | (exfalso; omega) | (exfalso; contradiction) | (exfalso; have q_ := hz6 (by omega); contradiction) | exact (bool_true (by first | omega | assumption)).symm
              refine WL.yes rfl rfl ?_
              refine WL.x (X.move rfl) (by decide) ?_
              refine WL.no rfl rfl rfl (by decide) ?_
              refine WL.no rfl rfl rfl (by decide) ?_
              refine WL.no rfl rfl rfl (by decide) ?_
              refine WL.no rfl rfl rfl (by decide) ?_
              refine WL.no rfl rfl rfl (by decide) ?_
              refine WL.no rfl rfl rfl (by decide) ?_
              refine WL.no rfl rfl rfl (by decide) ?_
              refine WL.no rfl rfl rfl (by decide) ?_
              refine WL.yes rfl rfl ?_
              refine WL.x (X.pickF rfl rfl rfl) (by decide) ?_
              refine WL.yes rfl rfl ?_
              refine WL.x (X.pickF rfl rfl rfl) (by decide) ?_
              refine WL.x (X.pickT rfl rfl rfl) (by decide) ?_
              refine WL.x (X.assign rfl) (by decide) ?_
              refine WL.nil ?_
              refine WK.nThen ?_
              refine WC.ret ?_
              refine WK.ret1 rfl rfl (fun w' hw' => Ret.exact hw' ?_)
              first | rfl | (exfalso; omega) | (exfalso; contradiction) | (exfalso; have q_ := hz6 (by omega); contradiction) | exact (bool_true (by first | omega | assumption)).symm
            refine WL.x (X.move rfl) (by decide) ?_
            refine WL.no rfl rfl rfl (by decide) ?_
            refine WL.no rfl rfl rfl (by decide) ?_
            refine WL.no rfl rfl rfl (by decide) ?_
            refine WL.no rfl rfl rfl (by decide) ?_
            refine WL.x (X.pickF rfl rfl rfl) (by decide) ?_
            refine WL.x (OpX.f (X.neqB Try.underlying4 rfl rfl) (fun h => h rfl)) (by decide) ?_
            refine WL.nil ?_
            refine WK.nThen ?_
            refine WC.condF rfl ?_
            refine WC.skip ?_
            refine WK.nThen ?_
            refine WC.seq ?_
            refine WC.region ?_
            refine WL.x (X.field Try.runUnderlying28 rfl Try.sizeOf25 rfl) (by decide) ?_
            refine WL.x (X.loadBP (k := 4) (vs := [v1, v3]) Try.isAgg25 Try.sizeOf25 rfl rfl rfl rfl) (by decide) ?_
            refine WL.x (X.field Try.runUnderlying28 rfl Try.sizeOf26 rfl) (by decide) ?_
            refine WL.x (X.loadB (k := 4) Try.isAgg26 rfl rfl rfl) (by decide) ?_
            refine WL.x (X.field Try.runUnderlying36 rfl Try.sizeOf3 rfl) (by decide) ?_
            refine WL.x (X.loadB (k := 3) Try.isAgg3 rfl rfl rfl) (by decide) ?_
            refine WL.x (X.move rfl) (by decide) ?_
            refine WL.x (X.call Try.call21 rfl (between21 _ _ c.D ⟨_, _, rfl, hs2, hs4⟩ _ _ hs6 _ _ )) (by decide) ?_
            refine WL.x (X.move rfl) (by decide) ?_
            refine WL.x (X.extract rfl rfl) (by decide) ?_
            refine WL.x (X.extract rfl rfl) (by decide) ?_
            refine WL.tn (T.alloc Try.zeroValue31 rfl) (by decide) fun b59 => ?_
            refine WL.ts (T.storeBA (k := 0) Try.sizeOf31 rfl rfl rfl (one_cons rfl (one_cons rfl one_nil)) rfl rfl) ?_
            refine WL.x (X.assign rfl) (by decide) ?_
            refine WL.nil ?_
            refine WK.nThen ?_
            refine WC.seq ?_
            refine WC.region ?_
            refine WL.x (X.field Try.runUnderlying28 rfl Try.sizeOf25 rfl) (by decide) ?_
            refine WL.x (X.loadBP (k := 5) (vs := [v1, v3]) Try.isAgg25 Try.sizeOf25 rfl rfl rfl rfl) (by decide) ?_
            refine WL.x (X.field Try.runUnderlying28 rfl Try.sizeOf26 rfl) (by decide) ?_
            refine WL.x (X.loadB (k := 5) Try.isAgg26 rfl rfl rfl) (by decide) ?_
            refine WL.x (X.move rfl) (by decide) ?_
            refine WL.x (X.field Try.runUnderlying36 rfl Try.sizeOf3 rfl) (by decide) ?_
            refine WL.x (X.loadB (k := 4) Try.isAgg3 rfl rfl rfl) (by decide) ?_
            refine WL.x (X.call Try.call21 rfl (between21 _ _ c.D ⟨_, _, rfl, hs2, hs4⟩ _ _ hs6 _ _ )) (by decide) ?_
            refine WL.x (X.move rfl) (by decide) ?_
            refine WL.x (X.extract rfl rfl) (by decide) ?_
            refine WL.x (X.extract rfl rfl) (by decide) ?_
            refine WL.tn (T.alloc Try.zeroValue31 rfl) (by decide) fun b60 => ?_
            refine WL.ts (T.storeBA (k := 0) Try.sizeOf31 rfl rfl rfl (one_cons rfl (one_cons rfl one_nil)) rfl rfl) ?_
            refine WL.x (X.assign rfl) (by decide) ?_
            refine WL.nil ?_
            refine WK.nThen ?_
            refine WC.seq ?_
            have htri : (betR c.D c.M x.A third).2 = 0 → (betR c.D c.M third x.B).2 = 0 → _ := fun a_ b_ => ex_tri hb a_ b_
            have hv1 : (betR c.D c.M x.A third).2 = 0 → _ := fun h_ => (betR_zero h_).2.2.2.2.2
            have hv2 : (betR c.D c.M third x.B).2 = 0 → _ := fun h_ => (betR_zero h_).2.2.2.2.2
            refine WC.region ?_
            refine WL.x (X.move rfl) (by decide) ?_
            refine WL.x (X.move rfl) (by decide) ?_
            refine WL.yes rfl rfl ?_
            refine WL.x (X.move rfl) (by decide) ?_
            refine WL.yes rfl rfl ?_
            refine WL.condn (X.neq rfl rfl) (by decide) (fun h61 => ?_) (fun h61 => ?_)
            · refine WL.yes rfl rfl ?_
              refine WL.x (X.move rfl) (by decide) ?_
              refine WL.no rfl rfl rfl (by decide) ?_
              refine WL.no rfl rfl rfl (by decide) ?_
              refine WL.yes rfl rfl ?_
              refine WL.x (X.pickT rfl rfl rfl) (by decide) ?_
              refine WL.yes rfl rfl ?_
              refine WL.x (X.move rfl) (by decide) ?_
              refine WL.no rfl rfl rfl (by decide) ?_
              refine WL.no rfl rfl rfl (by decide) ?_
              refine WL.no rfl rfl rfl (by decide) ?_
              refine WL.no rfl rfl rfl (by decide) ?_
              refine WL.no rfl rfl rfl (by decide) ?_
              refine WL.no rfl rfl rfl (by decide) ?_
              refine WL.no rfl rfl rfl (by decide) ?_
              refine WL.no rfl rfl rfl (by decide) ?_
              refine WL.no rfl rfl rfl (by decide) ?_
              refine WL.noU rfl rfl (by decide) ?_
              refine WL.noU rfl rfl (by decide) ?_
              refine WL.noU rfl rfl (by decide) ?_
              refine WL.noU rfl rfl (by decide) ?_
              refine WL.noU rfl rfl (by decide) ?_
              refine WL.noU rfl rfl (by decide) ?_
              refine WL.noU rfl rfl (by decide) ?_
              refine WL.noU rfl rfl (by decide) ?_
              refine WL.no rfl rfl rfl (by decide) ?_
              refine WL.yes rfl rfl ?_
              refine WL.x (X.pickT rfl rfl rfl) (by decide) ?_
              refine WL.x (X.pickT rfl rfl rfl) (by decide) ?_
              refine WL.x (X.assign rfl) (by decide) ?_
              refine WL.nil ?_
              refine WK.nThen ?_
              refine WC.ret ?_
              refine WK.ret1 rfl rfl (fun w' hw' => Ret.exact hw' ?_)
              first | rfl | (exfalso; omega) | (exfalso; contradiction) | (exfalso; have q_ := hz6 (by omega); contradiction) | exact (bool_true (by first | omega | assumption)).symm
            refine WL.yes rfl rfl ?_
            refine WL.x (X.move rfl) (by decide) ?_
            refine WL.yes rfl rfl ?_
            refine WL.x (X.move rfl) (by decide) ?_
            refine WL.yes rfl rfl ?_
            refine WL.condn (X.neq rfl rfl) (by decide) (fun h62 => ?_) (fun h62 => ?_)
            · refine WL.yes rfl rfl ?_
              refine WL.x (X.pickF rfl rfl rfl) (by decide) ?_
              refine WL.yes rfl rfl ?_
              refine WL.x (X.move rfl) (by decide) ?_
              refine WL.no rfl rfl rfl (by decide) ?_
              refine WL.no rfl rfl rfl (by decide) ?_
              refine WL.no rfl rfl rfl (by decide) ?_
              refine WL.no rfl rfl rfl (by decide) ?_
              refine WL.no rfl rfl rfl (by decide) ?_
              refine WL.no rfl rfl rfl (by decide) ?_
              refine WL.no rfl rfl rfl (by decide) ?_
              refine WL.no rfl rfl rfl (by decide) ?_
              refine WL.no rfl rfl rfl (by decide) ?_
              refine WL.noU rfl rfl (by decide) ?_
              refine WL.noU rfl rfl (by decide) ?_
              refine WL.noU rfl rfl (by decide) ?_
              refine WL.noU rfl rfl (by decide) ?_
              refine WL.noU rfl rfl (by decide) ?_
              refine WL.noU rfl rfl (by decide) ?_
              refine WL.noU rfl rfl (by decide) ?_
              refine WL.noU rfl rfl (by decide) ?_
              refine WL.no rfl rfl rfl (by decide) ?_
              refine WL.yes rfl rfl ?_
              refine WL.x (X.pickT rfl rfl rfl) (by decide) ?_
              refine WL.x (X.pickT rfl rfl rfl) (by decide) ?_
              refine WL.x (X.assign rfl) (by decide) ?_
              refine WL.nil ?_
              refine WK.nThen ?_
              refine WC.ret ?_
              refine WK.ret1 rfl rfl (fun w' hw' => Ret.exact hw' ?_)
              first | rfl | (exfalso; omega) | (exfalso; contradiction) | (exfalso; have q_ := hz6 (by omega); contradiction) | exact (bool_true (by first | omega | assumption)).symm
            refine WL.yes rfl rfl ?_
            refine WL.x (X.pickF rfl rfl rfl) (by decide) ?_
            refine WL.yes rfl rfl ?_
            refine WL.x (X.move rfl) (by decide) ?_
            refine WL.yes rfl rfl ?_
            refine WL.x (X.field Try.runUnderlying31 rfl Try.sizeOf3 rfl) (by decide) ?_
            refine WL.yes rfl rfl ?_
            refine WL.x (X.loadB (k := 4) Try.isAgg3 rfl rfl rfl) (by decide) ?_
            refine WL.yes rfl rfl ?_
            refine WL.x (X.field Try.runUnderlying31 rfl Try.sizeOf3 rfl) (by decide) ?_
            refine WL.yes rfl rfl ?_
            refine WL.x (X.loadB (k := 1) Try.isAgg3 rfl rfl rfl) (by decide) ?_
            refine WL.yes rfl rfl ?_
            refine WL.x (X.field Try.runUnderlying31 rfl Try.sizeOf3 rfl) (by decide) ?_
            refine WL.yes rfl rfl ?_
            refine WL.x (X.loadB (k := 0) Try.isAgg3 rfl rfl rfl) (by decide) ?_
            refine WL.yes rfl rfl ?_
            refine WL.x (X.add rfl rfl (by omega) (by omega)) (by decide) ?_
            refine WL.yes rfl rfl ?_
            refine WL.cond (X.geq rfl rfl) (by decide) (fun h63 => ?_) (fun h63 => ?_)
            · refine WL.yes rfl rfl ?_
              refine WL.x (X.move rfl) (by decide) ?_
              refine WL.yes rfl rfl ?_
              refine WL.x (X.field Try.runUnderlying31 rfl Try.sizeOf3 rfl) (by decide) ?_
              refine WL.yes rfl rfl ?_
              refine WL.x (X.loadB (k := 4) Try.isAgg3 rfl rfl rfl) (by decide) ?_
              refine WL.yes rfl rfl ?_
              refine WL.x (X.field Try.runUnderlying31 rfl Try.sizeOf3 rfl) (by decide) ?_
              refine WL.yes rfl rfl ?_
              refine WL.x (X.loadB (k := 1) Try.isAgg3 rfl rfl rfl) (by decide) ?_
              refine WL.yes rfl rfl ?_
              refine WL.x (X.field Try.runUnderlying31 rfl Try.sizeOf3 rfl) (by decide) ?_
              refine WL.yes rfl rfl ?_
              refine WL.x (X.loadB (k := 0) Try.isAgg3 rfl rfl rfl) (by decide) ?_
              refine WL.yes rfl rfl ?_
              refine WL.x (X.add rfl rfl (by omega) (by omega)) (by decide) ?_
              refine WL.yes rfl rfl ?_
              refine WL.x (X.leq rfl rfl) (by decide) ?_
              refine WL.yes rfl rfl ?_
              refine WL.x (X.pickT rfl rfl rfl) (by decide) ?_
              refine WL.yes rfl rfl ?_
              refine WL.x (X.pickF rfl rfl rfl) (by decide) ?_
              refine WL.x (X.pickT rfl rfl rfl) (by decide) ?_
              refine WL.x (X.assign rfl) (by decide) ?_
              refine WL.nil ?_
              refine WK.nThen ?_
              refine WC.ret ?_
              refine WK.ret1 rfl rfl (fun w' hw' => Ret.exact hw' ?_)
              first | rfl | (exfalso; omega) | (exfalso; contradiction) | (exfalso; have q_ := hz6 (by omega); contradiction) | exact (bool_true (by first | omega | assumption)).symm
            refine WL.yes rfl rfl ?_
            refine WL.x (X.move rfl) (by decide) ?_
            refine WL.no rfl rfl rfl (by decide) ?_
            refine WL.no rfl rfl rfl (by decide) ?_
            refine WL.no rfl rfl rfl (by decide) ?_
            refine WL.no rfl rfl rfl (by decide) ?_
            refine WL.no rfl rfl rfl (by decide) ?_
            refine WL.no rfl rfl rfl (by decide) ?_
            refine WL.no rfl rfl rfl (by decide) ?_
            refine WL.no rfl rfl rfl (by decide) ?_
            refine WL.yes rfl rfl ?_
            refine WL.x (X.pickF rfl rfl rfl) (by decide) ?_
            refine WL.yes rfl rfl ?_
            refine WL.x (X.pickF rfl rfl rfl) (by decide) ?_
            refine WL.x (X.pickT rfl rfl rfl) (by decide) ?_
            refine WL.x (X.assign rfl) (by decide) ?_
            refine WL.nil ?_
            refine WK.nThen ?_
            refine WC.ret ?_
            refine WK.ret1 rfl rfl (fun w' hw' => Ret.exact hw' ?_)
            first | rfl | (exfalso; omega) | (exfalso; contradiction) | (exfalso; have q_ := hz6 (by omega); contradiction) | exact (bool_true (by first | omega | assumption)).symm
          refine WL.x (X.pickT rfl rfl rfl) (by decide) ?_
          refine WL.x (X.move rfl) (by decide) ?_
          refine WL.no rfl rfl rfl (by decide) ?_
          refine WL.no rfl rfl rfl (by decide) ?_
          refine WL.x (X.pickF rfl rfl rfl) (by decide) ?_
          refine WL.nil ?_
          refine WK.nThen ?_
          refine WC.condF rfl ?_
          refine WC.exit ?_
          refine WK.eThen ?_
          refine WK.eThen ?_
          refine WK.eHit ?_
          refine WK.nThen ?_
          refine WC.seq ?_
          refine WC.seq ?_
          have hout : ¬ ((betR c.D c.M x.A x.B).1.Lo ≤ n ∧ n ≤ (betR c.D c.M x.A x.B).1.Hi) := (by first | omega | exact ex_out hb (by omega) (fun q_ h1_ h2_ => hall q_ h1_ (by omega)))
          refine WC.region ?_
          refine WL.x (X.move rfl) (by decide) ?_
          refine WL.x (X.field Try.runUnderlying31 rfl Try.sizeOf3 rfl) (by decide) ?_
          refine WL.x (X.loadB (k := 2) Try.isAgg3 rfl rfl rfl) (by decide) ?_
          refine WL.x (X.move rfl) (by decide) ?_
          refine WL.cond (X.leq rfl rfl) (by decide) (fun h64 => ?_) (fun h64 => ?_)
          · refine WL.x (X.move rfl) (by decide) ?_
            refine WL.yes rfl rfl ?_
            refine WL.x (X.move rfl) (by decide) ?_
            refine WL.yes rfl rfl ?_
            refine WL.x (X.field Try.runUnderlying31 rfl Try.sizeOf3 rfl) (by decide) ?_
            refine WL.yes rfl rfl ?_
            refine WL.x (X.loadB (k := 2) Try.isAgg3 rfl rfl rfl) (by decide) ?_
            refine WL.yes rfl rfl ?_
            refine WL.cond (X.leq rfl rfl) (by decide) (fun h65 => ?_) (fun h65 => ?_)
            · refine WL.x (X.pickT rfl rfl rfl) (by decide) ?_
              refine WL.x (OpX.t (X.neqB Try.underlying4 rfl rfl) (by decide)) (by decide) ?_
              refine WL.nil ?_
              refine WK.nThen ?_
              refine WC.condT rfl ?_
              refine WC.seq ?_
              refine WC.region ?_
              refine WL.x (X.assign rfl) (by decide) ?_
              refine WL.nil ?_
              refine WK.nThen ?_
              refine WC.ret ?_
              refine WK.rThen ?_
              refine WK.ret1 rfl rfl (fun w' hw' => Ret.exact hw' ?_)
              first | rfl | (exfalso; omega) | (exfalso; contradiction) | (exfalso; have q_ := hz6 (by omega); contradiction) | exact (bool_true (by first | omega | assumption)).symm
            refine WL.x (X.pickT rfl rfl rfl) (by decide) ?_
            refine WL.x (OpX.f (X.neqB Try.underlying4 rfl rfl) (fun h => h rfl)) (by decide) ?_
            refine WL.nil ?_
            refine WK.nThen ?_
            refine WC.condF rfl ?_
            refine WC.skip ?_
            refine WK.nThen ?_
            refine WC.seq ?_
            refine WC.region ?_
            refine WL.x (X.field Try.runUnderlying28 rfl Try.sizeOf25 rfl) (by decide) ?_
            refine WL.x (X.loadBP (k := 4) (vs := [v1, v3]) Try.isAgg25 Try.sizeOf25 rfl rfl rfl rfl) (by decide) ?_
            refine WL.x (X.field Try.runUnderlying28 rfl Try.sizeOf26 rfl) (by decide) ?_
            refine WL.x (X.loadB (k := 4) Try.isAgg26 rfl rfl rfl) (by decide) ?_
            refine WL.x (X.field Try.runUnderlying36 rfl Try.sizeOf3 rfl) (by decide) ?_
            refine WL.x (X.loadB (k := 3) Try.isAgg3 rfl rfl rfl) (by decide) ?_
            refine WL.x (X.move rfl) (by decide) ?_
            refine WL.x (X.call Try.call21 rfl (between21 _ _ c.D ⟨_, _, rfl, hs2, hs4⟩ _ _ hs6 _ _ )) (by decide) ?_
            refine WL.x (X.move rfl) (by decide) ?_
            refine WL.x (X.extract rfl rfl) (by decide) ?_
            refine WL.x (X.extract rfl rfl) (by decide) ?_
            refine WL.tn (T.alloc Try.zeroValue31 rfl) (by decide) fun b66 => ?_
            refine WL.ts (T.storeBA (k := 0) Try.sizeOf31 rfl rfl rfl (one_cons rfl (one_cons rfl one_nil)) rfl rfl) ?_
            refine WL.x (X.assign rfl) (by decide) ?_
            refine WL.nil ?_
            refine WK.nThen ?_
            refine WC.seq ?_
            refine WC.region ?_
            refine WL.x (X.field Try.runUnderlying28 rfl Try.sizeOf25 rfl) (by decide) ?_
            refine WL.x (X.loadBP (k := 5) (vs := [v1, v3]) Try.isAgg25 Try.sizeOf25 rfl rfl rfl rfl) (by decide) ?_
            refine WL.x (X.field Try.runUnderlying28 rfl Try.sizeOf26 rfl) (by decide) ?_
            refine WL.x (X.loadB (k := 5) Try.isAgg26 rfl rfl rfl) (by decide) ?_
            refine WL.x (X.move rfl) (by decide) ?_
            refine WL.x (X.field Try.runUnderlying36 rfl Try.sizeOf3 rfl) (by decide) ?_
            refine WL.x (X.loadB (k := 4) Try.isAgg3 rfl rfl rfl) (by decide) ?_
            refine WL.x (X.call Try.call21 rfl (between21 _ _ c.D ⟨_, _, rfl, hs2, hs4⟩ _ _ hs6 _ _ )) (by decide) ?_
            refine WL.x (X.move rfl) (by decide) ?_
            refine WL.x (X.extract rfl rfl) (by decide) ?_
            refine WL.x (X.extract rfl rfl) (by decide) ?_
            refine WL.tn (T.alloc Try.zeroValue31 rfl) (by decide) fun b67 => ?_
            refine WL.ts (T.storeBA (k := 0) Try.sizeOf31 rfl rfl rfl (one_cons rfl (one_cons rfl one_nil)) rfl rfl) ?_
            refine WL.x (X.assign rfl) (by decide) ?_
            refine WL.nil ?_
            refine WK.nThen ?_
            refine WC.seq ?_
            have htri : (betR c.D c.M x.A third).2 = 0 → (betR c.D c.M third x.B).2 = 0 → _ := fun a_ b_ => ex_tri hb a_ b_
            have hv1 : (betR c.D c.M x.A third).2 = 0 → _ := fun h_ => (betR_zero h_).2.2.2.2.2
            have hv2 : (betR c.D c.M third x.B).2 = 0 → _ := fun h_ => (betR_zero h_).2.2.2.2.2
            refine WC.region ?_
            refine WL.x (X.move rfl) (by decide) ?_
            refine WL.x (X.move rfl) (by decide) ?_
            refine WL.yes rfl rfl ?_
            refine WL.x (X.move rfl) (by decide) ?_
            refine WL.yes rfl rfl ?_
            refine WL.condn (X.neq rfl rfl) (by decide) (fun h68 => ?_) (fun h68 => ?_)
            · refine WL.yes rfl rfl ?_
              refine WL.x (X.move rfl) (by decide) ?_
              refine WL.no rfl rfl rfl (by decide) ?_
              refine WL.no rfl rfl rfl (by decide) ?_
              refine WL.yes rfl rfl ?_
              refine WL.x (X.pickT rfl rfl rfl) (by decide) ?_
              refine WL.yes rfl rfl ?_
              refine WL.x (X.move rfl) (by decide) ?_
              refine WL.no rfl rfl rfl (by decide) ?_
              refine WL.no rfl rfl rfl (by decide) ?_
              refine WL.no rfl rfl rfl (by decide) ?_
              refine WL.no rfl rfl rfl (by decide) ?_
              refine WL.no rfl rfl rfl (by decide) ?_
              refine WL.no rfl rfl rfl (by decide) ?_
              refine WL.no rfl rfl rfl (by decide) ?_
              refine WL.no rfl rfl rfl (by decide) ?_
              refine WL.no rfl rfl rfl (by decide) ?_
              refine WL.noU rfl rfl (by decide) ?_
              refine WL.noU rfl rfl (by decide) ?_
              refine WL.noU rfl rfl (by decide) ?_
              refine WL.noU rfl rfl (by decide) ?_
              refine WL.noU rfl rfl (by decide) ?_
              refine WL.noU rfl rfl (by decide) ?_
              refine WL.noU rfl rfl (by decide) ?_
              refine WL.noU rfl rfl (by decide) ?_
              refine WL.no rfl rfl rfl (by decide) ?_
              refine WL.yes rfl rfl ?_
              refine WL.x (X.pickT rfl rfl rfl) (by decide) ?_
              refine WL.x (X.pickT rfl rfl rfl) (by decide) ?_
              refine WL.x (X.assign rfl) (by decide) ?_
              refine WL.nil ?_
              refine WK.nThen ?_
              refine WC.ret ?_
              refine WK.ret1 rfl rfl (fun w' hw' => Ret.exact hw' ?_)
              first | rfl | (exfalso; omega) | (exfalso; contradiction) | (exfalso; have q_ := hz6 (by omega); contradiction) | exact (bool_true (by first | omega | assumption)).symm
            refine WL.yes rfl rfl ?_
            refine WL.x (X.move rfl) (by decide) ?_
            refine WL.yes rfl rfl ?_
            refine WL.x (X.move rfl) (by decide) ?_
            refine WL.yes rfl rfl ?_
            refine WL.condn (X.neq rfl rfl) (by decide) (fun h69 => ?_) (fun h69 => ?_)
            · refine WL.yes rfl rfl ?_
              refine WL.x (X.pickF rfl rfl rfl) (by decide) ?_
              refine WL.yes rfl rfl ?_
              refine WL.x (X.move rfl) (by decide) ?_
              refine WL.no rfl rfl rfl (by decide) ?_
              refine WL.no rfl rfl rfl (by decide) ?_
              refine WL.no rfl rfl rfl (by decide) ?_
              refine WL.no rfl rfl rfl (by decide) ?_
              refine WL.no rfl rfl rfl (by decide) ?_
              refine WL.no rfl rfl rfl (by decide) ?_
              refine WL.no rfl rfl rfl (by decide) ?_
              refine WL.no rfl rfl rfl (by decide) ?_
              refine WL.no rfl rfl rfl (by decide) ?_
              refine WL.noU rfl rfl (by decide) ?_
              refine WL.noU rfl rfl (by decide) ?_
              refine WL.noU rfl rfl (by decide) ?_
              refine WL.noU rfl rfl (by decide) ?_
              refine WL.noU rfl rfl (by decide) ?_
              refine WL.noU rfl rfl (by decide) ?_
              refine WL.noU rfl rfl (by decide) ?_
              refine WL.noU rfl rfl (by decide) ?_
              refine WL.no rfl rfl rfl (by decide) ?_
              refine WL.yes rfl rfl ?_
              refine WL.x (X.pickT rfl rfl rfl) (by decide) ?_
              refine WL.x (X.pickT rfl rfl rfl) (by decide) ?_
              refine WL.x (X.assign rfl) (by decide) ?_
              refine WL.nil ?_
              refine WK.nThen ?_
              refine WC.ret ?_
              refine WK.ret1 rfl rfl (fun w' hw' => Ret.exact hw' ?_)
              first | rfl | (exfalso; omega) | (exfalso; contradiction) | (exfalso; have q_ := hz6 (by omega); contradiction) | exact (bool_true (by first | omega | assumption)).symm
            refine WL.yes rfl rfl ?_
            refine WL.x (X.pickF rfl rfl rfl) (by decide) ?_
            refine WL.yes rfl rfl ?_
            refine WL.x (X.move rfl) (by decide) ?_
            refine WL.yes rfl rfl ?_
            refine WL.x (X.field Try.runUnderlying31 rfl Try.sizeOf3 rfl) (by decide) ?_
            refine WL.yes rfl rfl ?_
            refine WL.x (X.loadB (k := 4) Try.isAgg3 rfl rfl rfl) (by decide) ?_
            refine WL.yes rfl rfl ?_
            refine WL.x (X.field Try.runUnderlying31 rfl Try.sizeOf3 rfl) (by decide) ?_
            refine WL.yes rfl rfl ?_
            refine WL.x (X.loadB (k := 1) Try.isAgg3 rfl rfl rfl) (by decide) ?_
            refine WL.yes rfl rfl ?_
            refine WL.x (X.field Try.runUnderlying31 rfl Try.sizeOf3 rfl) (by decide) ?_
            refine WL.yes rfl rfl ?_
            refine WL.x (X.loadB (k := 0) Try.isAgg3 rfl rfl rfl) (by decide) ?_
            refine WL.yes rfl rfl ?_
            refine WL.x (X.add rfl rfl (by omega) (by omega)) (by decide) ?_
            refine WL.yes rfl rfl ?_
            refine WL.cond (X.geq rfl rfl) (by decide) (fun h70 => ?_) (fun h70 => ?_)
            · refine WL.yes rfl rfl ?_
              refine WL.x (X.move rfl) (by decide) ?_
              refine WL.yes rfl rfl ?_
              refine WL.x (X.field Try.runUnderlying31 rfl Try.sizeOf3 rfl) (by decide) ?_
              refine WL.yes rfl rfl ?_
              refine WL.x (X.loadB (k := 4) Try.isAgg3 rfl rfl rfl) (by decide) ?_
              refine WL.yes rfl rfl ?_
              refine WL.x (X.field Try.runUnderlying31 rfl Try.sizeOf3 rfl) (by decide) ?_
              refine WL.yes rfl rfl ?_
              refine WL.x (X.loadB (k := 1) Try.isAgg3 rfl rfl rfl) (by decide) ?_
              refine WL.yes rfl rfl ?_
              refine WL.x (X.field Try.runUnderlying31 rfl Try.sizeOf3 rfl) (by decide) ?_
              refine WL.yes rfl rfl ?_
              refine WL.x (X.loadB (k := 0) Try.isAgg3 rfl rfl rfl) (by decide) ?_
              refine WL.yes rfl rfl ?_
              refine WL.x (X.add rfl rfl (by omega) (by omega)) (by decide) ?_
              refine WL.yes rfl rfl ?_
              refine WL.x (X.leq rfl rfl) (by decide) ?_
              refine WL.yes rfl rfl ?_
              refine WL.x (X.pickT rfl rfl rfl) (by decide) ?_
              refine WL.yes rfl rfl ?_
              refine WL.x (X.pickF rfl rfl rfl) (by decide) ?_
              refine WL.x (X.pickT rfl rfl rfl) (by decide) ?_
              refine WL.x (X.assign rfl) (by decide) ?_
              refine WL.nil ?_
              refine WK.nThen ?_
              refine WC.ret ?_
              refine WK.ret1 rfl rfl (fun w' hw' => Ret.exact hw' ?_)
              first | rfl | (exfalso; omega) | (exfalso; contradiction) | (exfalso; have q_ := hz6 (by omega); contradiction) | exact (bool_true (by first | omega | assumption)).symm
            refine WL.yes rfl rfl ?_
            refine WL.x (X.move rfl) (by decide) ?_
            refine WL.no rfl rfl rfl (by decide) ?_
            refine WL.no rfl rfl rfl (by decide) ?_
            refine WL.no rfl rfl rfl (by decide) ?_
            refine WL.no rfl rfl rfl (by decide) ?_
            refine WL.no rfl rfl rfl (by decide) ?_
            refine WL.no rfl rfl rfl (by decide) ?_
            refine WL.no rfl rfl rfl (by decide) ?_
            refine WL.no rfl rfl rfl (by decide) ?_
            refine WL.yes rfl rfl ?_
            refine WL.x (X.pickF rfl rfl rfl) (by decide) ?_
            refine WL.yes rfl rfl ?_
            refine WL.x (X.pickF rfl rfl rfl) (by decide) ?_
            refine WL.x (X.pickT rfl rfl rfl) (by decide) ?_
            refine WL.x (X.assign rfl) (by decide) ?_
            refine WL.nil ?_
            refine WK.nThen ?_
            refine WC.ret ?_
            refine WK.ret1 rfl rfl (fun w' hw' => Ret.exact hw' ?_)
            first | rfl | (exfalso; omega) | (exfalso; contradiction) | (exfalso; have q_ := hz6 (by omega); contradiction) | exact (bool_true (by first | omega | assumption)).symm
          refine WL.x (X.move rfl) (by decide) ?_
          refine WL.no rfl rfl rfl (by decide) ?_
          refine WL.no rfl rfl rfl (by decide) ?_
          refine WL.no rfl rfl rfl (by decide) ?_
          refine WL.no rfl rfl rfl (by decide) ?_
          refine WL.x (X.pickF rfl rfl rfl) (by decide) ?_
          refine WL.x (OpX.f (X.neqB Try.underlying4 rfl rfl) (fun h => h rfl)) (by decide) ?_
          refine WL.nil ?_
          refine WK.nThen ?_
          refine WC.condF rfl ?_
          refine WC.skip ?_
          refine WK.nThen ?_
          refine WC.seq ?_
          refine WC.region ?_
          refine WL.x (X.field Try.runUnderlying28 rfl Try.sizeOf25 rfl) (by decide) ?_
          refine WL.x (X.loadBP (k := 4) (vs := [v1, v3]) Try.isAgg25 Try.sizeOf25 rfl rfl rfl rfl) (by decide) ?_
          refine WL.x (X.field Try.runUnderlying28 rfl Try.sizeOf26 rfl) (by decide) ?_
          refine WL.x (X.loadB (k := 4) Try.isAgg26 rfl rfl rfl) (by decide) ?_
          refine WL.x (X.field Try.runUnderlying36 rfl Try.sizeOf3 rfl) (by decide) ?_
          refine WL.x (X.loadB (k := 3) Try.isAgg3 rfl rfl rfl) (by decide) ?_
          refine WL.x (X.move rfl) (by decide) ?_
          refine WL.x (X.call Try.call21 rfl (between21 _ _ c.D ⟨_, _, rfl, hs2, hs4⟩ _ _ hs6 _ _ )) (by decide) ?_
          refine WL.x (X.move rfl) (by decide) ?_
          refine WL.x (X.extract rfl rfl) (by decide) ?_
          refine WL.x (X.extract rfl rfl) (by decide) ?_
          refine WL.tn (T.alloc Try.zeroValue31 rfl) (by decide) fun b71 => ?_
          refine WL.ts (T.storeBA (k := 0) Try.sizeOf31 rfl rfl rfl (one_cons rfl (one_cons rfl one_nil)) rfl rfl) ?_
          refine WL.x (X.assign rfl) (by decide) ?_
          refine WL.nil ?_
          refine WK.nThen ?_
          refine WC.seq ?_
          refine WC.region ?_
          refine WL.x (X.field Try.runUnderlying28 rfl Try.sizeOf25 rfl) (by decide) ?_
          refine WL.x (X.loadBP (k := 5) (vs := [v1, v3]) Try.isAgg25 Try.sizeOf25 rfl rfl rfl rfl) (by decide) ?_
          refine WL.x (X.field Try.runUnderlying28 rfl Try.sizeOf26 rfl) (by decide) ?_
          refine WL.x (X.loadB (k := 5) Try.isAgg26 rfl rfl rfl) (by decide) ?_
          refine WL.x (X.move rfl) (by decide) ?_
          refine WL.x (X.field Try.runUnderlying36 rfl Try.sizeOf3 rfl) (by decide) ?_
          refine WL.x (X.loadB (k := 4) Try.isAgg3 rfl rfl rfl) (by decide) ?_
          refine WL.x (X.call Try.call21 rfl (between21 _ _ c.D ⟨_, _, rfl, hs2, hs4⟩ _ _ hs6 _ _ )) (by decide) ?_
          refine WL.x (X.move rfl) (by decide) ?_
          refine WL.x (X.extract rfl rfl) (by decide) ?_
          refine WL.x (X.extract rfl rfl) (by decide) ?_
          refine WL.tn (T.alloc Try.zeroValue31 rfl) (by decide) fun b72 => ?_
          refine WL.ts (T.storeBA (k := 0) Try.sizeOf31 rfl rfl rfl (one_cons rfl (one_cons rfl one_nil)) rfl rfl) ?_
          refine WL.x (X.assign rfl) (by decide) ?_
          refine WL.nil ?_
          refine WK.nThen ?_
          refine WC.seq ?_
          have htri : (betR c.D c.M x.A third).2 = 0 → (betR c.D c.M third x.B).2 = 0 → _ := fun a_ b_ => ex_tri hb a_ b_
          have hv1 : (betR c.D c.M x.A third).2 = 0 → _ := fun h_ => (betR_zero h_).2.2.2.2.2
          have hv2 : (betR c.D c.M third x.B).2 = 0 → _ := fun h_ => (betR_zero h_).2.2.2.2.2
          refine WC.region ?_
          refine WL.x (X.move rfl) (by decide) ?_
          refine WL.x (X.move rfl) (by decide) ?_
          refine WL.yes rfl rfl ?_
          refine WL.x (X.move rfl) (by decide) ?_
          refine WL.yes rfl rfl ?_
          refine WL.condn (X.neq rfl rfl) (by decide) (fun h73 => ?_) (fun h73 => ?_)
          · refine WL.yes rfl rfl ?_
            refine WL.x (X.move rfl) (by decide) ?_
            refine WL.no rfl rfl rfl (by decide) ?_
            refine WL.no rfl rfl rfl (by decide) ?_
            refine WL.yes rfl rfl ?_
            refine WL.x (X.pickT rfl rfl rfl) (by decide) ?_
            refine WL.yes rfl rfl ?_
            refine WL.x (X.move rfl) (by decide) ?_
            refine WL.no rfl rfl rfl (by decide) ?_
            refine WL.no rfl rfl rfl (by decide) ?_
            refine WL.no rfl rfl rfl (by decide) ?_
            refine WL.no rfl rfl rfl (by decide) ?_
            refine WL.no rfl rfl rfl (by decide) ?_
            refine WL.no rfl rfl rfl (by decide) ?_
            refine WL.no rfl rfl rfl (by decide) ?_
            refine WL.no rfl rfl rfl (by decide) ?_
            refine WL.no rfl rfl rfl (by decide) ?_
            refine WL.noU rfl rfl (by decide) ?_
            refine WL.noU rfl rfl (by decide) ?_
            refine WL.noU rfl rfl (by decide) ?_
            refine WL.noU rfl rfl (by decide) ?_
            refine WL.noU rfl rfl (by decide) ?_
            refine WL.noU rfl rfl (by decide) ?_
            refine WL.noU rfl rfl (by decide) ?_
            refine WL.noU rfl rfl (by decide) ?_
            refine WL.no rfl rfl rfl (by decide) ?_
            refine WL.yes rfl rfl ?_
            refine WL.x (X.pickT rfl rfl rfl) (by decide) ?_
            refine WL.x (X.pickT rfl rfl rfl) (by decide) ?_
            refine WL.x (X.assign rfl) (by decide) ?_
            refine WL.nil ?_
            refine WK.nThen ?_
            refine WC.ret ?_
            refine WK.ret1 rfl rfl (fun w' hw' => Ret.exact hw' ?_)
            first | rfl | (exfalso; omega) | (exfalso; contradiction) | (exfalso; have q_ := hz6 (by omega); contradiction) | exact (bool_true (by first | omega | assumption)).symm
          refine WL.yes rfl rfl ?_
          refine WL.x (X.move rfl) (by decide) ?_
          refine WL.yes rfl rfl ?_
          refine WL.x (X.move rfl) (by decide) ?_
          refine WL.yes rfl rfl ?_
          refine WL.condn (X.neq rfl rfl) (by decide) (fun h74 => ?_) (fun h74 => ?_)
          · refine WL.yes rfl rfl ?_
            refine WL.x (X.pickF rfl rfl rfl) (by decide) ?_
            refine WL.yes rfl rfl ?_
            refine WL.x (X.move rfl) (by decide) ?_
            refine WL.no rfl rfl rfl (by decide) ?_
            refine WL.no rfl rfl rfl (by decide) ?_
            refine WL.no rfl rfl rfl (by decide) ?_
            refine WL.no rfl rfl rfl (by decide) ?_
            refine WL.no rfl rfl rfl (by decide) ?_
            refine WL.no rfl rfl rfl (by decide) ?_
            refine WL.no rfl rfl rfl (by decide) ?_
            refine WL.no rfl rfl rfl (by decide) ?_
            refine WL.no rfl rfl rfl (by decide) ?_
            refine WL.noU rfl rfl (by decide) ?_
            refine WL.noU rfl rfl (by decide) ?_
            refine WL.noU rfl rfl (by decide) ?_
            refine WL.noU rfl rfl (by decide) ?_
            refine WL.noU rfl rfl (by decide) ?_
            refine WL.noU rfl rfl (by decide) ?_
            refine WL.noU rfl rfl (by decide) ?_
            refine WL.noU rfl rfl (by decide) ?_
            refine WL.no rfl rfl rfl (by decide) ?_
            refine WL.yes rfl rfl ?_
            refine WL.x (X.pickT rfl rfl rfl) (by decide) ?_
            refine WL.x (X.pickT rfl rfl rfl) (by decide) ?_
            refine WL.x (X.assign rfl) (by decide) ?_
            refine WL.nil ?_
            refine WK.nThen ?_
            refine WC.ret ?_
            refine WK.ret1 rfl rfl (fun w' hw' => Ret.exact hw' ?_)
            first | rfl | (exfalso; omega) | (exfalso; contradiction) | (exfalso; have q_ := hz6 (by omega); contradiction) | exact (bool_true (by first | omega | assumption)).symm
          refine WL.yes rfl rfl ?_
          refine WL.x (X.pickF rfl rfl rfl) (by decide) ?_
          refine WL.yes rfl rfl ?_
          refine WL.x (X.move rfl) (by decide) ?_
          refine WL.yes rfl rfl ?_
          refine WL.x (X.field Try.runUnderlying31 rfl Try.sizeOf3 rfl) (by decide) ?_
          refine WL.yes rfl rfl ?_
          refine WL.x (X.loadB (k := 4) Try.isAgg3 rfl rfl rfl) (by decide) ?_
          refine WL.yes rfl rfl ?_
          refine WL.x (X.field Try.runUnderlying31 rfl Try.sizeOf3 rfl) (by decide) ?_
          refine WL.yes rfl rfl ?_
          refine WL.x (X.loadB (k := 1) Try.isAgg3 rfl rfl rfl) (by decide) ?_
          refine WL.yes rfl rfl ?_
          refine WL.x (X.field Try.runUnderlying31 rfl Try.sizeOf3 rfl) (by decide) ?_
          refine WL.yes rfl rfl ?_
          refine WL.x (X.loadB (k := 0) Try.isAgg3 rfl rfl rfl) (by decide) ?_
          refine WL.yes rfl rfl ?_
          refine WL.x (X.add rfl rfl (by omega) (by omega)) (by decide) ?_
          refine WL.yes rfl rfl ?_
          refine WL.cond (X.geq rfl rfl) (by decide) (fun h75 => ?_) (fun h75 => ?_)
          · refine WL.yes rfl rfl ?_
            refine WL.x (X.move rfl) (by decide) ?_
            refine WL.yes rfl rfl ?_
            refine WL.x (X.field Try.runUnderlying31 rfl Try.sizeOf3 rfl) (by decide) ?_
            refine WL.yes rfl rfl ?_
            refine WL.x (X.loadB (k := 4) Try.isAgg3 rfl rfl rfl) (by decide) ?_
            refine WL.yes rfl rfl ?_
            refine WL.x (X.field Try.runUnderlying31 rfl Try.sizeOf3 rfl) (by decide) ?_
            refine WL.yes rfl rfl ?_
            refine WL.x (X.loadB (k := 1) Try.isAgg3 rfl rfl rfl) (by decide) ?_
            refine WL.yes rfl rfl ?_
            refine WL.x (X.field Try.runUnderlying31 rfl Try.sizeOf3 rfl) (by decide) ?_
            refine WL.yes rfl rfl ?_
            refine WL.x (X.loadB (k := 0) Try.isAgg3 rfl rfl rfl) (by decide) ?_
            refine WL.yes rfl rfl ?_
            refine WL.x (X.add rfl rfl (by omega) (by omega)) (by decide) ?_
            refine WL.yes rfl rfl ?_
            refine WL.x (X.leq rfl rfl) (by decide) ?_
            refine WL.yes rfl rfl ?_
            refine WL.x (X.pickT rfl rfl rfl) (by decide) ?_
            refine WL.yes rfl rfl ?_
            refine WL.x (X.pickF rfl rfl rfl) (by decide) ?_
            refine WL.x (X.pickT rfl rfl rfl) (by decide) ?_
            refine WL.x (X.assign rfl) (by decide) ?_
            refine WL.nil ?_
            refine WK.nThen ?_
            refine WC.ret ?_
            refine WK.ret1 rfl rfl (fun w' hw' => Ret.exact hw' ?_)
            first | rfl | (exfalso; omega) | (exfalso; contradiction) | (exfalso; have q_ := hz6 (by omega); contradiction) | exact (bool_true (by first | omega | assumption)).symm
          refine WL.yes rfl rfl ?_
          refine WL.x (X.move rfl) (by decide) ?_
          refine WL.no rfl rfl rfl (by decide) ?_
          refine WL.no rfl rfl rfl (by decide) ?_
          refine WL.no rfl rfl rfl (by decide) ?_
          refine WL.no rfl rfl rfl (by decide) ?_
          refine WL.no rfl rfl rfl (by decide) ?_
          refine WL.no rfl rfl rfl (by decide) ?_
          refine WL.no rfl rfl rfl (by decide) ?_
          refine WL.no rfl rfl rfl (by decide) ?_
          refine WL.yes rfl rfl ?_
          refine WL.x (X.pickF rfl rfl rfl) (by decide) ?_
          refine WL.yes rfl rfl ?_
          refine WL.x (X.pickF rfl rfl rfl) (by decide) ?_
          refine WL.x (X.pickT rfl rfl rfl) (by decide) ?_
          refine WL.x (X.assign rfl) (by decide) ?_
          refine WL.nil ?_
          refine WK.nThen ?_
          refine WC.ret ?_
          refine WK.ret1 rfl rfl (fun w' hw' => Ret.exact hw' ?_)
          first | rfl | (exfalso; omega) | (exfalso; contradiction) | (exfalso; have q_ := hz6 (by omega); contradiction) | exact (bool_true (by first | omega | assumption)).symm
        refine WL.x (X.move rfl) (by decide) ?_
        refine WL.no rfl rfl rfl (by decide) ?_
        refine WL.no rfl rfl rfl (by decide) ?_
        refine WL.x (X.pickF rfl rfl rfl) (by decide) ?_
        refine WL.x (X.move rfl) (by decide) ?_
        refine WL.no rfl rfl rfl (by decide) ?_
        refine WL.no rfl rfl rfl (by decide) ?_
        refine WL.x (X.pickF rfl rfl rfl) (by decide) ?_
        refine WL.nil ?_
        refine WK.nThen ?_
        refine WC.condF rfl ?_
        refine WC.exit ?_
        refine WK.eThen ?_
        refine WK.eThen ?_
        refine WK.eHit ?_
        refine WK.nThen ?_
        refine WC.seq ?_
        refine WC.seq ?_
        have hout : ¬ ((betR c.D c.M x.A x.B).1.Lo ≤ n ∧ n ≤ (betR c.D c.M x.A x.B).1.Hi) := (by first | omega | exact ex_out hb (by omega) (fun q_ h1_ h2_ => hall q_ h1_ (by omega)))
        refine WC.region ?_
        refine WL.x (X.move rfl) (by decide) ?_
        refine WL.x (X.field Try.runUnderlying31 rfl Try.sizeOf3 rfl) (by decide) ?_
        refine WL.x (X.loadB (k := 2) Try.isAgg3 rfl rfl rfl) (by decide) ?_
        refine WL.x (X.move rfl) (by decide) ?_
        refine WL.cond (X.leq rfl rfl) (by decide) (fun h76 => ?_) (fun h76 => ?_)
        · refine WL.x (X.move rfl) (by decide) ?_
          refine WL.yes rfl rfl ?_
          refine WL.x (X.move rfl) (by decide) ?_
          refine WL.yes rfl rfl ?_
          refine WL.x (X.field Try.runUnderlying31 rfl Try.sizeOf3 rfl) (by decide) ?_
          refine WL.yes rfl rfl ?_
          refine WL.x (X.loadB (k := 2) Try.isAgg3 rfl rfl rfl) (by decide) ?_
          refine WL.yes rfl rfl ?_
          refine WL.cond (X.leq rfl rfl) (by decide) (fun h77 => ?_) (fun h77 => ?_)
          · refine WL.x (X.pickT rfl rfl rfl) (by decide) ?_
            refine WL.x (OpX.t (X.neqB Try.underlying4 rfl rfl) (by decide)) (by decide) ?_
            refine WL.nil ?_
            refine WK.nThen ?_
            refine WC.condT rfl ?_
            refine WC.seq ?_
            refine WC.region ?_
            refine WL.x (X.assign rfl) (by decide) ?_
            refine WL.nil ?_
            refine WK.nThen ?_
            refine WC.ret ?_
            refine WK.rThen ?_
            refine WK.ret1 rfl rfl (fun w' hw' => Ret.exact hw' ?_)
            first | rfl | (exfalso; omega) | (exfalso; contradiction) | (exfalso; have q_ := hz6 (by omega); contradiction) | exact (bool_true (by first | omega | assumption)).symm
          refine WL.x (X.pickT rfl rfl rfl) (by decide) ?_
          refine WL.x (OpX.f (X.neqB Try.underlying4 rfl rfl) (fun h => h rfl)) (by decide) ?_
          refine WL.nil ?_
          refine WK.nThen ?_
          refine WC.condF rfl ?_
          refine WC.skip ?_
          refine WK.nThen ?_
          refine WC.seq ?_
          refine WC.region ?_
          refine WL.x (X.field Try.runUnderlying28 rfl Try.sizeOf25 rfl) (by decide) ?_
          refine WL.x (X.loadBP (k := 4) (vs := [v1, v3]) Try.isAgg25 Try.sizeOf25 rfl rfl rfl rfl) (by decide) ?_
          refine WL.x (X.field Try.runUnderlying28 rfl Try.sizeOf26 rfl) (by decide) ?_
          refine WL.x (X.loadB (k := 4) Try.isAgg26 rfl rfl rfl) (by decide) ?_
          refine WL.x (X.field Try.runUnderlying36 rfl Try.sizeOf3 rfl) (by decide) ?_
          refine WL.x (X.loadB (k := 3) Try.isAgg3 rfl rfl rfl) (by decide) ?_
          refine WL.x (X.move rfl) (by decide) ?_
          refine WL.x (X.call Try.call21 rfl (between21 _ _ c.D ⟨_, _, rfl, hs2, hs4⟩ _ _ hs6 _ _ )) (by decide) ?_
          refine WL.x (X.move rfl) (by decide) ?_
          refine WL.x (X.extract rfl rfl) (by decide) ?_
          refine WL.x (X.extract rfl rfl) (by decide) ?_
          refine WL.tn (T.alloc Try.zeroValue31 rfl) (by decide) fun b78 => ?_
          refine WL.ts (T.storeBA (k := 0) Try.sizeOf31 rfl rfl rfl (one_cons rfl (one_cons rfl one_nil)) rfl rfl) ?_
          refine WL.x (X.assign rfl) (by decide) ?_
          refine WL.nil ?_
          refine WK.nThen ?_
          refine WC.seq ?_
          refine WC.region ?_
          refine WL.x (X.field Try.runUnderlying28 rfl Try.sizeOf25 rfl) (by decide) ?_
          refine WL.x (X.loadBP (k := 5) (vs := [v1, v3]) Try.isAgg25 Try.sizeOf25 rfl rfl rfl rfl) (by decide) ?_
          refine WL.x (X.field Try.runUnderlying28 rfl Try.sizeOf26 rfl) (by decide) ?_
          refine WL.x (X.loadB (k := 5) Try.isAgg26 rfl rfl rfl) (by decide) ?_
          refine WL.x (X.move rfl) (by decide) ?_
          refine WL.x (X.field Try.runUnderlying36 rfl Try.sizeOf3 rfl) (by decide) ?_
          refine WL.x (X.loadB (k := 4) Try.isAgg3 rfl rfl rfl) (by decide) ?_
          refine WL.x (X.call Try.call21 rfl (between21 _ _ c.D ⟨_, _, rfl, hs2, hs4⟩ _ _ hs6 _ _ )) (by decide) ?_
          refine WL.x (X.move rfl) (by decide) ?_
          refine WL.x (X.extract rfl rfl) (by decide) ?_
          refine WL.x (X.extract rfl rfl) (by decide) ?_
          refine WL.tn (T.alloc Try.zeroValue31 rfl) (by decide) fun b79 => ?_
          refine WL.ts (T.storeBA (k := 0) Try.sizeOf31 rfl rfl rfl (one_cons rfl (one_cons rfl one_nil)) rfl rfl) ?_
          refine WL.x (X.assign rfl) (by decide) ?_
          refine WL.nil ?_
          refine WK.nThen ?_
          refine WC.seq ?_
          have htri : (betR c.D c.M x.A third).2 = 0 → (betR c.D c.M third x.B).2 = 0 → _ := fun a_ b_ => ex_tri hb a_ b_
          have hv1 : (betR c.D c.M x.A third).2 = 0 → _ := fun h_ => (betR_zero h_).2.2.2.2.2
          have hv2 : (betR c.D c.M third x.B).2 = 0 → _ := fun h_ => (betR_zero h_).2.2.2.2.2
          refine WC.region ?_
          refine WL.x (X.move rfl) (by decide) ?_
          refine WL.x (X.move rfl) (by decide) ?_
          refine WL.yes rfl rfl ?_
          refine WL.x (X.move rfl) (by decide) ?_
          refine WL.yes rfl rfl ?_
          refine WL.condn (X.neq rfl rfl) (by decide) (fun h80 => ?_) (fun h80 => ?_)
          · refine WL.yes rfl rfl ?_
            refine WL.x (X.move rfl) (by decide) ?_
            refine WL.no rfl rfl rfl (by decide) ?_
            refine WL.no rfl rfl rfl (by decide) ?_
            refine WL.yes rfl rfl ?_
            refine WL.x (X.pickT rfl rfl rfl) (by decide) ?_
            refine WL.yes rfl rfl ?_
            refine WL.x (X.move rfl) (by decide) ?_
            refine WL.no rfl rfl rfl (by decide) ?_
            refine WL.no rfl rfl rfl (by decide) ?_
            refine WL.no rfl rfl rfl (by decide) ?_
            refine WL.no rfl rfl rfl (by decide) ?_
            refine WL.no rfl rfl rfl (by decide) ?_
            refine WL.no rfl rfl rfl (by decide) ?_
            refine WL.no rfl rfl rfl (by decide) ?_
            refine WL.no rfl rfl rfl (by decide) ?_
            refine WL.no rfl rfl rfl (by decide) ?_
            refine WL.noU rfl rfl (by decide) ?_
            refine WL.noU rfl rfl (by decide) ?_
            refine WL.noU rfl rfl (by decide) ?_
            refine WL.noU rfl rfl (by decide) ?_
            refine WL.noU rfl rfl (by decide) ?_
            refine WL.noU rfl rfl (by decide) ?_
            refine WL.noU rfl rfl (by decide) ?_
            refine WL.noU rfl rfl (by decide) ?_
            refine WL.no rfl rfl rfl (by decide) ?_
            refine WL.yes rfl rfl ?_
            refine WL.x (X.pickT rfl rfl rfl) (by decide) ?_
            refine WL.x (X.pickT rfl rfl rfl) (by decide) ?_
            refine WL.x (X.assign rfl) (by decide) ?_
            refine WL.nil ?_
            refine WK.nThen ?_
            refine WC.ret ?_
            refine WK.ret1 rfl rfl (fun w' hw' => Ret.exact hw' ?_)
            first | rfl | (exfalso; omega) | (exfalso; contradiction) | (exfalso; have q_ := hz6 (by omega); contradiction) | exact (bool_true (by first | omega | assumption)).symm
          refine WL.yes rfl rfl ?_
          refine WL.x (X.move rfl) (by decide) ?_
          refine WL.yes rfl rfl ?_
          refine WL.x (X.move rfl) (by decide) ?_
          refine WL.yes rfl rfl ?_
          refine WL.condn (X.neq rfl rfl) (by decide) (fun h81 => ?_) (fun h81 => ?_)
          · refine WL.yes rfl rfl ?_
            refine WL.x (X.pickF rfl rfl rfl) (by decide) ?_
            refine WL.yes rfl rfl ?_
            refine WL.x (X.move rfl) (by decide) ?_
            refine WL.no rfl rfl rfl (by decide) ?_
            refine WL.no rfl rfl rfl (by decide) ?_
            refine WL.no rfl rfl rfl (by decide) ?_
            refine WL.no rfl rfl rfl (by decide) ?_
            refine WL.no rfl rfl rfl (by decide) ?_
            refine WL.no rfl rfl rfl (by decide) ?_
            refine WL.no rfl rfl rfl (by decide) ?_
            refine WL.no rfl rfl rfl (by decide) ?_
            refine WL.no rfl rfl rfl (by decide) ?_
            refine WL.noU rfl rfl (by decide) ?_
            refine WL.noU rfl rfl (by decide) ?_
            refine WL.noU rfl rfl (by decide) ?_
            refine WL.noU rfl rfl (by decide) ?_
            refine WL.noU rfl rfl (by decide) ?_
            refine WL.noU rfl rfl (by decide) ?_
            refine WL.noU rfl rfl (by decide) ?_
            refine WL.noU rfl rfl (by decide) ?_
            refine WL.no rfl rfl rfl (by decide) ?_
            refine WL.yes rfl rfl ?_
            refine WL.x (X.pickT rfl rfl rfl) (by decide) ?_
            refine WL.x (X.pickT rfl rfl rfl) (by decide) ?_
            refine WL.x (X.assign rfl) (by decide) ?_
            refine WL.nil ?_
            refine WK.nThen ?_
            refine WC.ret ?_
            refine WK.ret1 rfl rfl (fun w' hw' => Ret.exact hw' ?_)
            first | rfl | (exfalso; omega) | (exfalso; contradiction) | (exfalso; have q_ := hz6 (by omega); contradiction) | exact (bool_true (by first | omega | assumption)).symm
          refine WL.yes rfl rfl ?_
          refine WL.x (X.pickF rfl rfl rfl) (by decide) ?_
          refine WL.yes rfl rfl ?_
          refine WL.x (X.move rfl) (by decide) ?_
          refine WL.yes rfl rfl ?_
          refine WL.x (X.field Try.runUnderlying31 rfl Try.sizeOf3 rfl) (by decide) ?_
          refine WL.yes rfl rfl ?_
          refine WL.x (X.loadB (k := 4) Try.isAgg3 rfl rfl rfl) (by decide) ?_
          refine WL.yes rfl rfl ?_
          refine WL.x (X.field Try.runUnderlying31 rfl Try.sizeOf3 rfl) (by decide) ?_
          refine WL.yes rfl rfl ?_
          refine WL.x (X.loadB (k := 1) Try.isAgg3 rfl rfl rfl) (by decide) ?_
          refine WL.yes rfl rfl ?_
          refine WL.x (X.field Try.runUnderlying31 rfl Try.sizeOf3 rfl) (by decide) ?_
          refine WL.yes rfl rfl ?_
          refine WL.x (X.loadB (k := 0) Try.isAgg3 rfl rfl rfl) (by decide) ?_
          refine WL.yes rfl rfl ?_
          refine WL.x (X.add rfl rfl (by omega) (by omega)) (by decide) ?_
          refine WL.yes rfl rfl ?_
          refine WL.cond (X.geq rfl rfl) (by decide) (fun h82 => ?_) (fun h82 => ?_)
          · refine WL.yes rfl rfl ?_
            refine WL.x (X.move rfl) (by decide) ?_
            refine WL.yes rfl rfl ?_
            refine WL.x (X.field Try.runUnderlying31 rfl Try.sizeOf3 rfl) (by decide) ?_
            refine WL.yes rfl rfl ?_
            refine WL.x (X.loadB (k := 4) Try.isAgg3 rfl rfl rfl) (by decide) ?_
            refine WL.yes rfl rfl ?_
            refine WL.x (X.field Try.runUnderlying31 rfl Try.sizeOf3 rfl) (by decide) ?_
            refine WL.yes rfl rfl ?_
            refine WL.x (X.loadB (k := 1) Try.isAgg3 rfl rfl rfl) (by decide) ?_
            refine WL.yes rfl rfl ?_
            refine WL.x (X.field Try.runUnderlying31 rfl Try.sizeOf3 rfl) (by decide) ?_
            refine WL.yes rfl rfl ?_
            refine WL.x (X.loadB (k := 0) Try.isAgg3 rfl rfl rfl) (by decide) ?_
            refine WL.yes rfl rfl ?_
            refine WL.x (X.add rfl rfl (by omega) (by omega)) (by decide) ?_
            refine WL.yes rfl rfl ?_
            refine WL.x (X.leq rfl rfl) (by decide) ?_
            refine WL.yes rfl rfl ?_
            refine WL.x (X.pickT rfl rfl rfl) (by decide) ?_
            refine WL.yes rfl rfl ?_
            refine WL.x (X.pickF rfl rfl rfl) (by decide) ?_
            refine WL.x (X.pickT rfl rfl rfl) (by decide) ?_
            refine WL.x (X.assign rfl) (by decide) ?_
            refine WL.nil ?_
            refine WK.nThen ?_
            refine WC.ret ?_
            refine WK.ret1 rfl rfl (fun w' hw' => Ret.exact hw' ?_)
            first | rfl | (exfalso; omega) | (exfalso; contradiction) | (exfalso; have q_ := hz6 (by omega); contradiction) | exact (bool_true (by first | omega | assumption)).symm
          refine WL.yes rfl rfl ?_
          refine WL.x (X.move rfl) (by decide) ?_
          refine WL.no rfl rfl rfl (by decide) ?_
          refine WL.no rfl rfl rfl (by decide) ?_
          refine WL.no rfl rfl rfl (by decide) ?_
          refine WL.no rfl rfl rfl (by decide) ?_
          refine WL.no rfl rfl rfl (by decide) ?_
          refine WL.no rfl rfl rfl (by decide) ?_
          refine WL.no rfl rfl rfl (by decide) ?_
          refine WL.no rfl rfl rfl (by decide) ?_
          refine WL.yes rfl rfl ?_
          refine WL.x (X.pickF rfl rfl rfl) (by decide) ?_
          refine WL.yes rfl rfl ?_
          refine WL.x (X.pickF rfl rfl rfl) (by decide) ?_
          refine WL.x (X.pickT rfl rfl rfl) (by decide) ?_
          refine WL.x (X.assign rfl) (by decide) ?_
          refine WL.nil ?_
          refine WK.nThen ?_
          refine WC.ret ?_
          refine WK.ret1 rfl rfl (fun w' hw' => Ret.exact hw' ?_)
          first | rfl | (exfalso; omega) | (exfalso; contradiction) | (exfalso; have q_ := hz6 (by omega); contradiction) | exact (bool_true (by first | omega | assumption)).symm
        refine WL.x (X.move rfl) (by decide) ?_
        refine WL.no rfl rfl rfl (by decide) ?_
        refine WL.no rfl rfl rfl (by decide) ?_
        refine WL.no rfl rfl rfl (by decide) ?_
        refine WL.no rfl rfl rfl (by decide) ?_
        refine WL.x (X.pickF rfl rfl rfl) (by decide) ?_
        refine WL.x (OpX.f (X.neqB Try.underlying4 rfl rfl) (fun h => h rfl)) (by decide) ?_
        refine WL.nil ?_
        refine WK.nThen ?_
        refine WC.condF rfl ?_
        refine WC.skip ?_
        refine WK.nThen ?_
        refine WC.seq ?_
        refine WC.region ?_
        refine WL.x (X.field Try.runUnderlying28 rfl Try.sizeOf25 rfl) (by decide) ?_
        refine WL.x (X.loadBP (k := 4) (vs := [v1, v3]) Try.isAgg25 Try.sizeOf25 rfl rfl rfl rfl) (by decide) ?_
        refine WL.x (X.field Try.runUnderlying28 rfl Try.sizeOf26 rfl) (by decide) ?_
        refine WL.x (X.loadB (k := 4) Try.isAgg26 rfl rfl rfl) (by decide) ?_
        refine WL.x (X.field Try.runUnderlying36 rfl Try.sizeOf3 rfl) (by decide) ?_
        refine WL.x (X.loadB (k := 3) Try.isAgg3 rfl rfl rfl) (by decide) ?_
        refine WL.x (X.move rfl) (by decide) ?_
        refine WL.x (X.call Try.call21 rfl (between21 _ _ c.D ⟨_, _, rfl, hs2, hs4⟩ _ _ hs6 _ _ )) (by decide) ?_
        refine WL.x (X.move rfl) (by decide) ?_
        refine WL.x (X.extract rfl rfl) (by decide) ?_
        refine WL.x (X.extract rfl rfl) (by decide) ?_
        refine WL.tn (T.alloc Try.zeroValue31 rfl) (by decide) fun b83 => ?_
        refine WL.ts (T.storeBA (k := 0) Try.sizeOf31 rfl rfl rfl (one_cons rfl (one_cons rfl one_nil)) rfl rfl) ?_
        refine WL.x (X.assign rfl) (by decide) ?_
        refine WL.nil ?_
        refine WK.nThen ?_
        refine WC.seq ?_
        refine WC.region ?_
        refine WL.x (X.field Try.runUnderlying28 rfl Try.sizeOf25 rfl) (by decide) ?_
        refine WL.x (X.loadBP (k := 5) (vs := [v1, v3]) Try.isAgg25 Try.sizeOf25 rfl rfl rfl rfl) (by decide) ?_
        refine WL.x (X.field Try.runUnderlying28 rfl Try.sizeOf26 rfl) (by decide) ?_
        refine WL.x (X.loadB (k := 5) Try.isAgg26 rfl rfl rfl) (by decide) ?_
        refine WL.x (X.move rfl) (by decide) ?_
        refine WL.x (X.field Try.runUnderlying36 rfl Try.sizeOf3 rfl) (by decide) ?_
        refine WL.x (X.loadB (k := 4) Try.isAgg3 rfl rfl rfl) (by decide) ?_
        refine WL.x (X.call Try.call21 rfl (between21 _ _ c.D ⟨_, _, rfl, hs2, hs4⟩ _ _ hs6 _ _ )) (by decide) ?_
        refine WL.x (X.move rfl) (by decide) ?_
        refine WL.x (X.extract rfl rfl) (by decide) ?_
        refine WL.x (X.extract rfl rfl) (by decide) ?_
        refine WL.tn (T.alloc Try.zeroValue31 rfl) (by decide) fun b84 => ?_
        refine WL.ts (T.storeBA (k := 0) Try.sizeOf31 rfl rfl rfl (one_cons rfl (one_cons rfl one_nil)) rfl rfl) ?_
        refine WL.x (X.assign rfl) (by decide) ?_
        refine WL.nil ?_
        refine WK.nThen ?_
        refine WC.seq ?_
        have htri : (betR c.D c.M x.A third).2 = 0 → (betR c.D c.M third x.B).2 = 0 → _ := fun a_ b_ => ex_tri hb a_ b_
        have hv1 : (betR c.D c.M x.A third).2 = 0 → _ := fun h_ => (betR_zero h_).2.2.2.2.2
        have hv2 : (betR c.D c.M third x.B).2 = 0 → _ := fun h_ => (betR_zero h_).2.2.2.2.2
        refine WC.region ?_
        refine WL.x (X.move rfl) (by decide) ?_
        refine WL.x (X.move rfl) (by decide) ?_
        refine WL.yes rfl rfl ?_
        refine WL.x (X.move rfl) (by decide) ?_
        refine WL.yes rfl rfl ?_
        refine WL.condn (X.neq rfl rfl) (by decide) (fun h85 => ?_) (fun h85 => ?_)
        · refine WL.yes rfl rfl ?_
          refine WL.x (X.move rfl) (by decide) ?_
          refine WL.no rfl rfl rfl (by decide) ?_
          refine WL.no rfl rfl rfl (by decide) ?_
          refine WL.yes rfl rfl ?_
          refine WL.x (X.pickT rfl rfl rfl) (by decide) ?_
          refine WL.yes rfl rfl ?_
          refine WL.x (X.move rfl) (by decide) ?_
          refine WL.no rfl rfl rfl (by decide) ?_
          refine WL.no rfl rfl rfl (by decide) ?_
          refine WL.no rfl rfl rfl (by decide) ?_
          refine WL.no rfl rfl rfl (by decide) ?_
          refine WL.no rfl rfl rfl (by decide) ?_
          refine WL.no rfl rfl rfl (by decide) ?_
          refine WL.no rfl rfl rfl (by decide) ?_
          refine WL.no rfl rfl rfl (by decide) ?_
          refine WL.no rfl rfl rfl (by decide) ?_
          refine WL.noU rfl rfl (by decide) ?_
          refine WL.noU rfl rfl (by decide) ?_
          refine WL.noU rfl rfl (by decide) ?_
          refine WL.noU rfl rfl (by decide) ?_
          refine WL.noU rfl rfl (by decide) ?_
          refine WL.noU rfl rfl (by decide) ?_
          refine WL.noU rfl rfl (by decide) ?_
          refine WL.noU rfl rfl (by decide) ?_
          refine WL.no rfl rfl rfl (by decide) ?_
          refine WL.yes rfl rfl ?_
          refine WL.x (X.pickT rfl rfl rfl) (by decide) ?_
          refine WL.x (X.pickT rfl rfl rfl) (by decide) ?_
          refine WL.x (X.assign rfl) (by decide) ?_
          refine WL.nil ?_
          refine WK.nThen ?_
          refine WC.ret ?_
          refine WK.ret1 rfl rfl (fun w' hw' => Ret.exact hw' ?_)
          first | rfl | (exfalso; omega) | (exfalso; contradiction) | (exfalso; have q_ := hz6 (by omega); contradiction) | exact (bool_true (by first | omega | assumption)).symm
        refine WL.yes rfl rfl ?_
        refine WL.x (X.move rfl) (by decide) ?_
        refine WL.yes rfl rfl ?_
        refine WL.x (X.move rfl) (by decide) ?_
        refine WL.yes rfl rfl ?_
        refine WL.condn (X.neq rfl rfl) (by decide) (fun h86 => ?_) (fun h86 => ?_)
        · refine WL.yes rfl rfl ?_
          refine WL.x (X.pickF rfl rfl rfl) (by decide) ?_
          refine WL.yes rfl rfl ?_
          refine WL.x (X.move rfl) (by decide) ?_
          refine WL.no rfl rfl rfl (by decide) ?_
          refine WL.no rfl rfl rfl (by decide) ?_
          refine WL.no rfl rfl rfl (by decide) ?_
          refine WL.no rfl rfl rfl (by decide) ?_
          refine WL.no rfl rfl rfl (by decide) ?_
          refine WL.no rfl rfl rfl (by decide) ?_
          refine WL.no rfl rfl rfl (by decide) ?_
          refine WL.no rfl rfl rfl (by decide) ?_
          refine WL.no rfl rfl rfl (by decide) ?_
          refine WL.noU rfl rfl (by decide) ?_
          refine WL.noU rfl rfl (by decide) ?_
          refine WL.noU rfl rfl (by decide) ?_
          refine WL.noU rfl rfl (by decide) ?_
          refine WL.noU rfl rfl (by decide) ?_
          refine WL.noU rfl rfl (by decide) ?_
          refine WL.noU rfl rfl (by decide) ?_
          refine WL.noU rfl rfl (by decide) ?_
          refine WL.no rfl rfl rfl (by decide) ?_
          refine WL.yes rfl rfl ?_
          refine WL.x (X.pickT rfl rfl rfl) (by decide) ?_
          refine WL.x (X.pickT rfl rfl rfl) (by decide) ?_
          refine WL.x (X.assign rfl) (by decide) ?_
          refine WL.nil ?_
          refine WK.nThen ?_
          refine WC.ret ?_
          refine WK.ret1 rfl rfl (fun w' hw' => Ret.exact hw' ?_)
          first | rfl | (exfalso; omega) | (exfalso; contradiction) | (exfalso; have q_ := hz6 (by omega); contradiction) | exact (bool_true (by first | omega | assumption)).symm
        refine WL.yes rfl rfl ?_
        refine WL.x (X.pickF rfl rfl rfl) (by decide) ?_
        refine WL.yes rfl rfl ?_
        refine WL.x (X.move rfl) (by decide) ?_
        refine WL.yes rfl rfl ?_
        refine WL.x (X.field Try.runUnderlying31 rfl Try.sizeOf3 rfl) (by decide) ?_
        refine WL.yes rfl rfl ?_
        refine WL.x (X.loadB (k := 4) Try.isAgg3 rfl rfl rfl) (by decide) ?_
        refine WL.yes rfl rfl ?_
        refine WL.x (X.field Try.runUnderlying31 rfl Try.sizeOf3 rfl) (by decide) ?_
        refine WL.yes rfl rfl ?_
        refine WL.x (X.loadB (k := 1) Try.isAgg3 rfl rfl rfl) (by decide) ?_
        refine WL.yes rfl rfl ?_
        refine WL.x (X.field Try.runUnderlying31 rfl Try.sizeOf3 rfl) (by decide) ?_
        refine WL.yes rfl rfl ?_
        refine WL.x (X.loadB (k := 0) Try.isAgg3 rfl rfl rfl) (by decide) ?_
        refine WL.yes rfl rfl ?_
        refine WL.x (X.add rfl rfl (by omega) (by omega)) (by decide) ?_
        refine WL.yes rfl rfl ?_
        refine WL.cond (X.geq rfl rfl) (by decide) (fun h87 => ?_) (fun h87 => ?_)
        · refine WL.yes rfl rfl ?_
          refine WL.x (X.move rfl) (by decide) ?_
          refine WL.yes rfl rfl ?_
          refine WL.x (X.field Try.runUnderlying31 rfl Try.sizeOf3 rfl) (by decide) ?_
          refine WL.yes rfl rfl ?_
          refine WL.x (X.loadB (k := 4) Try.isAgg3 rfl rfl rfl) (by decide) ?_
          refine WL.yes rfl rfl ?_
          refine WL.x (X.field Try.runUnderlying31 rfl Try.sizeOf3 rfl) (by decide) ?_
          refine WL.yes rfl rfl ?_
          refine WL.x (X.loadB (k := 1) Try.isAgg3 rfl rfl rfl) (by decide) ?_
          refine WL.yes rfl rfl ?_
          refine WL.x (X.field Try.runUnderlying31 rfl Try.sizeOf3 rfl) (by decide) ?_
          refine WL.yes rfl rfl ?_
          refine WL.x (X.loadB (k := 0) Try.isAgg3 rfl rfl rfl) (by decide) ?_
          refine WL.yes rfl rfl ?_
          refine WL.x (X.add rfl rfl (by omega) (by omega)) (by decide) ?_
          refine WL.yes rfl rfl ?_
          refine WL.x (X.leq rfl rfl) (by decide) ?_
          refine WL.yes rfl rfl ?_
          refine WL.x (X.pickT rfl rfl rfl) (by decide) ?_
          refine WL.yes rfl rfl ?_
          refine WL.x (X.pickF rfl rfl rfl) (by decide) ?_
          refine WL.x (X.pickT rfl rfl rfl) (by decide) ?_
          refine WL.x (X.assign rfl) (by decide) ?_
          refine WL.nil ?_
          refine WK.nThen ?_
          refine WC.ret ?_
          refine WK.ret1 rfl rfl (fun w' hw' => Ret.exact hw' ?_)
          first | rfl | (exfalso; omega) | (exfalso; contradiction) | (exfalso; have q_ := hz6 (by omega); contradiction) | exact (bool_true (by first | omega | assumption)).symm
        refine WL.yes rfl rfl ?_
        refine WL.x (X.move rfl) (by decide) ?_
        refine WL.no rfl rfl rfl (by decide) ?_
        refine WL.no rfl rfl rfl (by decide) ?_
        refine WL.no rfl rfl rfl (by decide) ?_
        refine WL.no rfl rfl rfl (by decide) ?_
        refine WL.no rfl rfl rfl (by decide) ?_
        refine WL.no rfl rfl rfl (by decide) ?_
        refine WL.no rfl rfl rfl (by decide) ?_
        refine WL.no rfl rfl rfl (by decide) ?_
        refine WL.yes rfl rfl ?_
        refine WL.x (X.pickF rfl rfl rfl) (by decide) ?_
        refine WL.yes rfl rfl ?_
        refine WL.x (X.pickF rfl rfl rfl) (by decide) ?_
        refine WL.x (X.pickT rfl rfl rfl) (by decide) ?_
        refine WL.x (X.assign rfl) (by decide) ?_
        refine WL.nil ?_
        refine WK.nThen ?_
        refine WC.ret ?_
        refine WK.ret1 rfl rfl (fun w' hw' => Ret.exact hw' ?_)
        first | rfl | (exfalso; omega) | (exfalso; contradiction) | (exfalso; have q_ := hz6 (by omega); contradiction) | exact (bool_true (by first | omega | assumption)).symm
    refine WL.yes rfl rfl ?_
    refine WL.x (X.move rfl) (by decide) ?_
    refine WL.no rfl rfl rfl (by decide) ?_
    refine WL.no rfl rfl rfl (by decide) ?_
    refine WL.no rfl rfl rfl (by decide) ?_
    refine WL.yes rfl rfl ?_
    refine WL.x (X.pickF rfl rfl rfl) (by decide) ?_
    refine WL.x (X.pickF rfl rfl rfl) (by decide) ?_
    refine WL.nil ?_
    refine WK.nThen ?_
    refine WC.condF rfl ?_
    refine WC.skip ?_
    refine WK.nThen ?_
    refine WC.seq ?_
    refine WC.region ?_
    refine WL.x (X.assign rfl) (by decide) ?_
    refine WL.nil ?_
    refine WK.nThen ?_
    refine WC.seq ?_
    refine WC.seq ?_
    refine WC.region ?_
    refine WL.x (X.field Try.runUnderlying31 rfl Try.sizeOf3 rfl) (by decide) ?_
    refine WL.x (X.loadB (k := 0) Try.isAgg3 rfl rfl rfl) (by decide) ?_
    refine WL.x (X.assign rfl) (by decide) ?_
    refine WL.nil ?_
    refine WK.nThen ?_
    refine WC.block ?_
    refine WC.loop (G := Int × Mem) (fun (t, mm) => ((spanR c.D c.M x.A).1.Hi + 1 - t).toNat) (fun (t, mm) => mm) (fun (t, mm) => [blk b25 31 [.int .i64 ((spanR c.D c.M x.A).1.Lo), .int .i64 ((spanR c.D c.M x.A).1.Hi)], blk b24 31 [.int .i64 ((betR c.D c.M x.B x.A).1.Lo), .int .i64 ((betR c.D c.M x.B x.A).1.Hi)], blk b23 31 [.int .i64 ((betR c.D c.M x.A x.B).1.Lo), .int .i64 ((betR c.D c.M x.A x.B).1.Hi)], blk b20 36 [.int .i64 (x.A), .int .i64 (x.B), .int .i64 (x.Tick), v10, v12, v14, .int .i64 (x.First.Column), .int .i64 (x.First.Ticks.Lo), .int .i64 (x.First.Ticks.Hi), .int .i64 (x.Second.Column), .int .i64 (x.Second.Ticks.Lo), .int .i64 (x.Second.Ticks.Hi), .int .i64 (x.Stop.Column), .int .i64 (x.Stop.Ticks.Lo), .int .i64 (x.Stop.Ticks.Hi)], blk b19 28 [v1, v3, v5]]) (fun (t, mm) => [(2, .int .i64 (third)), (3, .int .i64 (n)), (4, .pointer (some ⟨b19, 0, none⟩)), (5, .pointer (some ⟨b20, 0, none⟩)), (9, .bool true), (10, .pointer (some ⟨b23, 0, none⟩)), (14, .pointer (some ⟨b25, 0, none⟩)), (16, .bool false), (17, .int .i64 (t))]) (fun (t, mm) => m.le mm ∧ ((spanR c.D c.M x.A).1.Lo ≤ t ∧ t ≤ (spanR c.D c.M x.A).1.Hi + 1) ∧ ∀ q, (spanR c.D c.M x.A).1.Lo ≤ q → q < t → ¬ ((0 ≤ q + n ∧ q + n ≤ 400) ∧ canR c [⟨x.A, ⟨q, q⟩⟩, ⟨x.B, ⟨q + n, q + n⟩⟩] = true)) (((spanR c.D c.M x.A).1.Lo, m)) rfl (.refl _) (.cons rfl (.cons rfl (.cons rfl (.cons rfl (.cons rfl (.cons rfl (.cons rfl (.cons rfl (.cons rfl .nil))))))))) ?_ ?_
    · exact ⟨Mem.le_refl _, by omega, fun q h1_ h2_ => absurd h2_ (by omega)⟩
    · rintro ⟨t, mm⟩ hF88
      show WK _ _ mm [blk b25 31 [.int .i64 ((spanR c.D c.M x.A).1.Lo), .int .i64 ((spanR c.D c.M x.A).1.Hi)], blk b24 31 [.int .i64 ((betR c.D c.M x.B x.A).1.Lo), .int .i64 ((betR c.D c.M x.B x.A).1.Hi)], blk b23 31 [.int .i64 ((betR c.D c.M x.A x.B).1.Lo), .int .i64 ((betR c.D c.M x.A x.B).1.Hi)], blk b20 36 [.int .i64 (x.A), .int .i64 (x.B), .int .i64 (x.Tick), v10, v12, v14, .int .i64 (x.First.Column), .int .i64 (x.First.Ticks.Lo), .int .i64 (x.First.Ticks.Hi), .int .i64 (x.Second.Column), .int .i64 (x.Second.Ticks.Lo), .int .i64 (x.Second.Ticks.Hi), .int .i64 (x.Stop.Column), .int .i64 (x.Stop.Ticks.Lo), .int .i64 (x.Stop.Ticks.Hi)], blk b19 28 [v1, v3, v5]] [(2, .int .i64 (third)), (3, .int .i64 (n)), (4, .pointer (some ⟨b19, 0, none⟩)), (5, .pointer (some ⟨b20, 0, none⟩)), (9, .bool true), (10, .pointer (some ⟨b23, 0, none⟩)), (14, .pointer (some ⟨b25, 0, none⟩)), (16, .bool false), (17, .int .i64 (t))] _
      replace hF88 : m.le mm ∧ ((spanR c.D c.M x.A).1.Lo ≤ t ∧ t ≤ (spanR c.D c.M x.A).1.Hi + 1) ∧ ∀ q, (spanR c.D c.M x.A).1.Lo ≤ q → q < t → ¬ ((0 ≤ q + n ∧ q + n ≤ 400) ∧ canR c [⟨x.A, ⟨q, q⟩⟩, ⟨x.B, ⟨q + n, q + n⟩⟩] = true) := hF88
      obtain ⟨hmm, ht, hall⟩ := hF88
      replace hs2 := hs2.mono hmm
      replace hs4 := hs4.mono hmm
      replace hs6 := hs6.mono hmm
      replace hs11 := hs11.mono hmm
      replace hs13 := hs13.mono hmm
      replace hs15 := hs15.mono hmm
      refine WC.seq ?_
      refine WC.seq ?_
      refine WC.region ?_
      refine WL.x (X.move rfl) (by decide) ?_
      refine WL.x (X.field Try.runUnderlying31 rfl Try.sizeOf3 rfl) (by decide) ?_
      refine WL.x (X.loadB (k := 0) Try.isAgg3 rfl rfl rfl) (by decide) ?_
      refine WL.cond (X.leq rfl rfl) (by decide) (fun h89 => ?_) (fun h89 => ?_)
      · refine WL.x (X.move rfl) (by decide) ?_
        refine WL.yes rfl rfl ?_
        refine WL.x (X.move rfl) (by decide) ?_
        refine WL.yes rfl rfl ?_
        refine WL.cond (X.geq rfl rfl) (by decide) (fun h90 => ?_) (fun h90 => ?_)
        · refine WL.x (X.pickT rfl rfl rfl) (by decide) ?_
          refine WL.x (X.move rfl) (by decide) ?_
          refine WL.yes rfl rfl ?_
          refine WL.x (X.move rfl) (by decide) ?_
          refine WL.yes rfl rfl ?_
          refine WL.cond (X.leq rfl rfl) (by decide) (fun h91 => ?_) (fun h91 => ?_)
          · refine WL.x (X.pickT rfl rfl rfl) (by decide) ?_
            refine WL.nil ?_
            refine WK.nThen ?_
            refine WC.condT rfl ?_
            refine WC.skip ?_
            refine WK.nThen ?_
            refine WC.seq ?_
            refine WC.block ?_
            refine WC.seq ?_
            refine WC.draw (π := (.cons 0 (.cons 1 (.cons 2 (.cons 3 (.cons 4 (.cons 5 (.cons 6 (.cons 7 (.cons 8 (.cons 9 (.cons 10 (.cons 11 (.cons 12 (.cons 13 (.cons 14 (.cons 15 (.cons 16 (.cons 17 (.cons 18 (.cons 19 (.cons 20 (.cons 21 (.cons 22 (.cons 23 (.cons 24 .done)))))))))))))))))))))))))) [22] [] rfl (by kernel_rfl) ?_
            refine DW.x rfl rfl (X.move rfl) (by decide) ?_
            refine DW.x rfl rfl (X.move rfl) (by decide) ?_
            refine DW.x rfl rfl (X.add rfl rfl (by omega) (by omega)) (by decide) ?_
            refine DW.cond rfl rfl (X.geq rfl rfl) (by decide) (fun h92 => ?_) (fun h92 => ?_)
            · refine DW.x rfl rfl (X.move rfl) (by decide) ?_
              refine DW.x rfl rfl (X.move rfl) (by decide) ?_
              refine DW.x rfl rfl (X.move rfl) (by decide) ?_
              refine DW.x rfl rfl (X.add rfl rfl (by omega) (by omega)) (by decide) ?_
              refine DW.cond rfl rfl (X.leq rfl rfl) (by decide) (fun h93 => ?_) (fun h93 => ?_)
              · refine DW.x rfl rfl (X.pickT rfl rfl rfl) (by decide) ?_
                refine DW.x rfl rfl (X.move rfl) (by decide) ?_
                refine DW.x rfl rfl (X.loadBA (k := 4) Try.isAgg28 Try.sizeOf28 rfl rfl rfl) (by decide) ?_
                refine DW.x rfl rfl (X.field Try.runUnderlying36 rfl Try.sizeOf3 rfl) (by decide) ?_
                refine DW.x rfl rfl (X.loadB (k := 3) Try.isAgg3 rfl rfl rfl) (by decide) ?_
                refine DW.x rfl rfl (X.move rfl) (by decide) ?_
                refine DW.x rfl rfl (X.call Try.call39 rfl (one39 _ _ _ )) (by decide) ?_
                refine DW.x rfl rfl (X.field Try.runUnderlying36 rfl Try.sizeOf3 rfl) (by decide) ?_
                refine DW.x rfl rfl (X.loadB (k := 3) Try.isAgg3 rfl rfl rfl) (by decide) ?_
                refine DW.x rfl rfl (X.move rfl) (by decide) ?_
                refine DW.x rfl rfl (X.move rfl) (by decide) ?_
                refine DW.x rfl rfl (X.add rfl rfl (by omega) (by omega)) (by decide) ?_
                refine DW.x rfl rfl (X.call Try.call39 rfl (one39 _ _ _ )) (by decide) ?_
                refine DW.tm rfl rfl rfl (T.litM (α := Mark) (vals := [.agg [.int .i64 (x.A), .int .i64 (t), .int .i64 (t)].toArray, .agg [.int .i64 (x.B), .int .i64 ((t + n)), .int .i64 ((t + n))].toArray]) (L := [(Mark.mk (x.A) ((Span.mk (t) (t)))), (Mark.mk (x.B) ((Span.mk ((t + n)) ((t + n)))))]) sl26 rfl (.cons rfl rfl (.cons rfl rfl .nil)) rfl rfl) (by decide) (fun m94 v95 hle96 hs97 => ?_)
                replace hs2 := hs2.mono hle96
                replace hs4 := hs4.mono hle96
                replace hs6 := hs6.mono hle96
                replace hs11 := hs11.mono hle96
                replace hs13 := hs13.mono hle96
                replace hs15 := hs15.mono hle96
                refine DW.condb rfl rfl (X.call Try.call30 rfl (can30 _ _ c ⟨_, _, _, rfl, hs2, hs4, hs6⟩ _ _ hs97 (by first | omega | simp) (by first | omega | simp))) (by decide) (fun h98 => ?_) (fun h98 => ?_)
                · refine DW.x rfl rfl (X.pickT rfl rfl rfl) (by decide) ?_
                  refine DW.nil ?_
                  refine WK.nThen ?_
                  refine WC.condT rfl ?_
                  refine WC.seq ?_
                  have hin := ex_in hb (by omega) (t := t) (n := n) (by omega) (by omega) (by assumption)
                  refine WC.region ?_
                  refine WL.x (X.assign rfl) (by decide) ?_
                  refine WL.nil ?_
                  refine WK.nThen ?_
                  refine WC.exit ?_
                  refine WK.eMiss rfl ?_
                  refine WK.eThen ?_
                  refine WK.eThen ?_
                  refine WK.eHit ?_
                  refine WK.nThen ?_
                  refine WC.seq ?_
                  refine WC.seq ?_
                  refine WC.region ?_
                  refine WL.x (X.move rfl) (by decide) ?_
                  refine WL.x (X.field Try.runUnderlying31 rfl Try.sizeOf3 rfl) (by decide) ?_
                  refine WL.x (X.loadB (k := 2) Try.isAgg3 rfl rfl rfl) (by decide) ?_
                  refine WL.x (X.move rfl) (by decide) ?_
                  refine WL.cond (X.leq rfl rfl) (by decide) (fun h99 => ?_) (fun h99 => ?_)
                  · refine WL.x (X.move rfl) (by decide) ?_
                    refine WL.yes rfl rfl ?_
                    refine WL.x (X.move rfl) (by decide) ?_
                    refine WL.yes rfl rfl ?_
                    refine WL.x (X.field Try.runUnderlying31 rfl Try.sizeOf3 rfl) (by decide) ?_
                    refine WL.yes rfl rfl ?_
                    refine WL.x (X.loadB (k := 2) Try.isAgg3 rfl rfl rfl) (by decide) ?_
                    refine WL.yes rfl rfl ?_
                    refine WL.cond (X.leq rfl rfl) (by decide) (fun h100 => ?_) (fun h100 => ?_)
                    · refine WL.x (X.pickT rfl rfl rfl) (by decide) ?_
                      refine WL.x (OpX.f (X.neqB Try.underlying4 rfl rfl) (fun h => h rfl)) (by decide) ?_
                      refine WL.nil ?_
                      refine WK.nThen ?_
                      refine WC.condF rfl ?_
                      refine WC.skip ?_
                      refine WK.nThen ?_
                      refine WC.seq ?_
                      refine WC.region ?_
                      refine WL.x (X.field Try.runUnderlying28 rfl Try.sizeOf25 rfl) (by decide) ?_
                      refine WL.x (X.loadBP (k := 4) (vs := [v1, v3]) Try.isAgg25 Try.sizeOf25 rfl rfl rfl rfl) (by decide) ?_
                      refine WL.x (X.field Try.runUnderlying28 rfl Try.sizeOf26 rfl) (by decide) ?_
                      refine WL.x (X.loadB (k := 4) Try.isAgg26 rfl rfl rfl) (by decide) ?_
                      refine WL.x (X.field Try.runUnderlying36 rfl Try.sizeOf3 rfl) (by decide) ?_
                      refine WL.x (X.loadB (k := 3) Try.isAgg3 rfl rfl rfl) (by decide) ?_
                      refine WL.x (X.move rfl) (by decide) ?_
                      refine WL.x (X.call Try.call21 rfl (between21 _ _ c.D ⟨_, _, rfl, hs2, hs4⟩ _ _ hs6 _ _ )) (by decide) ?_
                      refine WL.x (X.move rfl) (by decide) ?_
                      refine WL.x (X.extract rfl rfl) (by decide) ?_
                      refine WL.x (X.extract rfl rfl) (by decide) ?_
                      refine WL.tn (T.alloc Try.zeroValue31 rfl) (by decide) fun b101 => ?_
                      refine WL.ts (T.storeBA (k := 0) Try.sizeOf31 rfl rfl rfl (one_cons rfl (one_cons rfl one_nil)) rfl rfl) ?_
                      refine WL.x (X.assign rfl) (by decide) ?_
                      refine WL.nil ?_
                      refine WK.nThen ?_
                      refine WC.seq ?_
                      refine WC.region ?_
                      refine WL.x (X.field Try.runUnderlying28 rfl Try.sizeOf25 rfl) (by decide) ?_
                      refine WL.x (X.loadBP (k := 5) (vs := [v1, v3]) Try.isAgg25 Try.sizeOf25 rfl rfl rfl rfl) (by decide) ?_
                      refine WL.x (X.field Try.runUnderlying28 rfl Try.sizeOf26 rfl) (by decide) ?_
                      refine WL.x (X.loadB (k := 5) Try.isAgg26 rfl rfl rfl) (by decide) ?_
                      refine WL.x (X.move rfl) (by decide) ?_
                      refine WL.x (X.field Try.runUnderlying36 rfl Try.sizeOf3 rfl) (by decide) ?_
                      refine WL.x (X.loadB (k := 4) Try.isAgg3 rfl rfl rfl) (by decide) ?_
                      refine WL.x (X.call Try.call21 rfl (between21 _ _ c.D ⟨_, _, rfl, hs2, hs4⟩ _ _ hs6 _ _ )) (by decide) ?_
                      refine WL.x (X.move rfl) (by decide) ?_
                      refine WL.x (X.extract rfl rfl) (by decide) ?_
                      refine WL.x (X.extract rfl rfl) (by decide) ?_
                      refine WL.tn (T.alloc Try.zeroValue31 rfl) (by decide) fun b102 => ?_
                      refine WL.ts (T.storeBA (k := 0) Try.sizeOf31 rfl rfl rfl (one_cons rfl (one_cons rfl one_nil)) rfl rfl) ?_
                      refine WL.x (X.assign rfl) (by decide) ?_
                      refine WL.nil ?_
                      refine WK.nThen ?_
                      refine WC.seq ?_
                      have htri : (betR c.D c.M x.A third).2 = 0 → (betR c.D c.M third x.B).2 = 0 → _ := fun a_ b_ => ex_tri hb a_ b_
                      have hv1 : (betR c.D c.M x.A third).2 = 0 → _ := fun h_ => (betR_zero h_).2.2.2.2.2
                      have hv2 : (betR c.D c.M third x.B).2 = 0 → _ := fun h_ => (betR_zero h_).2.2.2.2.2
                      refine WC.region ?_
                      refine WL.x (X.move rfl) (by decide) ?_
                      refine WL.x (X.move rfl) (by decide) ?_
                      refine WL.yes rfl rfl ?_
                      refine WL.x (X.move rfl) (by decide) ?_
                      refine WL.yes rfl rfl ?_
                      refine WL.condn (X.neq rfl rfl) (by decide) (fun h103 => ?_) (fun h103 => ?_)
                      · refine WL.yes rfl rfl ?_
                        refine WL.x (X.move rfl) (by decide) ?_
                        refine WL.no rfl rfl rfl (by decide) ?_
                        refine WL.no rfl rfl rfl (by decide) ?_
                        refine WL.yes rfl rfl ?_
                        refine WL.x (X.pickT rfl rfl rfl) (by decide) ?_
                        refine WL.yes rfl rfl ?_
                        refine WL.x (X.move rfl) (by decide) ?_
                        refine WL.no rfl rfl rfl (by decide) ?_
                        refine WL.no rfl rfl rfl (by decide) ?_
                        refine WL.no rfl rfl rfl (by decide) ?_
                        refine WL.no rfl rfl rfl (by decide) ?_
                        refine WL.no rfl rfl rfl (by decide) ?_
                        refine WL.no rfl rfl rfl (by decide) ?_
                        refine WL.no rfl rfl rfl (by decide) ?_
                        refine WL.no rfl rfl rfl (by decide) ?_
                        refine WL.no rfl rfl rfl (by decide) ?_
                        refine WL.noU rfl rfl (by decide) ?_
                        refine WL.noU rfl rfl (by decide) ?_
                        refine WL.noU rfl rfl (by decide) ?_
                        refine WL.noU rfl rfl (by decide) ?_
                        refine WL.noU rfl rfl (by decide) ?_
                        refine WL.noU rfl rfl (by decide) ?_
                        refine WL.noU rfl rfl (by decide) ?_
                        refine WL.noU rfl rfl (by decide) ?_
                        refine WL.no rfl rfl rfl (by decide) ?_
                        refine WL.yes rfl rfl ?_
                        refine WL.x (X.pickT rfl rfl rfl) (by decide) ?_
                        refine WL.x (X.pickT rfl rfl rfl) (by decide) ?_
                        refine WL.x (X.assign rfl) (by decide) ?_
                        refine WL.nil ?_
                        refine WK.nThen ?_
                        refine WC.ret ?_
                        refine WK.ret1 rfl rfl (fun w' hw' => Ret.exact hw' ?_)
                        first | rfl | (exfalso; omega) | (exfalso; contradiction) | (exfalso; have q_ := hz6 (by omega); contradiction) | exact (bool_true (by first | omega | assumption)).symm
                      refine WL.yes rfl rfl ?_
                      refine WL.x (X.move rfl) (by decide) ?_
                      refine WL.yes rfl rfl ?_
                      refine WL.x (X.move rfl) (by decide) ?_
                      refine WL.yes rfl rfl ?_
                      refine WL.condn (X.neq rfl rfl) (by decide) (fun h104 => ?_) (fun h104 => ?_)
                      · refine WL.yes rfl rfl ?_
                        refine WL.x (X.pickF rfl rfl rfl) (by decide) ?_
                        refine WL.yes rfl rfl ?_
                        refine WL.x (X.move rfl) (by decide) ?_
                        refine WL.no rfl rfl rfl (by decide) ?_
                        refine WL.no rfl rfl rfl (by decide) ?_
                        refine WL.no rfl rfl rfl (by decide) ?_
                        refine WL.no rfl rfl rfl (by decide) ?_
                        refine WL.no rfl rfl rfl (by decide) ?_
                        refine WL.no rfl rfl rfl (by decide) ?_
                        refine WL.no rfl rfl rfl (by decide) ?_
                        refine WL.no rfl rfl rfl (by decide) ?_
                        refine WL.no rfl rfl rfl (by decide) ?_
                        refine WL.noU rfl rfl (by decide) ?_
                        refine WL.noU rfl rfl (by decide) ?_
                        refine WL.noU rfl rfl (by decide) ?_
                        refine WL.noU rfl rfl (by decide) ?_
                        refine WL.noU rfl rfl (by decide) ?_
                        refine WL.noU rfl rfl (by decide) ?_
                        refine WL.noU rfl rfl (by decide) ?_
                        refine WL.noU rfl rfl (by decide) ?_
                        refine WL.no rfl rfl rfl (by decide) ?_
                        refine WL.yes rfl rfl ?_
                        refine WL.x (X.pickT rfl rfl rfl) (by decide) ?_
                        refine WL.x (X.pickT rfl rfl rfl) (by decide) ?_
                        refine WL.x (X.assign rfl) (by decide) ?_
                        refine WL.nil ?_
                        refine WK.nThen ?_
                        refine WC.ret ?_
                        refine WK.ret1 rfl rfl (fun w' hw' => Ret.exact hw' ?_)
                        first | rfl | (exfalso; omega) | (exfalso; contradiction) | (exfalso; have q_ := hz6 (by omega); contradiction) | exact (bool_true (by first | omega | assumption)).symm
                      refine WL.yes rfl rfl ?_
                      refine WL.x (X.pickF rfl rfl rfl) (by decide) ?_
                      refine WL.yes rfl rfl ?_
                      refine WL.x (X.move rfl) (by decide) ?_
                      refine WL.yes rfl rfl ?_
                      refine WL.x (X.field Try.runUnderlying31 rfl Try.sizeOf3 rfl) (by decide) ?_
                      refine WL.yes rfl rfl ?_
                      refine WL.x (X.loadB (k := 4) Try.isAgg3 rfl rfl rfl) (by decide) ?_
                      refine WL.yes rfl rfl ?_
                      refine WL.x (X.field Try.runUnderlying31 rfl Try.sizeOf3 rfl) (by decide) ?_
                      refine WL.yes rfl rfl ?_
                      refine WL.x (X.loadB (k := 1) Try.isAgg3 rfl rfl rfl) (by decide) ?_
                      refine WL.yes rfl rfl ?_
                      refine WL.x (X.field Try.runUnderlying31 rfl Try.sizeOf3 rfl) (by decide) ?_
                      refine WL.yes rfl rfl ?_
                      refine WL.x (X.loadB (k := 0) Try.isAgg3 rfl rfl rfl) (by decide) ?_
                      refine WL.yes rfl rfl ?_
                      refine WL.x (X.add rfl rfl (by omega) (by omega)) (by decide) ?_
                      refine WL.yes rfl rfl ?_
                      refine WL.cond (X.geq rfl rfl) (by decide) (fun h105 => ?_) (fun h105 => ?_)
                      · refine WL.yes rfl rfl ?_
                        refine WL.x (X.move rfl) (by decide) ?_
                        refine WL.yes rfl rfl ?_
                        refine WL.x (X.field Try.runUnderlying31 rfl Try.sizeOf3 rfl) (by decide) ?_
                        refine WL.yes rfl rfl ?_
                        refine WL.x (X.loadB (k := 4) Try.isAgg3 rfl rfl rfl) (by decide) ?_
                        refine WL.yes rfl rfl ?_
                        refine WL.x (X.field Try.runUnderlying31 rfl Try.sizeOf3 rfl) (by decide) ?_
                        refine WL.yes rfl rfl ?_
                        refine WL.x (X.loadB (k := 1) Try.isAgg3 rfl rfl rfl) (by decide) ?_
                        refine WL.yes rfl rfl ?_
                        refine WL.x (X.field Try.runUnderlying31 rfl Try.sizeOf3 rfl) (by decide) ?_
                        refine WL.yes rfl rfl ?_
                        refine WL.x (X.loadB (k := 0) Try.isAgg3 rfl rfl rfl) (by decide) ?_
                        refine WL.yes rfl rfl ?_
                        refine WL.x (X.add rfl rfl (by omega) (by omega)) (by decide) ?_
                        refine WL.yes rfl rfl ?_
                        refine WL.x (X.leq rfl rfl) (by decide) ?_
                        refine WL.yes rfl rfl ?_
                        refine WL.x (X.pickT rfl rfl rfl) (by decide) ?_
                        refine WL.yes rfl rfl ?_
                        refine WL.x (X.pickF rfl rfl rfl) (by decide) ?_
                        refine WL.x (X.pickT rfl rfl rfl) (by decide) ?_
                        refine WL.x (X.assign rfl) (by decide) ?_
                        refine WL.nil ?_
                        refine WK.nThen ?_
                        refine WC.ret ?_
                        refine WK.ret1 rfl rfl (fun w' hw' => Ret.exact hw' ?_)
                        first | rfl | (exfalso; omega) | (exfalso; contradiction) | (exfalso; have q_ := hz6 (by omega); contradiction) | exact (bool_true (by first | omega | assumption)).symm
                      refine WL.yes rfl rfl ?_
                      refine WL.x (X.move rfl) (by decide) ?_
                      refine WL.no rfl rfl rfl (by decide) ?_
                      refine WL.no rfl rfl rfl (by decide) ?_
                      refine WL.no rfl rfl rfl (by decide) ?_
                      refine WL.no rfl rfl rfl (by decide) ?_
                      refine WL.no rfl rfl rfl (by decide) ?_
                      refine WL.no rfl rfl rfl (by decide) ?_
                      refine WL.no rfl rfl rfl (by decide) ?_
                      refine WL.no rfl rfl rfl (by decide) ?_
                      refine WL.yes rfl rfl ?_
                      refine WL.x (X.pickF rfl rfl rfl) (by decide) ?_
                      refine WL.yes rfl rfl ?_
                      refine WL.x (X.pickF rfl rfl rfl) (by decide) ?_
                      refine WL.x (X.pickT rfl rfl rfl) (by decide) ?_
                      refine WL.x (X.assign rfl) (by decide) ?_
                      refine WL.nil ?_
                      refine WK.nThen ?_
                      refine WC.ret ?_
                      refine WK.ret1 rfl rfl (fun w' hw' => Ret.exact hw' ?_)
                      first | rfl | (exfalso; omega) | (exfalso; contradiction) | (exfalso; have q_ := hz6 (by omega); contradiction) | exact (bool_true (by first | omega | assumption)).symm
                    refine WL.x (X.pickT rfl rfl rfl) (by decide) ?_
                    refine WL.x (OpX.t (X.neqB Try.underlying4 rfl rfl) (by decide)) (by decide) ?_
                    refine WL.nil ?_
                    refine WK.nThen ?_
                    refine WC.condT rfl ?_
                    refine WC.seq ?_
                    refine WC.region ?_
                    refine WL.x (X.assign rfl) (by decide) ?_
                    refine WL.nil ?_
                    refine WK.nThen ?_
                    refine WC.ret ?_
                    refine WK.rThen ?_
                    refine WK.ret1 rfl rfl (fun w' hw' => Ret.exact hw' ?_)
                    first | rfl | (exfalso; omega) | (exfalso; contradiction) | (exfalso; have q_ := hz6 (by omega); contradiction) | exact (bool_true (by first | omega | assumption)).symm
                  refine WL.x (X.move rfl) (by decide) ?_
                  refine WL.no rfl rfl rfl (by decide) ?_
                  refine WL.no rfl rfl rfl (by decide) ?_
                  refine WL.no rfl rfl rfl (by decide) ?_
                  refine WL.no rfl rfl rfl (by decide) ?_
                  refine WL.x (X.pickF rfl rfl rfl) (by decide) ?_
                  refine WL.x (OpX.t (X.neqB Try.underlying4 rfl rfl) (by decide)) (by decide) ?_
                  refine WL.nil ?_
                  refine WK.nThen ?_
                  refine WC.condT rfl ?_
                  refine WC.seq ?_
                  refine WC.region ?_
                  refine WL.x (X.assign rfl) (by decide) ?_
                  refine WL.nil ?_
                  refine WK.nThen ?_
                  refine WC.ret ?_
                  refine WK.rThen ?_
                  refine WK.ret1 rfl rfl (fun w' hw' => Ret.exact hw' ?_)
                  first | rfl | (exfalso; omega) | (exfalso; contradiction) | (exfalso; have q_ := hz6 (by omega); contradiction) | exact (bool_true (by first | omega | assumption)).symm
                refine DW.x rfl rfl (X.pickT rfl rfl rfl) (by decide) ?_
                refine DW.nil ?_
                refine WK.nThen ?_
                refine WC.condF rfl ?_
                refine WC.skip ?_
                refine WK.nBlock ?_
                refine WK.nThen ?_
                refine WC.region ?_
                refine WL.x (X.move rfl) (by decide) ?_
                refine WL.x (X.add rfl rfl (by omega) (by omega)) (by decide) ?_
                refine WL.x (X.assign rfl) (by decide) ?_
                refine WL.nil ?_
                refine WK.nThen ?_
                refine WK.next ((t + 1, m94)) rfl (.refl _) (.cons rfl (.cons rfl (.cons rfl (.cons rfl (.cons rfl (.cons rfl (.cons rfl (.cons rfl (.cons rfl .nil))))))))) ?_ ?_
                · exact ⟨Mem.le_trans hmm hle96, by omega, fun q_ h1_ h2_ => by rcases (show q_ < t ∨ q_ = t by omega) with h_ | h_; exact hall q_ h1_ h_; rw [h_]; intro hh_; first | omega | exact Bool.noConfusion (hh_.2.symm.trans ‹canR c [⟨x.A, ⟨t, t⟩⟩, ⟨x.B, ⟨t + n, t + n⟩⟩] = false›)⟩
                · (dsimp only; omega)
              refine DW.x rfl rfl (X.pickT rfl rfl rfl) (by decide) ?_
              refine DW.x rfl rfl (X.move rfl) (by decide) ?_
              refine DW.no rfl rfl (by decide) ?_
              refine DW.no rfl rfl (by decide) ?_
              refine DW.no rfl rfl (by decide) ?_
              refine DW.no rfl rfl (by decide) ?_
              refine DW.no rfl rfl (by decide) ?_
              refine DW.no rfl rfl (by decide) ?_
              refine DW.no rfl rfl (by decide) ?_
              refine DW.no rfl rfl (by decide) ?_
              refine DW.no rfl rfl (by decide) ?_
              refine DW.no rfl rfl (by decide) ?_
              refine DW.no rfl rfl (by decide) ?_
              refine DW.no rfl rfl (by decide) ?_
              refine DW.no rfl rfl (by decide) ?_
              refine DW.x rfl rfl (X.pickF rfl rfl rfl) (by decide) ?_
              refine DW.nil ?_
              refine WK.nThen ?_
              refine WC.condF rfl ?_
              refine WC.skip ?_
              refine WK.nBlock ?_
              refine WK.nThen ?_
              refine WC.region ?_
              refine WL.x (X.move rfl) (by decide) ?_
              refine WL.x (X.add rfl rfl (by omega) (by omega)) (by decide) ?_
              refine WL.x (X.assign rfl) (by decide) ?_
              refine WL.nil ?_
              refine WK.nThen ?_
              refine WK.next ((t + 1, mm)) rfl (.refl _) (.cons rfl (.cons rfl (.cons rfl (.cons rfl (.cons rfl (.cons rfl (.cons rfl (.cons rfl (.cons rfl .nil))))))))) ?_ ?_
              · exact ⟨Mem.le_trans hmm (Mem.le_refl _), by omega, fun q_ h1_ h2_ => by rcases (show q_ < t ∨ q_ = t by omega) with h_ | h_; exact hall q_ h1_ h_; rw [h_]; intro hh_; first | omega | exact Bool.noConfusion (hh_.2.symm.trans ‹canR c [⟨x.A, ⟨t, t⟩⟩, ⟨x.B, ⟨t + n, t + n⟩⟩] = false›)⟩
              · (dsimp only; omega)
            refine DW.x rfl rfl (X.move rfl) (by decide) ?_
            refine DW.no rfl rfl (by decide) ?_
            refine DW.no rfl rfl (by decide) ?_
            refine DW.no rfl rfl (by decide) ?_
            refine DW.no rfl rfl (by decide) ?_
            refine DW.x rfl rfl (X.pickF rfl rfl rfl) (by decide) ?_
            refine DW.x rfl rfl (X.move rfl) (by decide) ?_
            refine DW.no rfl rfl (by decide) ?_
            refine DW.no rfl rfl (by decide) ?_
            refine DW.no rfl rfl (by decide) ?_
            refine DW.no rfl rfl (by decide) ?_
            refine DW.no rfl rfl (by decide) ?_
            refine DW.no rfl rfl (by decide) ?_
            refine DW.no rfl rfl (by decide) ?_
            refine DW.no rfl rfl (by decide) ?_
            refine DW.no rfl rfl (by decide) ?_
            refine DW.no rfl rfl (by decide) ?_
            refine DW.no rfl rfl (by decide) ?_
            refine DW.no rfl rfl (by decide) ?_
            refine DW.no rfl rfl (by decide) ?_
            refine DW.x rfl rfl (X.pickF rfl rfl rfl) (by decide) ?_
            refine DW.nil ?_
            refine WK.nThen ?_
            refine WC.condF rfl ?_
            refine WC.skip ?_
            refine WK.nBlock ?_
            refine WK.nThen ?_
            refine WC.region ?_
            refine WL.x (X.move rfl) (by decide) ?_
            refine WL.x (X.add rfl rfl (by omega) (by omega)) (by decide) ?_
            refine WL.x (X.assign rfl) (by decide) ?_
            refine WL.nil ?_
            refine WK.nThen ?_
            refine WK.next ((t + 1, mm)) rfl (.refl _) (.cons rfl (.cons rfl (.cons rfl (.cons rfl (.cons rfl (.cons rfl (.cons rfl (.cons rfl (.cons rfl .nil))))))))) ?_ ?_
            · exact ⟨Mem.le_trans hmm (Mem.le_refl _), by omega, fun q_ h1_ h2_ => by rcases (show q_ < t ∨ q_ = t by omega) with h_ | h_; exact hall q_ h1_ h_; rw [h_]; intro hh_; first | omega | exact Bool.noConfusion (hh_.2.symm.trans ‹canR c [⟨x.A, ⟨t, t⟩⟩, ⟨x.B, ⟨t + n, t + n⟩⟩] = false›)⟩
            · (dsimp only; omega)
          refine WL.x (X.pickT rfl rfl rfl) (by decide) ?_
          refine WL.nil ?_
          refine WK.nThen ?_
          refine WC.condF rfl ?_
          refine WC.exit ?_
          refine WK.eThen ?_
          refine WK.eThen ?_
          refine WK.eHit ?_
          refine WK.nThen ?_
          refine WC.seq ?_
          refine WC.seq ?_
          have hout : ¬ ((betR c.D c.M x.A x.B).1.Lo ≤ n ∧ n ≤ (betR c.D c.M x.A x.B).1.Hi) := (by first | omega | exact ex_out hb (by omega) (fun q_ h1_ h2_ => hall q_ h1_ (by omega)))
          refine WC.region ?_
          refine WL.x (X.move rfl) (by decide) ?_
          refine WL.x (X.field Try.runUnderlying31 rfl Try.sizeOf3 rfl) (by decide) ?_
          refine WL.x (X.loadB (k := 2) Try.isAgg3 rfl rfl rfl) (by decide) ?_
          refine WL.x (X.move rfl) (by decide) ?_
          refine WL.cond (X.leq rfl rfl) (by decide) (fun h106 => ?_) (fun h106 => ?_)
          · refine WL.x (X.move rfl) (by decide) ?_
            refine WL.yes rfl rfl ?_
            refine WL.x (X.move rfl) (by decide) ?_
            refine WL.yes rfl rfl ?_
            refine WL.x (X.field Try.runUnderlying31 rfl Try.sizeOf3 rfl) (by decide) ?_
            refine WL.yes rfl rfl ?_
            refine WL.x (X.loadB (k := 2) Try.isAgg3 rfl rfl rfl) (by decide) ?_
            refine WL.yes rfl rfl ?_
            refine WL.cond (X.leq rfl rfl) (by decide) (fun h107 => ?_) (fun h107 => ?_)
            · refine WL.x (X.pickT rfl rfl rfl) (by decide) ?_
              refine WL.x (OpX.t (X.neqB Try.underlying4 rfl rfl) (by decide)) (by decide) ?_
              refine WL.nil ?_
              refine WK.nThen ?_
              refine WC.condT rfl ?_
              refine WC.seq ?_
              refine WC.region ?_
              refine WL.x (X.assign rfl) (by decide) ?_
              refine WL.nil ?_
              refine WK.nThen ?_
              refine WC.ret ?_
              refine WK.rThen ?_
              refine WK.ret1 rfl rfl (fun w' hw' => Ret.exact hw' ?_)
              first | rfl | (exfalso; omega) | (exfalso; contradiction) | (exfalso; have q_ := hz6 (by omega); contradiction) | exact (bool_true (by first | omega | assumption)).symm
            refine WL.x (X.pickT rfl rfl rfl) (by decide) ?_
            refine WL.x (OpX.f (X.neqB Try.underlying4 rfl rfl) (fun h => h rfl)) (by decide) ?_
            refine WL.nil ?_
            refine WK.nThen ?_
            refine WC.condF rfl ?_
            refine WC.skip ?_
            refine WK.nThen ?_
            refine WC.seq ?_
            refine WC.region ?_
            refine WL.x (X.field Try.runUnderlying28 rfl Try.sizeOf25 rfl) (by decide) ?_
            refine WL.x (X.loadBP (k := 4) (vs := [v1, v3]) Try.isAgg25 Try.sizeOf25 rfl rfl rfl rfl) (by decide) ?_
            refine WL.x (X.field Try.runUnderlying28 rfl Try.sizeOf26 rfl) (by decide) ?_
            refine WL.x (X.loadB (k := 4) Try.isAgg26 rfl rfl rfl) (by decide) ?_
            refine WL.x (X.field Try.runUnderlying36 rfl Try.sizeOf3 rfl) (by decide) ?_
            refine WL.x (X.loadB (k := 3) Try.isAgg3 rfl rfl rfl) (by decide) ?_
            refine WL.x (X.move rfl) (by decide) ?_
            refine WL.x (X.call Try.call21 rfl (between21 _ _ c.D ⟨_, _, rfl, hs2, hs4⟩ _ _ hs6 _ _ )) (by decide) ?_
            refine WL.x (X.move rfl) (by decide) ?_
            refine WL.x (X.extract rfl rfl) (by decide) ?_
            refine WL.x (X.extract rfl rfl) (by decide) ?_
            refine WL.tn (T.alloc Try.zeroValue31 rfl) (by decide) fun b108 => ?_
            refine WL.ts (T.storeBA (k := 0) Try.sizeOf31 rfl rfl rfl (one_cons rfl (one_cons rfl one_nil)) rfl rfl) ?_
            refine WL.x (X.assign rfl) (by decide) ?_
            refine WL.nil ?_
            refine WK.nThen ?_
            refine WC.seq ?_
            refine WC.region ?_
            refine WL.x (X.field Try.runUnderlying28 rfl Try.sizeOf25 rfl) (by decide) ?_
            refine WL.x (X.loadBP (k := 5) (vs := [v1, v3]) Try.isAgg25 Try.sizeOf25 rfl rfl rfl rfl) (by decide) ?_
            refine WL.x (X.field Try.runUnderlying28 rfl Try.sizeOf26 rfl) (by decide) ?_
            refine WL.x (X.loadB (k := 5) Try.isAgg26 rfl rfl rfl) (by decide) ?_
            refine WL.x (X.move rfl) (by decide) ?_
            refine WL.x (X.field Try.runUnderlying36 rfl Try.sizeOf3 rfl) (by decide) ?_
            refine WL.x (X.loadB (k := 4) Try.isAgg3 rfl rfl rfl) (by decide) ?_
            refine WL.x (X.call Try.call21 rfl (between21 _ _ c.D ⟨_, _, rfl, hs2, hs4⟩ _ _ hs6 _ _ )) (by decide) ?_
            refine WL.x (X.move rfl) (by decide) ?_
            refine WL.x (X.extract rfl rfl) (by decide) ?_
            refine WL.x (X.extract rfl rfl) (by decide) ?_
            refine WL.tn (T.alloc Try.zeroValue31 rfl) (by decide) fun b109 => ?_
            refine WL.ts (T.storeBA (k := 0) Try.sizeOf31 rfl rfl rfl (one_cons rfl (one_cons rfl one_nil)) rfl rfl) ?_
            refine WL.x (X.assign rfl) (by decide) ?_
            refine WL.nil ?_
            refine WK.nThen ?_
            refine WC.seq ?_
            have htri : (betR c.D c.M x.A third).2 = 0 → (betR c.D c.M third x.B).2 = 0 → _ := fun a_ b_ => ex_tri hb a_ b_
            have hv1 : (betR c.D c.M x.A third).2 = 0 → _ := fun h_ => (betR_zero h_).2.2.2.2.2
            have hv2 : (betR c.D c.M third x.B).2 = 0 → _ := fun h_ => (betR_zero h_).2.2.2.2.2
            refine WC.region ?_
            refine WL.x (X.move rfl) (by decide) ?_
            refine WL.x (X.move rfl) (by decide) ?_
            refine WL.yes rfl rfl ?_
            refine WL.x (X.move rfl) (by decide) ?_
            refine WL.yes rfl rfl ?_
            refine WL.condn (X.neq rfl rfl) (by decide) (fun h110 => ?_) (fun h110 => ?_)
            · refine WL.yes rfl rfl ?_
              refine WL.x (X.move rfl) (by decide) ?_
              refine WL.no rfl rfl rfl (by decide) ?_
              refine WL.no rfl rfl rfl (by decide) ?_
              refine WL.yes rfl rfl ?_
              refine WL.x (X.pickT rfl rfl rfl) (by decide) ?_
              refine WL.yes rfl rfl ?_
              refine WL.x (X.move rfl) (by decide) ?_
              refine WL.no rfl rfl rfl (by decide) ?_
              refine WL.no rfl rfl rfl (by decide) ?_
              refine WL.no rfl rfl rfl (by decide) ?_
              refine WL.no rfl rfl rfl (by decide) ?_
              refine WL.no rfl rfl rfl (by decide) ?_
              refine WL.no rfl rfl rfl (by decide) ?_
              refine WL.no rfl rfl rfl (by decide) ?_
              refine WL.no rfl rfl rfl (by decide) ?_
              refine WL.no rfl rfl rfl (by decide) ?_
              refine WL.noU rfl rfl (by decide) ?_
              refine WL.noU rfl rfl (by decide) ?_
              refine WL.noU rfl rfl (by decide) ?_
              refine WL.noU rfl rfl (by decide) ?_
              refine WL.noU rfl rfl (by decide) ?_
              refine WL.noU rfl rfl (by decide) ?_
              refine WL.noU rfl rfl (by decide) ?_
              refine WL.noU rfl rfl (by decide) ?_
              refine WL.no rfl rfl rfl (by decide) ?_
              refine WL.yes rfl rfl ?_
              refine WL.x (X.pickT rfl rfl rfl) (by decide) ?_
              refine WL.x (X.pickT rfl rfl rfl) (by decide) ?_
              refine WL.x (X.assign rfl) (by decide) ?_
              refine WL.nil ?_
              refine WK.nThen ?_
              refine WC.ret ?_
              refine WK.ret1 rfl rfl (fun w' hw' => Ret.exact hw' ?_)
              first | rfl | (exfalso; omega) | (exfalso; contradiction) | (exfalso; have q_ := hz6 (by omega); contradiction) | exact (bool_true (by first | omega | assumption)).symm
            refine WL.yes rfl rfl ?_
            refine WL.x (X.move rfl) (by decide) ?_
            refine WL.yes rfl rfl ?_
            refine WL.x (X.move rfl) (by decide) ?_
            refine WL.yes rfl rfl ?_
            refine WL.condn (X.neq rfl rfl) (by decide) (fun h111 => ?_) (fun h111 => ?_)
            · refine WL.yes rfl rfl ?_
              refine WL.x (X.pickF rfl rfl rfl) (by decide) ?_
              refine WL.yes rfl rfl ?_
              refine WL.x (X.move rfl) (by decide) ?_
              refine WL.no rfl rfl rfl (by decide) ?_
              refine WL.no rfl rfl rfl (by decide) ?_
              refine WL.no rfl rfl rfl (by decide) ?_
              refine WL.no rfl rfl rfl (by decide) ?_
              refine WL.no rfl rfl rfl (by decide) ?_
              refine WL.no rfl rfl rfl (by decide) ?_
              refine WL.no rfl rfl rfl (by decide) ?_
              refine WL.no rfl rfl rfl (by decide) ?_
              refine WL.no rfl rfl rfl (by decide) ?_
              refine WL.noU rfl rfl (by decide) ?_
              refine WL.noU rfl rfl (by decide) ?_
              refine WL.noU rfl rfl (by decide) ?_
              refine WL.noU rfl rfl (by decide) ?_
              refine WL.noU rfl rfl (by decide) ?_
              refine WL.noU rfl rfl (by decide) ?_
              refine WL.noU rfl rfl (by decide) ?_
              refine WL.noU rfl rfl (by decide) ?_
              refine WL.no rfl rfl rfl (by decide) ?_
              refine WL.yes rfl rfl ?_
              refine WL.x (X.pickT rfl rfl rfl) (by decide) ?_
              refine WL.x (X.pickT rfl rfl rfl) (by decide) ?_
              refine WL.x (X.assign rfl) (by decide) ?_
              refine WL.nil ?_
              refine WK.nThen ?_
              refine WC.ret ?_
              refine WK.ret1 rfl rfl (fun w' hw' => Ret.exact hw' ?_)
              first | rfl | (exfalso; omega) | (exfalso; contradiction) | (exfalso; have q_ := hz6 (by omega); contradiction) | exact (bool_true (by first | omega | assumption)).symm
            refine WL.yes rfl rfl ?_
            refine WL.x (X.pickF rfl rfl rfl) (by decide) ?_
            refine WL.yes rfl rfl ?_
            refine WL.x (X.move rfl) (by decide) ?_
            refine WL.yes rfl rfl ?_
            refine WL.x (X.field Try.runUnderlying31 rfl Try.sizeOf3 rfl) (by decide) ?_
            refine WL.yes rfl rfl ?_
            refine WL.x (X.loadB (k := 4) Try.isAgg3 rfl rfl rfl) (by decide) ?_
            refine WL.yes rfl rfl ?_
            refine WL.x (X.field Try.runUnderlying31 rfl Try.sizeOf3 rfl) (by decide) ?_
            refine WL.yes rfl rfl ?_
            refine WL.x (X.loadB (k := 1) Try.isAgg3 rfl rfl rfl) (by decide) ?_
            refine WL.yes rfl rfl ?_
            refine WL.x (X.field Try.runUnderlying31 rfl Try.sizeOf3 rfl) (by decide) ?_
            refine WL.yes rfl rfl ?_
            refine WL.x (X.loadB (k := 0) Try.isAgg3 rfl rfl rfl) (by decide) ?_
            refine WL.yes rfl rfl ?_
            refine WL.x (X.add rfl rfl (by omega) (by omega)) (by decide) ?_
            refine WL.yes rfl rfl ?_
            refine WL.cond (X.geq rfl rfl) (by decide) (fun h112 => ?_) (fun h112 => ?_)
            · refine WL.yes rfl rfl ?_
              refine WL.x (X.move rfl) (by decide) ?_
              refine WL.yes rfl rfl ?_
              refine WL.x (X.field Try.runUnderlying31 rfl Try.sizeOf3 rfl) (by decide) ?_
              refine WL.yes rfl rfl ?_
              refine WL.x (X.loadB (k := 4) Try.isAgg3 rfl rfl rfl) (by decide) ?_
              refine WL.yes rfl rfl ?_
              refine WL.x (X.field Try.runUnderlying31 rfl Try.sizeOf3 rfl) (by decide) ?_
              refine WL.yes rfl rfl ?_
              refine WL.x (X.loadB (k := 1) Try.isAgg3 rfl rfl rfl) (by decide) ?_
              refine WL.yes rfl rfl ?_
              refine WL.x (X.field Try.runUnderlying31 rfl Try.sizeOf3 rfl) (by decide) ?_
              refine WL.yes rfl rfl ?_
              refine WL.x (X.loadB (k := 0) Try.isAgg3 rfl rfl rfl) (by decide) ?_
              refine WL.yes rfl rfl ?_
              refine WL.x (X.add rfl rfl (by omega) (by omega)) (by decide) ?_
              refine WL.yes rfl rfl ?_
              refine WL.x (X.leq rfl rfl) (by decide) ?_
              refine WL.yes rfl rfl ?_
              refine WL.x (X.pickT rfl rfl rfl) (by decide) ?_
              refine WL.yes rfl rfl ?_
              refine WL.x (X.pickF rfl rfl rfl) (by decide) ?_
              refine WL.x (X.pickT rfl rfl rfl) (by decide) ?_
              refine WL.x (X.assign rfl) (by decide) ?_
              refine WL.nil ?_
              refine WK.nThen ?_
              refine WC.ret ?_
              refine WK.ret1 rfl rfl (fun w' hw' => Ret.exact hw' ?_)
              first | rfl | (exfalso; omega) | (exfalso; contradiction) | (exfalso; have q_ := hz6 (by omega); contradiction) | exact (bool_true (by first | omega | assumption)).symm
            refine WL.yes rfl rfl ?_
            refine WL.x (X.move rfl) (by decide) ?_
            refine WL.no rfl rfl rfl (by decide) ?_
            refine WL.no rfl rfl rfl (by decide) ?_
            refine WL.no rfl rfl rfl (by decide) ?_
            refine WL.no rfl rfl rfl (by decide) ?_
            refine WL.no rfl rfl rfl (by decide) ?_
            refine WL.no rfl rfl rfl (by decide) ?_
            refine WL.no rfl rfl rfl (by decide) ?_
            refine WL.no rfl rfl rfl (by decide) ?_
            refine WL.yes rfl rfl ?_
            refine WL.x (X.pickF rfl rfl rfl) (by decide) ?_
            refine WL.yes rfl rfl ?_
            refine WL.x (X.pickF rfl rfl rfl) (by decide) ?_
            refine WL.x (X.pickT rfl rfl rfl) (by decide) ?_
            refine WL.x (X.assign rfl) (by decide) ?_
            refine WL.nil ?_
            refine WK.nThen ?_
            refine WC.ret ?_
            refine WK.ret1 rfl rfl (fun w' hw' => Ret.exact hw' ?_)
            first | rfl | (exfalso; omega) | (exfalso; contradiction) | (exfalso; have q_ := hz6 (by omega); contradiction) | exact (bool_true (by first | omega | assumption)).symm
          refine WL.x (X.move rfl) (by decide) ?_
          refine WL.no rfl rfl rfl (by decide) ?_
          refine WL.no rfl rfl rfl (by decide) ?_
          refine WL.no rfl rfl rfl (by decide) ?_
          refine WL.no rfl rfl rfl (by decide) ?_
          refine WL.x (X.pickF rfl rfl rfl) (by decide) ?_
          refine WL.x (OpX.f (X.neqB Try.underlying4 rfl rfl) (fun h => h rfl)) (by decide) ?_
          refine WL.nil ?_
          refine WK.nThen ?_
          refine WC.condF rfl ?_
          refine WC.skip ?_
          refine WK.nThen ?_
          refine WC.seq ?_
          refine WC.region ?_
          refine WL.x (X.field Try.runUnderlying28 rfl Try.sizeOf25 rfl) (by decide) ?_
          refine WL.x (X.loadBP (k := 4) (vs := [v1, v3]) Try.isAgg25 Try.sizeOf25 rfl rfl rfl rfl) (by decide) ?_
          refine WL.x (X.field Try.runUnderlying28 rfl Try.sizeOf26 rfl) (by decide) ?_
          refine WL.x (X.loadB (k := 4) Try.isAgg26 rfl rfl rfl) (by decide) ?_
          refine WL.x (X.field Try.runUnderlying36 rfl Try.sizeOf3 rfl) (by decide) ?_
          refine WL.x (X.loadB (k := 3) Try.isAgg3 rfl rfl rfl) (by decide) ?_
          refine WL.x (X.move rfl) (by decide) ?_
          refine WL.x (X.call Try.call21 rfl (between21 _ _ c.D ⟨_, _, rfl, hs2, hs4⟩ _ _ hs6 _ _ )) (by decide) ?_
          refine WL.x (X.move rfl) (by decide) ?_
          refine WL.x (X.extract rfl rfl) (by decide) ?_
          refine WL.x (X.extract rfl rfl) (by decide) ?_
          refine WL.tn (T.alloc Try.zeroValue31 rfl) (by decide) fun b113 => ?_
          refine WL.ts (T.storeBA (k := 0) Try.sizeOf31 rfl rfl rfl (one_cons rfl (one_cons rfl one_nil)) rfl rfl) ?_
          refine WL.x (X.assign rfl) (by decide) ?_
          refine WL.nil ?_
          refine WK.nThen ?_
          refine WC.seq ?_
          refine WC.region ?_
          refine WL.x (X.field Try.runUnderlying28 rfl Try.sizeOf25 rfl) (by decide) ?_
          refine WL.x (X.loadBP (k := 5) (vs := [v1, v3]) Try.isAgg25 Try.sizeOf25 rfl rfl rfl rfl) (by decide) ?_
          refine WL.x (X.field Try.runUnderlying28 rfl Try.sizeOf26 rfl) (by decide) ?_
          refine WL.x (X.loadB (k := 5) Try.isAgg26 rfl rfl rfl) (by decide) ?_
          refine WL.x (X.move rfl) (by decide) ?_
          refine WL.x (X.field Try.runUnderlying36 rfl Try.sizeOf3 rfl) (by decide) ?_
          refine WL.x (X.loadB (k := 4) Try.isAgg3 rfl rfl rfl) (by decide) ?_
          refine WL.x (X.call Try.call21 rfl (between21 _ _ c.D ⟨_, _, rfl, hs2, hs4⟩ _ _ hs6 _ _ )) (by decide) ?_
          refine WL.x (X.move rfl) (by decide) ?_
          refine WL.x (X.extract rfl rfl) (by decide) ?_
          refine WL.x (X.extract rfl rfl) (by decide) ?_
          refine WL.tn (T.alloc Try.zeroValue31 rfl) (by decide) fun b114 => ?_
          refine WL.ts (T.storeBA (k := 0) Try.sizeOf31 rfl rfl rfl (one_cons rfl (one_cons rfl one_nil)) rfl rfl) ?_
          refine WL.x (X.assign rfl) (by decide) ?_
          refine WL.nil ?_
          refine WK.nThen ?_
          refine WC.seq ?_
          have htri : (betR c.D c.M x.A third).2 = 0 → (betR c.D c.M third x.B).2 = 0 → _ := fun a_ b_ => ex_tri hb a_ b_
          have hv1 : (betR c.D c.M x.A third).2 = 0 → _ := fun h_ => (betR_zero h_).2.2.2.2.2
          have hv2 : (betR c.D c.M third x.B).2 = 0 → _ := fun h_ => (betR_zero h_).2.2.2.2.2
          refine WC.region ?_
          refine WL.x (X.move rfl) (by decide) ?_
          refine WL.x (X.move rfl) (by decide) ?_
          refine WL.yes rfl rfl ?_
          refine WL.x (X.move rfl) (by decide) ?_
          refine WL.yes rfl rfl ?_
          refine WL.condn (X.neq rfl rfl) (by decide) (fun h115 => ?_) (fun h115 => ?_)
          · refine WL.yes rfl rfl ?_
            refine WL.x (X.move rfl) (by decide) ?_
            refine WL.no rfl rfl rfl (by decide) ?_
            refine WL.no rfl rfl rfl (by decide) ?_
            refine WL.yes rfl rfl ?_
            refine WL.x (X.pickT rfl rfl rfl) (by decide) ?_
            refine WL.yes rfl rfl ?_
            refine WL.x (X.move rfl) (by decide) ?_
            refine WL.no rfl rfl rfl (by decide) ?_
            refine WL.no rfl rfl rfl (by decide) ?_
            refine WL.no rfl rfl rfl (by decide) ?_
            refine WL.no rfl rfl rfl (by decide) ?_
            refine WL.no rfl rfl rfl (by decide) ?_
            refine WL.no rfl rfl rfl (by decide) ?_
            refine WL.no rfl rfl rfl (by decide) ?_
            refine WL.no rfl rfl rfl (by decide) ?_
            refine WL.no rfl rfl rfl (by decide) ?_
            refine WL.noU rfl rfl (by decide) ?_
            refine WL.noU rfl rfl (by decide) ?_
            refine WL.noU rfl rfl (by decide) ?_
            refine WL.noU rfl rfl (by decide) ?_
            refine WL.noU rfl rfl (by decide) ?_
            refine WL.noU rfl rfl (by decide) ?_
            refine WL.noU rfl rfl (by decide) ?_
            refine WL.noU rfl rfl (by decide) ?_
            refine WL.no rfl rfl rfl (by decide) ?_
            refine WL.yes rfl rfl ?_
            refine WL.x (X.pickT rfl rfl rfl) (by decide) ?_
            refine WL.x (X.pickT rfl rfl rfl) (by decide) ?_
            refine WL.x (X.assign rfl) (by decide) ?_
            refine WL.nil ?_
            refine WK.nThen ?_
            refine WC.ret ?_
            refine WK.ret1 rfl rfl (fun w' hw' => Ret.exact hw' ?_)
            first | rfl | (exfalso; omega) | (exfalso; contradiction) | (exfalso; have q_ := hz6 (by omega); contradiction) | exact (bool_true (by first | omega | assumption)).symm
          refine WL.yes rfl rfl ?_
          refine WL.x (X.move rfl) (by decide) ?_
          refine WL.yes rfl rfl ?_
          refine WL.x (X.move rfl) (by decide) ?_
          refine WL.yes rfl rfl ?_
          refine WL.condn (X.neq rfl rfl) (by decide) (fun h116 => ?_) (fun h116 => ?_)
          · refine WL.yes rfl rfl ?_
            refine WL.x (X.pickF rfl rfl rfl) (by decide) ?_
            refine WL.yes rfl rfl ?_
            refine WL.x (X.move rfl) (by decide) ?_
            refine WL.no rfl rfl rfl (by decide) ?_
            refine WL.no rfl rfl rfl (by decide) ?_
            refine WL.no rfl rfl rfl (by decide) ?_
            refine WL.no rfl rfl rfl (by decide) ?_
            refine WL.no rfl rfl rfl (by decide) ?_
            refine WL.no rfl rfl rfl (by decide) ?_
            refine WL.no rfl rfl rfl (by decide) ?_
            refine WL.no rfl rfl rfl (by decide) ?_
            refine WL.no rfl rfl rfl (by decide) ?_
            refine WL.noU rfl rfl (by decide) ?_
            refine WL.noU rfl rfl (by decide) ?_
            refine WL.noU rfl rfl (by decide) ?_
            refine WL.noU rfl rfl (by decide) ?_
            refine WL.noU rfl rfl (by decide) ?_
            refine WL.noU rfl rfl (by decide) ?_
            refine WL.noU rfl rfl (by decide) ?_
            refine WL.noU rfl rfl (by decide) ?_
            refine WL.no rfl rfl rfl (by decide) ?_
            refine WL.yes rfl rfl ?_
            refine WL.x (X.pickT rfl rfl rfl) (by decide) ?_
            refine WL.x (X.pickT rfl rfl rfl) (by decide) ?_
            refine WL.x (X.assign rfl) (by decide) ?_
            refine WL.nil ?_
            refine WK.nThen ?_
            refine WC.ret ?_
            refine WK.ret1 rfl rfl (fun w' hw' => Ret.exact hw' ?_)
            first | rfl | (exfalso; omega) | (exfalso; contradiction) | (exfalso; have q_ := hz6 (by omega); contradiction) | exact (bool_true (by first | omega | assumption)).symm
          refine WL.yes rfl rfl ?_
          refine WL.x (X.pickF rfl rfl rfl) (by decide) ?_
          refine WL.yes rfl rfl ?_
          refine WL.x (X.move rfl) (by decide) ?_
          refine WL.yes rfl rfl ?_
          refine WL.x (X.field Try.runUnderlying31 rfl Try.sizeOf3 rfl) (by decide) ?_
          refine WL.yes rfl rfl ?_
          refine WL.x (X.loadB (k := 4) Try.isAgg3 rfl rfl rfl) (by decide) ?_
          refine WL.yes rfl rfl ?_
          refine WL.x (X.field Try.runUnderlying31 rfl Try.sizeOf3 rfl) (by decide) ?_
          refine WL.yes rfl rfl ?_
          refine WL.x (X.loadB (k := 1) Try.isAgg3 rfl rfl rfl) (by decide) ?_
          refine WL.yes rfl rfl ?_
          refine WL.x (X.field Try.runUnderlying31 rfl Try.sizeOf3 rfl) (by decide) ?_
          refine WL.yes rfl rfl ?_
          refine WL.x (X.loadB (k := 0) Try.isAgg3 rfl rfl rfl) (by decide) ?_
          refine WL.yes rfl rfl ?_
          refine WL.x (X.add rfl rfl (by omega) (by omega)) (by decide) ?_
          refine WL.yes rfl rfl ?_
          refine WL.cond (X.geq rfl rfl) (by decide) (fun h117 => ?_) (fun h117 => ?_)
          · refine WL.yes rfl rfl ?_
            refine WL.x (X.move rfl) (by decide) ?_
            refine WL.yes rfl rfl ?_
            refine WL.x (X.field Try.runUnderlying31 rfl Try.sizeOf3 rfl) (by decide) ?_
            refine WL.yes rfl rfl ?_
            refine WL.x (X.loadB (k := 4) Try.isAgg3 rfl rfl rfl) (by decide) ?_
            refine WL.yes rfl rfl ?_
            refine WL.x (X.field Try.runUnderlying31 rfl Try.sizeOf3 rfl) (by decide) ?_
            refine WL.yes rfl rfl ?_
            refine WL.x (X.loadB (k := 1) Try.isAgg3 rfl rfl rfl) (by decide) ?_
            refine WL.yes rfl rfl ?_
            refine WL.x (X.field Try.runUnderlying31 rfl Try.sizeOf3 rfl) (by decide) ?_
            refine WL.yes rfl rfl ?_
            refine WL.x (X.loadB (k := 0) Try.isAgg3 rfl rfl rfl) (by decide) ?_
            refine WL.yes rfl rfl ?_
            refine WL.x (X.add rfl rfl (by omega) (by omega)) (by decide) ?_
            refine WL.yes rfl rfl ?_
            refine WL.x (X.leq rfl rfl) (by decide) ?_
            refine WL.yes rfl rfl ?_
            refine WL.x (X.pickT rfl rfl rfl) (by decide) ?_
            refine WL.yes rfl rfl ?_
            refine WL.x (X.pickF rfl rfl rfl) (by decide) ?_
            refine WL.x (X.pickT rfl rfl rfl) (by decide) ?_
            refine WL.x (X.assign rfl) (by decide) ?_
            refine WL.nil ?_
            refine WK.nThen ?_
            refine WC.ret ?_
            refine WK.ret1 rfl rfl (fun w' hw' => Ret.exact hw' ?_)
            first | rfl | (exfalso; omega) | (exfalso; contradiction) | (exfalso; have q_ := hz6 (by omega); contradiction) | exact (bool_true (by first | omega | assumption)).symm
          refine WL.yes rfl rfl ?_
          refine WL.x (X.move rfl) (by decide) ?_
          refine WL.no rfl rfl rfl (by decide) ?_
          refine WL.no rfl rfl rfl (by decide) ?_
          refine WL.no rfl rfl rfl (by decide) ?_
          refine WL.no rfl rfl rfl (by decide) ?_
          refine WL.no rfl rfl rfl (by decide) ?_
          refine WL.no rfl rfl rfl (by decide) ?_
          refine WL.no rfl rfl rfl (by decide) ?_
          refine WL.no rfl rfl rfl (by decide) ?_
          refine WL.yes rfl rfl ?_
          refine WL.x (X.pickF rfl rfl rfl) (by decide) ?_
          refine WL.yes rfl rfl ?_
          refine WL.x (X.pickF rfl rfl rfl) (by decide) ?_
          refine WL.x (X.pickT rfl rfl rfl) (by decide) ?_
          refine WL.x (X.assign rfl) (by decide) ?_
          refine WL.nil ?_
          refine WK.nThen ?_
          refine WC.ret ?_
          refine WK.ret1 rfl rfl (fun w' hw' => Ret.exact hw' ?_)
          first | rfl | (exfalso; omega) | (exfalso; contradiction) | (exfalso; have q_ := hz6 (by omega); contradiction) | exact (bool_true (by first | omega | assumption)).symm
        refine WL.x (X.pickT rfl rfl rfl) (by decide) ?_
        refine WL.x (X.move rfl) (by decide) ?_
        refine WL.no rfl rfl rfl (by decide) ?_
        refine WL.no rfl rfl rfl (by decide) ?_
        refine WL.x (X.pickF rfl rfl rfl) (by decide) ?_
        refine WL.nil ?_
        refine WK.nThen ?_
        refine WC.condF rfl ?_
        refine WC.exit ?_
        refine WK.eThen ?_
        refine WK.eThen ?_
        refine WK.eHit ?_
        refine WK.nThen ?_
        refine WC.seq ?_
        refine WC.seq ?_
        have hout : ¬ ((betR c.D c.M x.A x.B).1.Lo ≤ n ∧ n ≤ (betR c.D c.M x.A x.B).1.Hi) := (by first | omega | exact ex_out hb (by omega) (fun q_ h1_ h2_ => hall q_ h1_ (by omega)))
        refine WC.region ?_
        refine WL.x (X.move rfl) (by decide) ?_
        refine WL.x (X.field Try.runUnderlying31 rfl Try.sizeOf3 rfl) (by decide) ?_
        refine WL.x (X.loadB (k := 2) Try.isAgg3 rfl rfl rfl) (by decide) ?_
        refine WL.x (X.move rfl) (by decide) ?_
        refine WL.cond (X.leq rfl rfl) (by decide) (fun h118 => ?_) (fun h118 => ?_)
        · refine WL.x (X.move rfl) (by decide) ?_
          refine WL.yes rfl rfl ?_
          refine WL.x (X.move rfl) (by decide) ?_
          refine WL.yes rfl rfl ?_
          refine WL.x (X.field Try.runUnderlying31 rfl Try.sizeOf3 rfl) (by decide) ?_
          refine WL.yes rfl rfl ?_
          refine WL.x (X.loadB (k := 2) Try.isAgg3 rfl rfl rfl) (by decide) ?_
          refine WL.yes rfl rfl ?_
          refine WL.cond (X.leq rfl rfl) (by decide) (fun h119 => ?_) (fun h119 => ?_)
          · refine WL.x (X.pickT rfl rfl rfl) (by decide) ?_
            refine WL.x (OpX.t (X.neqB Try.underlying4 rfl rfl) (by decide)) (by decide) ?_
            refine WL.nil ?_
            refine WK.nThen ?_
            refine WC.condT rfl ?_
            refine WC.seq ?_
            refine WC.region ?_
            refine WL.x (X.assign rfl) (by decide) ?_
            refine WL.nil ?_
            refine WK.nThen ?_
            refine WC.ret ?_
            refine WK.rThen ?_
            refine WK.ret1 rfl rfl (fun w' hw' => Ret.exact hw' ?_)
            first | rfl | (exfalso; omega) | (exfalso; contradiction) | (exfalso; have q_ := hz6 (by omega); contradiction) | exact (bool_true (by first | omega | assumption)).symm
          refine WL.x (X.pickT rfl rfl rfl) (by decide) ?_
          refine WL.x (OpX.f (X.neqB Try.underlying4 rfl rfl) (fun h => h rfl)) (by decide) ?_
          refine WL.nil ?_
          refine WK.nThen ?_
          refine WC.condF rfl ?_
          refine WC.skip ?_
          refine WK.nThen ?_
          refine WC.seq ?_
          refine WC.region ?_
          refine WL.x (X.field Try.runUnderlying28 rfl Try.sizeOf25 rfl) (by decide) ?_
          refine WL.x (X.loadBP (k := 4) (vs := [v1, v3]) Try.isAgg25 Try.sizeOf25 rfl rfl rfl rfl) (by decide) ?_
          refine WL.x (X.field Try.runUnderlying28 rfl Try.sizeOf26 rfl) (by decide) ?_
          refine WL.x (X.loadB (k := 4) Try.isAgg26 rfl rfl rfl) (by decide) ?_
          refine WL.x (X.field Try.runUnderlying36 rfl Try.sizeOf3 rfl) (by decide) ?_
          refine WL.x (X.loadB (k := 3) Try.isAgg3 rfl rfl rfl) (by decide) ?_
          refine WL.x (X.move rfl) (by decide) ?_
          refine WL.x (X.call Try.call21 rfl (between21 _ _ c.D ⟨_, _, rfl, hs2, hs4⟩ _ _ hs6 _ _ )) (by decide) ?_
          refine WL.x (X.move rfl) (by decide) ?_
          refine WL.x (X.extract rfl rfl) (by decide) ?_
          refine WL.x (X.extract rfl rfl) (by decide) ?_
          refine WL.tn (T.alloc Try.zeroValue31 rfl) (by decide) fun b120 => ?_
          refine WL.ts (T.storeBA (k := 0) Try.sizeOf31 rfl rfl rfl (one_cons rfl (one_cons rfl one_nil)) rfl rfl) ?_
          refine WL.x (X.assign rfl) (by decide) ?_
          refine WL.nil ?_
          refine WK.nThen ?_
          refine WC.seq ?_
          refine WC.region ?_
          refine WL.x (X.field Try.runUnderlying28 rfl Try.sizeOf25 rfl) (by decide) ?_
          refine WL.x (X.loadBP (k := 5) (vs := [v1, v3]) Try.isAgg25 Try.sizeOf25 rfl rfl rfl rfl) (by decide) ?_
          refine WL.x (X.field Try.runUnderlying28 rfl Try.sizeOf26 rfl) (by decide) ?_
          refine WL.x (X.loadB (k := 5) Try.isAgg26 rfl rfl rfl) (by decide) ?_
          refine WL.x (X.move rfl) (by decide) ?_
          refine WL.x (X.field Try.runUnderlying36 rfl Try.sizeOf3 rfl) (by decide) ?_
          refine WL.x (X.loadB (k := 4) Try.isAgg3 rfl rfl rfl) (by decide) ?_
          refine WL.x (X.call Try.call21 rfl (between21 _ _ c.D ⟨_, _, rfl, hs2, hs4⟩ _ _ hs6 _ _ )) (by decide) ?_
          refine WL.x (X.move rfl) (by decide) ?_
          refine WL.x (X.extract rfl rfl) (by decide) ?_
          refine WL.x (X.extract rfl rfl) (by decide) ?_
          refine WL.tn (T.alloc Try.zeroValue31 rfl) (by decide) fun b121 => ?_
          refine WL.ts (T.storeBA (k := 0) Try.sizeOf31 rfl rfl rfl (one_cons rfl (one_cons rfl one_nil)) rfl rfl) ?_
          refine WL.x (X.assign rfl) (by decide) ?_
          refine WL.nil ?_
          refine WK.nThen ?_
          refine WC.seq ?_
          have htri : (betR c.D c.M x.A third).2 = 0 → (betR c.D c.M third x.B).2 = 0 → _ := fun a_ b_ => ex_tri hb a_ b_
          have hv1 : (betR c.D c.M x.A third).2 = 0 → _ := fun h_ => (betR_zero h_).2.2.2.2.2
          have hv2 : (betR c.D c.M third x.B).2 = 0 → _ := fun h_ => (betR_zero h_).2.2.2.2.2
          refine WC.region ?_
          refine WL.x (X.move rfl) (by decide) ?_
          refine WL.x (X.move rfl) (by decide) ?_
          refine WL.yes rfl rfl ?_
          refine WL.x (X.move rfl) (by decide) ?_
          refine WL.yes rfl rfl ?_
          refine WL.condn (X.neq rfl rfl) (by decide) (fun h122 => ?_) (fun h122 => ?_)
          · refine WL.yes rfl rfl ?_
            refine WL.x (X.move rfl) (by decide) ?_
            refine WL.no rfl rfl rfl (by decide) ?_
            refine WL.no rfl rfl rfl (by decide) ?_
            refine WL.yes rfl rfl ?_
            refine WL.x (X.pickT rfl rfl rfl) (by decide) ?_
            refine WL.yes rfl rfl ?_
            refine WL.x (X.move rfl) (by decide) ?_
            refine WL.no rfl rfl rfl (by decide) ?_
            refine WL.no rfl rfl rfl (by decide) ?_
            refine WL.no rfl rfl rfl (by decide) ?_
            refine WL.no rfl rfl rfl (by decide) ?_
            refine WL.no rfl rfl rfl (by decide) ?_
            refine WL.no rfl rfl rfl (by decide) ?_
            refine WL.no rfl rfl rfl (by decide) ?_
            refine WL.no rfl rfl rfl (by decide) ?_
            refine WL.no rfl rfl rfl (by decide) ?_
            refine WL.noU rfl rfl (by decide) ?_
            refine WL.noU rfl rfl (by decide) ?_
            refine WL.noU rfl rfl (by decide) ?_
            refine WL.noU rfl rfl (by decide) ?_
            refine WL.noU rfl rfl (by decide) ?_
            refine WL.noU rfl rfl (by decide) ?_
            refine WL.noU rfl rfl (by decide) ?_
            refine WL.noU rfl rfl (by decide) ?_
            refine WL.no rfl rfl rfl (by decide) ?_
            refine WL.yes rfl rfl ?_
            refine WL.x (X.pickT rfl rfl rfl) (by decide) ?_
            refine WL.x (X.pickT rfl rfl rfl) (by decide) ?_
            refine WL.x (X.assign rfl) (by decide) ?_
            refine WL.nil ?_
            refine WK.nThen ?_
            refine WC.ret ?_
            refine WK.ret1 rfl rfl (fun w' hw' => Ret.exact hw' ?_)
            first | rfl | (exfalso; omega) | (exfalso; contradiction) | (exfalso; have q_ := hz6 (by omega); contradiction) | exact (bool_true (by first | omega | assumption)).symm
          refine WL.yes rfl rfl ?_
          refine WL.x (X.move rfl) (by decide) ?_
          refine WL.yes rfl rfl ?_
          refine WL.x (X.move rfl) (by decide) ?_
          refine WL.yes rfl rfl ?_
          refine WL.condn (X.neq rfl rfl) (by decide) (fun h123 => ?_) (fun h123 => ?_)
          · refine WL.yes rfl rfl ?_
            refine WL.x (X.pickF rfl rfl rfl) (by decide) ?_
            refine WL.yes rfl rfl ?_
            refine WL.x (X.move rfl) (by decide) ?_
            refine WL.no rfl rfl rfl (by decide) ?_
            refine WL.no rfl rfl rfl (by decide) ?_
            refine WL.no rfl rfl rfl (by decide) ?_
            refine WL.no rfl rfl rfl (by decide) ?_
            refine WL.no rfl rfl rfl (by decide) ?_
            refine WL.no rfl rfl rfl (by decide) ?_
            refine WL.no rfl rfl rfl (by decide) ?_
            refine WL.no rfl rfl rfl (by decide) ?_
            refine WL.no rfl rfl rfl (by decide) ?_
            refine WL.noU rfl rfl (by decide) ?_
            refine WL.noU rfl rfl (by decide) ?_
            refine WL.noU rfl rfl (by decide) ?_
            refine WL.noU rfl rfl (by decide) ?_
            refine WL.noU rfl rfl (by decide) ?_
            refine WL.noU rfl rfl (by decide) ?_
            refine WL.noU rfl rfl (by decide) ?_
            refine WL.noU rfl rfl (by decide) ?_
            refine WL.no rfl rfl rfl (by decide) ?_
            refine WL.yes rfl rfl ?_
            refine WL.x (X.pickT rfl rfl rfl) (by decide) ?_
            refine WL.x (X.pickT rfl rfl rfl) (by decide) ?_
            refine WL.x (X.assign rfl) (by decide) ?_
            refine WL.nil ?_
            refine WK.nThen ?_
            refine WC.ret ?_
            refine WK.ret1 rfl rfl (fun w' hw' => Ret.exact hw' ?_)
            first | rfl | (exfalso; omega) | (exfalso; contradiction) | (exfalso; have q_ := hz6 (by omega); contradiction) | exact (bool_true (by first | omega | assumption)).symm
          refine WL.yes rfl rfl ?_
          refine WL.x (X.pickF rfl rfl rfl) (by decide) ?_
          refine WL.yes rfl rfl ?_
          refine WL.x (X.move rfl) (by decide) ?_
          refine WL.yes rfl rfl ?_
          refine WL.x (X.field Try.runUnderlying31 rfl Try.sizeOf3 rfl) (by decide) ?_
          refine WL.yes rfl rfl ?_
          refine WL.x (X.loadB (k := 4) Try.isAgg3 rfl rfl rfl) (by decide) ?_
          refine WL.yes rfl rfl ?_
          refine WL.x (X.field Try.runUnderlying31 rfl Try.sizeOf3 rfl) (by decide) ?_
          refine WL.yes rfl rfl ?_
          refine WL.x (X.loadB (k := 1) Try.isAgg3 rfl rfl rfl) (by decide) ?_
          refine WL.yes rfl rfl ?_
          refine WL.x (X.field Try.runUnderlying31 rfl Try.sizeOf3 rfl) (by decide) ?_
          refine WL.yes rfl rfl ?_
          refine WL.x (X.loadB (k := 0) Try.isAgg3 rfl rfl rfl) (by decide) ?_
          refine WL.yes rfl rfl ?_
          refine WL.x (X.add rfl rfl (by omega) (by omega)) (by decide) ?_
          refine WL.yes rfl rfl ?_
          refine WL.cond (X.geq rfl rfl) (by decide) (fun h124 => ?_) (fun h124 => ?_)
          · refine WL.yes rfl rfl ?_
            refine WL.x (X.move rfl) (by decide) ?_
            refine WL.yes rfl rfl ?_
            refine WL.x (X.field Try.runUnderlying31 rfl Try.sizeOf3 rfl) (by decide) ?_
            refine WL.yes rfl rfl ?_
            refine WL.x (X.loadB (k := 4) Try.isAgg3 rfl rfl rfl) (by decide) ?_
            refine WL.yes rfl rfl ?_
            refine WL.x (X.field Try.runUnderlying31 rfl Try.sizeOf3 rfl) (by decide) ?_
            refine WL.yes rfl rfl ?_
            refine WL.x (X.loadB (k := 1) Try.isAgg3 rfl rfl rfl) (by decide) ?_
            refine WL.yes rfl rfl ?_
            refine WL.x (X.field Try.runUnderlying31 rfl Try.sizeOf3 rfl) (by decide) ?_
            refine WL.yes rfl rfl ?_
            refine WL.x (X.loadB (k := 0) Try.isAgg3 rfl rfl rfl) (by decide) ?_
            refine WL.yes rfl rfl ?_
            refine WL.x (X.add rfl rfl (by omega) (by omega)) (by decide) ?_
            refine WL.yes rfl rfl ?_
            refine WL.x (X.leq rfl rfl) (by decide) ?_
            refine WL.yes rfl rfl ?_
            refine WL.x (X.pickT rfl rfl rfl) (by decide) ?_
            refine WL.yes rfl rfl ?_
            refine WL.x (X.pickF rfl rfl rfl) (by decide) ?_
            refine WL.x (X.pickT rfl rfl rfl) (by decide) ?_
            refine WL.x (X.assign rfl) (by decide) ?_
            refine WL.nil ?_
            refine WK.nThen ?_
            refine WC.ret ?_
            refine WK.ret1 rfl rfl (fun w' hw' => Ret.exact hw' ?_)
            first | rfl | (exfalso; omega) | (exfalso; contradiction) | (exfalso; have q_ := hz6 (by omega); contradiction) | exact (bool_true (by first | omega | assumption)).symm
          refine WL.yes rfl rfl ?_
          refine WL.x (X.move rfl) (by decide) ?_
          refine WL.no rfl rfl rfl (by decide) ?_
          refine WL.no rfl rfl rfl (by decide) ?_
          refine WL.no rfl rfl rfl (by decide) ?_
          refine WL.no rfl rfl rfl (by decide) ?_
          refine WL.no rfl rfl rfl (by decide) ?_
          refine WL.no rfl rfl rfl (by decide) ?_
          refine WL.no rfl rfl rfl (by decide) ?_
          refine WL.no rfl rfl rfl (by decide) ?_
          refine WL.yes rfl rfl ?_
          refine WL.x (X.pickF rfl rfl rfl) (by decide) ?_
          refine WL.yes rfl rfl ?_
          refine WL.x (X.pickF rfl rfl rfl) (by decide) ?_
          refine WL.x (X.pickT rfl rfl rfl) (by decide) ?_
          refine WL.x (X.assign rfl) (by decide) ?_
          refine WL.nil ?_
          refine WK.nThen ?_
          refine WC.ret ?_
          refine WK.ret1 rfl rfl (fun w' hw' => Ret.exact hw' ?_)
          first | rfl | (exfalso; omega) | (exfalso; contradiction) | (exfalso; have q_ := hz6 (by omega); contradiction) | exact (bool_true (by first | omega | assumption)).symm
        refine WL.x (X.move rfl) (by decide) ?_
        refine WL.no rfl rfl rfl (by decide) ?_
        refine WL.no rfl rfl rfl (by decide) ?_
        refine WL.no rfl rfl rfl (by decide) ?_
        refine WL.no rfl rfl rfl (by decide) ?_
        refine WL.x (X.pickF rfl rfl rfl) (by decide) ?_
        refine WL.x (OpX.f (X.neqB Try.underlying4 rfl rfl) (fun h => h rfl)) (by decide) ?_
        refine WL.nil ?_
        refine WK.nThen ?_
        refine WC.condF rfl ?_
        refine WC.skip ?_
        refine WK.nThen ?_
        refine WC.seq ?_
        refine WC.region ?_
        refine WL.x (X.field Try.runUnderlying28 rfl Try.sizeOf25 rfl) (by decide) ?_
        refine WL.x (X.loadBP (k := 4) (vs := [v1, v3]) Try.isAgg25 Try.sizeOf25 rfl rfl rfl rfl) (by decide) ?_
        refine WL.x (X.field Try.runUnderlying28 rfl Try.sizeOf26 rfl) (by decide) ?_
        refine WL.x (X.loadB (k := 4) Try.isAgg26 rfl rfl rfl) (by decide) ?_
        refine WL.x (X.field Try.runUnderlying36 rfl Try.sizeOf3 rfl) (by decide) ?_
        refine WL.x (X.loadB (k := 3) Try.isAgg3 rfl rfl rfl) (by decide) ?_
        refine WL.x (X.move rfl) (by decide) ?_
        refine WL.x (X.call Try.call21 rfl (between21 _ _ c.D ⟨_, _, rfl, hs2, hs4⟩ _ _ hs6 _ _ )) (by decide) ?_
        refine WL.x (X.move rfl) (by decide) ?_
        refine WL.x (X.extract rfl rfl) (by decide) ?_
        refine WL.x (X.extract rfl rfl) (by decide) ?_
        refine WL.tn (T.alloc Try.zeroValue31 rfl) (by decide) fun b125 => ?_
        refine WL.ts (T.storeBA (k := 0) Try.sizeOf31 rfl rfl rfl (one_cons rfl (one_cons rfl one_nil)) rfl rfl) ?_
        refine WL.x (X.assign rfl) (by decide) ?_
        refine WL.nil ?_
        refine WK.nThen ?_
        refine WC.seq ?_
        refine WC.region ?_
        refine WL.x (X.field Try.runUnderlying28 rfl Try.sizeOf25 rfl) (by decide) ?_
        refine WL.x (X.loadBP (k := 5) (vs := [v1, v3]) Try.isAgg25 Try.sizeOf25 rfl rfl rfl rfl) (by decide) ?_
        refine WL.x (X.field Try.runUnderlying28 rfl Try.sizeOf26 rfl) (by decide) ?_
        refine WL.x (X.loadB (k := 5) Try.isAgg26 rfl rfl rfl) (by decide) ?_
        refine WL.x (X.move rfl) (by decide) ?_
        refine WL.x (X.field Try.runUnderlying36 rfl Try.sizeOf3 rfl) (by decide) ?_
        refine WL.x (X.loadB (k := 4) Try.isAgg3 rfl rfl rfl) (by decide) ?_
        refine WL.x (X.call Try.call21 rfl (between21 _ _ c.D ⟨_, _, rfl, hs2, hs4⟩ _ _ hs6 _ _ )) (by decide) ?_
        refine WL.x (X.move rfl) (by decide) ?_
        refine WL.x (X.extract rfl rfl) (by decide) ?_
        refine WL.x (X.extract rfl rfl) (by decide) ?_
        refine WL.tn (T.alloc Try.zeroValue31 rfl) (by decide) fun b126 => ?_
        refine WL.ts (T.storeBA (k := 0) Try.sizeOf31 rfl rfl rfl (one_cons rfl (one_cons rfl one_nil)) rfl rfl) ?_
        refine WL.x (X.assign rfl) (by decide) ?_
        refine WL.nil ?_
        refine WK.nThen ?_
        refine WC.seq ?_
        have htri : (betR c.D c.M x.A third).2 = 0 → (betR c.D c.M third x.B).2 = 0 → _ := fun a_ b_ => ex_tri hb a_ b_
        have hv1 : (betR c.D c.M x.A third).2 = 0 → _ := fun h_ => (betR_zero h_).2.2.2.2.2
        have hv2 : (betR c.D c.M third x.B).2 = 0 → _ := fun h_ => (betR_zero h_).2.2.2.2.2
        refine WC.region ?_
        refine WL.x (X.move rfl) (by decide) ?_
        refine WL.x (X.move rfl) (by decide) ?_
        refine WL.yes rfl rfl ?_
        refine WL.x (X.move rfl) (by decide) ?_
        refine WL.yes rfl rfl ?_
        refine WL.condn (X.neq rfl rfl) (by decide) (fun h127 => ?_) (fun h127 => ?_)
        · refine WL.yes rfl rfl ?_
          refine WL.x (X.move rfl) (by decide) ?_
          refine WL.no rfl rfl rfl (by decide) ?_
          refine WL.no rfl rfl rfl (by decide) ?_
          refine WL.yes rfl rfl ?_
          refine WL.x (X.pickT rfl rfl rfl) (by decide) ?_
          refine WL.yes rfl rfl ?_
          refine WL.x (X.move rfl) (by decide) ?_
          refine WL.no rfl rfl rfl (by decide) ?_
          refine WL.no rfl rfl rfl (by decide) ?_
          refine WL.no rfl rfl rfl (by decide) ?_
          refine WL.no rfl rfl rfl (by decide) ?_
          refine WL.no rfl rfl rfl (by decide) ?_
          refine WL.no rfl rfl rfl (by decide) ?_
          refine WL.no rfl rfl rfl (by decide) ?_
          refine WL.no rfl rfl rfl (by decide) ?_
          refine WL.no rfl rfl rfl (by decide) ?_
          refine WL.noU rfl rfl (by decide) ?_
          refine WL.noU rfl rfl (by decide) ?_
          refine WL.noU rfl rfl (by decide) ?_
          refine WL.noU rfl rfl (by decide) ?_
          refine WL.noU rfl rfl (by decide) ?_
          refine WL.noU rfl rfl (by decide) ?_
          refine WL.noU rfl rfl (by decide) ?_
          refine WL.noU rfl rfl (by decide) ?_
          refine WL.no rfl rfl rfl (by decide) ?_
          refine WL.yes rfl rfl ?_
          refine WL.x (X.pickT rfl rfl rfl) (by decide) ?_
          refine WL.x (X.pickT rfl rfl rfl) (by decide) ?_
          refine WL.x (X.assign rfl) (by decide) ?_
          refine WL.nil ?_
          refine WK.nThen ?_
          refine WC.ret ?_
          refine WK.ret1 rfl rfl (fun w' hw' => Ret.exact hw' ?_)
          first | rfl | (exfalso; omega) | (exfalso; contradiction) | (exfalso; have q_ := hz6 (by omega); contradiction) | exact (bool_true (by first | omega | assumption)).symm
        refine WL.yes rfl rfl ?_
        refine WL.x (X.move rfl) (by decide) ?_
        refine WL.yes rfl rfl ?_
        refine WL.x (X.move rfl) (by decide) ?_
        refine WL.yes rfl rfl ?_
        refine WL.condn (X.neq rfl rfl) (by decide) (fun h128 => ?_) (fun h128 => ?_)
        · refine WL.yes rfl rfl ?_
          refine WL.x (X.pickF rfl rfl rfl) (by decide) ?_
          refine WL.yes rfl rfl ?_
          refine WL.x (X.move rfl) (by decide) ?_
          refine WL.no rfl rfl rfl (by decide) ?_
          refine WL.no rfl rfl rfl (by decide) ?_
          refine WL.no rfl rfl rfl (by decide) ?_
          refine WL.no rfl rfl rfl (by decide) ?_
          refine WL.no rfl rfl rfl (by decide) ?_
          refine WL.no rfl rfl rfl (by decide) ?_
          refine WL.no rfl rfl rfl (by decide) ?_
          refine WL.no rfl rfl rfl (by decide) ?_
          refine WL.no rfl rfl rfl (by decide) ?_
          refine WL.noU rfl rfl (by decide) ?_
          refine WL.noU rfl rfl (by decide) ?_
          refine WL.noU rfl rfl (by decide) ?_
          refine WL.noU rfl rfl (by decide) ?_
          refine WL.noU rfl rfl (by decide) ?_
          refine WL.noU rfl rfl (by decide) ?_
          refine WL.noU rfl rfl (by decide) ?_
          refine WL.noU rfl rfl (by decide) ?_
          refine WL.no rfl rfl rfl (by decide) ?_
          refine WL.yes rfl rfl ?_
          refine WL.x (X.pickT rfl rfl rfl) (by decide) ?_
          refine WL.x (X.pickT rfl rfl rfl) (by decide) ?_
          refine WL.x (X.assign rfl) (by decide) ?_
          refine WL.nil ?_
          refine WK.nThen ?_
          refine WC.ret ?_
          refine WK.ret1 rfl rfl (fun w' hw' => Ret.exact hw' ?_)
          first | rfl | (exfalso; omega) | (exfalso; contradiction) | (exfalso; have q_ := hz6 (by omega); contradiction) | exact (bool_true (by first | omega | assumption)).symm
        refine WL.yes rfl rfl ?_
        refine WL.x (X.pickF rfl rfl rfl) (by decide) ?_
        refine WL.yes rfl rfl ?_
        refine WL.x (X.move rfl) (by decide) ?_
        refine WL.yes rfl rfl ?_
        refine WL.x (X.field Try.runUnderlying31 rfl Try.sizeOf3 rfl) (by decide) ?_
        refine WL.yes rfl rfl ?_
        refine WL.x (X.loadB (k := 4) Try.isAgg3 rfl rfl rfl) (by decide) ?_
        refine WL.yes rfl rfl ?_
        refine WL.x (X.field Try.runUnderlying31 rfl Try.sizeOf3 rfl) (by decide) ?_
        refine WL.yes rfl rfl ?_
        refine WL.x (X.loadB (k := 1) Try.isAgg3 rfl rfl rfl) (by decide) ?_
        refine WL.yes rfl rfl ?_
        refine WL.x (X.field Try.runUnderlying31 rfl Try.sizeOf3 rfl) (by decide) ?_
        refine WL.yes rfl rfl ?_
        refine WL.x (X.loadB (k := 0) Try.isAgg3 rfl rfl rfl) (by decide) ?_
        refine WL.yes rfl rfl ?_
        refine WL.x (X.add rfl rfl (by omega) (by omega)) (by decide) ?_
        refine WL.yes rfl rfl ?_
        refine WL.cond (X.geq rfl rfl) (by decide) (fun h129 => ?_) (fun h129 => ?_)
        · refine WL.yes rfl rfl ?_
          refine WL.x (X.move rfl) (by decide) ?_
          refine WL.yes rfl rfl ?_
          refine WL.x (X.field Try.runUnderlying31 rfl Try.sizeOf3 rfl) (by decide) ?_
          refine WL.yes rfl rfl ?_
          refine WL.x (X.loadB (k := 4) Try.isAgg3 rfl rfl rfl) (by decide) ?_
          refine WL.yes rfl rfl ?_
          refine WL.x (X.field Try.runUnderlying31 rfl Try.sizeOf3 rfl) (by decide) ?_
          refine WL.yes rfl rfl ?_
          refine WL.x (X.loadB (k := 1) Try.isAgg3 rfl rfl rfl) (by decide) ?_
          refine WL.yes rfl rfl ?_
          refine WL.x (X.field Try.runUnderlying31 rfl Try.sizeOf3 rfl) (by decide) ?_
          refine WL.yes rfl rfl ?_
          refine WL.x (X.loadB (k := 0) Try.isAgg3 rfl rfl rfl) (by decide) ?_
          refine WL.yes rfl rfl ?_
          refine WL.x (X.add rfl rfl (by omega) (by omega)) (by decide) ?_
          refine WL.yes rfl rfl ?_
          refine WL.x (X.leq rfl rfl) (by decide) ?_
          refine WL.yes rfl rfl ?_
          refine WL.x (X.pickT rfl rfl rfl) (by decide) ?_
          refine WL.yes rfl rfl ?_
          refine WL.x (X.pickF rfl rfl rfl) (by decide) ?_
          refine WL.x (X.pickT rfl rfl rfl) (by decide) ?_
          refine WL.x (X.assign rfl) (by decide) ?_
          refine WL.nil ?_
          refine WK.nThen ?_
          refine WC.ret ?_
          refine WK.ret1 rfl rfl (fun w' hw' => Ret.exact hw' ?_)
          first | rfl | (exfalso; omega) | (exfalso; contradiction) | (exfalso; have q_ := hz6 (by omega); contradiction) | exact (bool_true (by first | omega | assumption)).symm
        refine WL.yes rfl rfl ?_
        refine WL.x (X.move rfl) (by decide) ?_
        refine WL.no rfl rfl rfl (by decide) ?_
        refine WL.no rfl rfl rfl (by decide) ?_
        refine WL.no rfl rfl rfl (by decide) ?_
        refine WL.no rfl rfl rfl (by decide) ?_
        refine WL.no rfl rfl rfl (by decide) ?_
        refine WL.no rfl rfl rfl (by decide) ?_
        refine WL.no rfl rfl rfl (by decide) ?_
        refine WL.no rfl rfl rfl (by decide) ?_
        refine WL.yes rfl rfl ?_
        refine WL.x (X.pickF rfl rfl rfl) (by decide) ?_
        refine WL.yes rfl rfl ?_
        refine WL.x (X.pickF rfl rfl rfl) (by decide) ?_
        refine WL.x (X.pickT rfl rfl rfl) (by decide) ?_
        refine WL.x (X.assign rfl) (by decide) ?_
        refine WL.nil ?_
        refine WK.nThen ?_
        refine WC.ret ?_
        refine WK.ret1 rfl rfl (fun w' hw' => Ret.exact hw' ?_)
        first | rfl | (exfalso; omega) | (exfalso; contradiction) | (exfalso; have q_ := hz6 (by omega); contradiction) | exact (bool_true (by first | omega | assumption)).symm
      refine WL.x (X.move rfl) (by decide) ?_
      refine WL.no rfl rfl rfl (by decide) ?_
      refine WL.no rfl rfl rfl (by decide) ?_
      refine WL.x (X.pickF rfl rfl rfl) (by decide) ?_
      refine WL.x (X.move rfl) (by decide) ?_
      refine WL.no rfl rfl rfl (by decide) ?_
      refine WL.no rfl rfl rfl (by decide) ?_
      refine WL.x (X.pickF rfl rfl rfl) (by decide) ?_
      refine WL.nil ?_
      refine WK.nThen ?_
      refine WC.condF rfl ?_
      refine WC.exit ?_
      refine WK.eThen ?_
      refine WK.eThen ?_
      refine WK.eHit ?_
      refine WK.nThen ?_
      refine WC.seq ?_
      refine WC.seq ?_
      have hout : ¬ ((betR c.D c.M x.A x.B).1.Lo ≤ n ∧ n ≤ (betR c.D c.M x.A x.B).1.Hi) := (by first | omega | exact ex_out hb (by omega) (fun q_ h1_ h2_ => hall q_ h1_ (by omega)))
      refine WC.region ?_
      refine WL.x (X.move rfl) (by decide) ?_
      refine WL.x (X.field Try.runUnderlying31 rfl Try.sizeOf3 rfl) (by decide) ?_
      refine WL.x (X.loadB (k := 2) Try.isAgg3 rfl rfl rfl) (by decide) ?_
      refine WL.x (X.move rfl) (by decide) ?_
      refine WL.cond (X.leq rfl rfl) (by decide) (fun h130 => ?_) (fun h130 => ?_)
      · refine WL.x (X.move rfl) (by decide) ?_
        refine WL.yes rfl rfl ?_
        refine WL.x (X.move rfl) (by decide) ?_
        refine WL.yes rfl rfl ?_
        refine WL.x (X.field Try.runUnderlying31 rfl Try.sizeOf3 rfl) (by decide) ?_
        refine WL.yes rfl rfl ?_
        refine WL.x (X.loadB (k := 2) Try.isAgg3 rfl rfl rfl) (by decide) ?_
        refine WL.yes rfl rfl ?_
        refine WL.cond (X.leq rfl rfl) (by decide) (fun h131 => ?_) (fun h131 => ?_)
        · refine WL.x (X.pickT rfl rfl rfl) (by decide) ?_
          refine WL.x (OpX.t (X.neqB Try.underlying4 rfl rfl) (by decide)) (by decide) ?_
          refine WL.nil ?_
          refine WK.nThen ?_
          refine WC.condT rfl ?_
          refine WC.seq ?_
          refine WC.region ?_
          refine WL.x (X.assign rfl) (by decide) ?_
          refine WL.nil ?_
          refine WK.nThen ?_
          refine WC.ret ?_
          refine WK.rThen ?_
          refine WK.ret1 rfl rfl (fun w' hw' => Ret.exact hw' ?_)
          first | rfl | (exfalso; omega) | (exfalso; contradiction) | (exfalso; have q_ := hz6 (by omega); contradiction) | exact (bool_true (by first | omega | assumption)).symm
        refine WL.x (X.pickT rfl rfl rfl) (by decide) ?_
        refine WL.x (OpX.f (X.neqB Try.underlying4 rfl rfl) (fun h => h rfl)) (by decide) ?_
        refine WL.nil ?_
        refine WK.nThen ?_
        refine WC.condF rfl ?_
        refine WC.skip ?_
        refine WK.nThen ?_
        refine WC.seq ?_
        refine WC.region ?_
        refine WL.x (X.field Try.runUnderlying28 rfl Try.sizeOf25 rfl) (by decide) ?_
        refine WL.x (X.loadBP (k := 4) (vs := [v1, v3]) Try.isAgg25 Try.sizeOf25 rfl rfl rfl rfl) (by decide) ?_
        refine WL.x (X.field Try.runUnderlying28 rfl Try.sizeOf26 rfl) (by decide) ?_
        refine WL.x (X.loadB (k := 4) Try.isAgg26 rfl rfl rfl) (by decide) ?_
        refine WL.x (X.field Try.runUnderlying36 rfl Try.sizeOf3 rfl) (by decide) ?_
        refine WL.x (X.loadB (k := 3) Try.isAgg3 rfl rfl rfl) (by decide) ?_
        refine WL.x (X.move rfl) (by decide) ?_
        refine WL.x (X.call Try.call21 rfl (between21 _ _ c.D ⟨_, _, rfl, hs2, hs4⟩ _ _ hs6 _ _ )) (by decide) ?_
        refine WL.x (X.move rfl) (by decide) ?_
        refine WL.x (X.extract rfl rfl) (by decide) ?_
        refine WL.x (X.extract rfl rfl) (by decide) ?_
        refine WL.tn (T.alloc Try.zeroValue31 rfl) (by decide) fun b132 => ?_
        refine WL.ts (T.storeBA (k := 0) Try.sizeOf31 rfl rfl rfl (one_cons rfl (one_cons rfl one_nil)) rfl rfl) ?_
        refine WL.x (X.assign rfl) (by decide) ?_
        refine WL.nil ?_
        refine WK.nThen ?_
        refine WC.seq ?_
        refine WC.region ?_
        refine WL.x (X.field Try.runUnderlying28 rfl Try.sizeOf25 rfl) (by decide) ?_
        refine WL.x (X.loadBP (k := 5) (vs := [v1, v3]) Try.isAgg25 Try.sizeOf25 rfl rfl rfl rfl) (by decide) ?_
        refine WL.x (X.field Try.runUnderlying28 rfl Try.sizeOf26 rfl) (by decide) ?_
        refine WL.x (X.loadB (k := 5) Try.isAgg26 rfl rfl rfl) (by decide) ?_
        refine WL.x (X.move rfl) (by decide) ?_
        refine WL.x (X.field Try.runUnderlying36 rfl Try.sizeOf3 rfl) (by decide) ?_
        refine WL.x (X.loadB (k := 4) Try.isAgg3 rfl rfl rfl) (by decide) ?_
        refine WL.x (X.call Try.call21 rfl (between21 _ _ c.D ⟨_, _, rfl, hs2, hs4⟩ _ _ hs6 _ _ )) (by decide) ?_
        refine WL.x (X.move rfl) (by decide) ?_
        refine WL.x (X.extract rfl rfl) (by decide) ?_
        refine WL.x (X.extract rfl rfl) (by decide) ?_
        refine WL.tn (T.alloc Try.zeroValue31 rfl) (by decide) fun b133 => ?_
        refine WL.ts (T.storeBA (k := 0) Try.sizeOf31 rfl rfl rfl (one_cons rfl (one_cons rfl one_nil)) rfl rfl) ?_
        refine WL.x (X.assign rfl) (by decide) ?_
        refine WL.nil ?_
        refine WK.nThen ?_
        refine WC.seq ?_
        have htri : (betR c.D c.M x.A third).2 = 0 → (betR c.D c.M third x.B).2 = 0 → _ := fun a_ b_ => ex_tri hb a_ b_
        have hv1 : (betR c.D c.M x.A third).2 = 0 → _ := fun h_ => (betR_zero h_).2.2.2.2.2
        have hv2 : (betR c.D c.M third x.B).2 = 0 → _ := fun h_ => (betR_zero h_).2.2.2.2.2
        refine WC.region ?_
        refine WL.x (X.move rfl) (by decide) ?_
        refine WL.x (X.move rfl) (by decide) ?_
        refine WL.yes rfl rfl ?_
        refine WL.x (X.move rfl) (by decide) ?_
        refine WL.yes rfl rfl ?_
        refine WL.condn (X.neq rfl rfl) (by decide) (fun h134 => ?_) (fun h134 => ?_)
        · refine WL.yes rfl rfl ?_
          refine WL.x (X.move rfl) (by decide) ?_
          refine WL.no rfl rfl rfl (by decide) ?_
          refine WL.no rfl rfl rfl (by decide) ?_
          refine WL.yes rfl rfl ?_
          refine WL.x (X.pickT rfl rfl rfl) (by decide) ?_
          refine WL.yes rfl rfl ?_
          refine WL.x (X.move rfl) (by decide) ?_
          refine WL.no rfl rfl rfl (by decide) ?_
          refine WL.no rfl rfl rfl (by decide) ?_
          refine WL.no rfl rfl rfl (by decide) ?_
          refine WL.no rfl rfl rfl (by decide) ?_
          refine WL.no rfl rfl rfl (by decide) ?_
          refine WL.no rfl rfl rfl (by decide) ?_
          refine WL.no rfl rfl rfl (by decide) ?_
          refine WL.no rfl rfl rfl (by decide) ?_
          refine WL.no rfl rfl rfl (by decide) ?_
          refine WL.noU rfl rfl (by decide) ?_
          refine WL.noU rfl rfl (by decide) ?_
          refine WL.noU rfl rfl (by decide) ?_
          refine WL.noU rfl rfl (by decide) ?_
          refine WL.noU rfl rfl (by decide) ?_
          refine WL.noU rfl rfl (by decide) ?_
          refine WL.noU rfl rfl (by decide) ?_
          refine WL.noU rfl rfl (by decide) ?_
          refine WL.no rfl rfl rfl (by decide) ?_
          refine WL.yes rfl rfl ?_
          refine WL.x (X.pickT rfl rfl rfl) (by decide) ?_
          refine WL.x (X.pickT rfl rfl rfl) (by decide) ?_
          refine WL.x (X.assign rfl) (by decide) ?_
          refine WL.nil ?_
          refine WK.nThen ?_
          refine WC.ret ?_
          refine WK.ret1 rfl rfl (fun w' hw' => Ret.exact hw' ?_)
          first | rfl | (exfalso; omega) | (exfalso; contradiction) | (exfalso; have q_ := hz6 (by omega); contradiction) | exact (bool_true (by first | omega | assumption)).symm
        refine WL.yes rfl rfl ?_
        refine WL.x (X.move rfl) (by decide) ?_
        refine WL.yes rfl rfl ?_
        refine WL.x (X.move rfl) (by decide) ?_
        refine WL.yes rfl rfl ?_
        refine WL.condn (X.neq rfl rfl) (by decide) (fun h135 => ?_) (fun h135 => ?_)
        · refine WL.yes rfl rfl ?_
          refine WL.x (X.pickF rfl rfl rfl) (by decide) ?_
          refine WL.yes rfl rfl ?_
          refine WL.x (X.move rfl) (by decide) ?_
          refine WL.no rfl rfl rfl (by decide) ?_
          refine WL.no rfl rfl rfl (by decide) ?_
          refine WL.no rfl rfl rfl (by decide) ?_
          refine WL.no rfl rfl rfl (by decide) ?_
          refine WL.no rfl rfl rfl (by decide) ?_
          refine WL.no rfl rfl rfl (by decide) ?_
          refine WL.no rfl rfl rfl (by decide) ?_
          refine WL.no rfl rfl rfl (by decide) ?_
          refine WL.no rfl rfl rfl (by decide) ?_
          refine WL.noU rfl rfl (by decide) ?_
          refine WL.noU rfl rfl (by decide) ?_
          refine WL.noU rfl rfl (by decide) ?_
          refine WL.noU rfl rfl (by decide) ?_
          refine WL.noU rfl rfl (by decide) ?_
          refine WL.noU rfl rfl (by decide) ?_
          refine WL.noU rfl rfl (by decide) ?_
          refine WL.noU rfl rfl (by decide) ?_
          refine WL.no rfl rfl rfl (by decide) ?_
          refine WL.yes rfl rfl ?_
          refine WL.x (X.pickT rfl rfl rfl) (by decide) ?_
          refine WL.x (X.pickT rfl rfl rfl) (by decide) ?_
          refine WL.x (X.assign rfl) (by decide) ?_
          refine WL.nil ?_
          refine WK.nThen ?_
          refine WC.ret ?_
          refine WK.ret1 rfl rfl (fun w' hw' => Ret.exact hw' ?_)
          first | rfl | (exfalso; omega) | (exfalso; contradiction) | (exfalso; have q_ := hz6 (by omega); contradiction) | exact (bool_true (by first | omega | assumption)).symm
        refine WL.yes rfl rfl ?_
        refine WL.x (X.pickF rfl rfl rfl) (by decide) ?_
        refine WL.yes rfl rfl ?_
        refine WL.x (X.move rfl) (by decide) ?_
        refine WL.yes rfl rfl ?_
        refine WL.x (X.field Try.runUnderlying31 rfl Try.sizeOf3 rfl) (by decide) ?_
        refine WL.yes rfl rfl ?_
        refine WL.x (X.loadB (k := 4) Try.isAgg3 rfl rfl rfl) (by decide) ?_
        refine WL.yes rfl rfl ?_
        refine WL.x (X.field Try.runUnderlying31 rfl Try.sizeOf3 rfl) (by decide) ?_
        refine WL.yes rfl rfl ?_
        refine WL.x (X.loadB (k := 1) Try.isAgg3 rfl rfl rfl) (by decide) ?_
        refine WL.yes rfl rfl ?_
        refine WL.x (X.field Try.runUnderlying31 rfl Try.sizeOf3 rfl) (by decide) ?_
        refine WL.yes rfl rfl ?_
        refine WL.x (X.loadB (k := 0) Try.isAgg3 rfl rfl rfl) (by decide) ?_
        refine WL.yes rfl rfl ?_
        refine WL.x (X.add rfl rfl (by omega) (by omega)) (by decide) ?_
        refine WL.yes rfl rfl ?_
        refine WL.cond (X.geq rfl rfl) (by decide) (fun h136 => ?_) (fun h136 => ?_)
        · refine WL.yes rfl rfl ?_
          refine WL.x (X.move rfl) (by decide) ?_
          refine WL.yes rfl rfl ?_
          refine WL.x (X.field Try.runUnderlying31 rfl Try.sizeOf3 rfl) (by decide) ?_
          refine WL.yes rfl rfl ?_
          refine WL.x (X.loadB (k := 4) Try.isAgg3 rfl rfl rfl) (by decide) ?_
          refine WL.yes rfl rfl ?_
          refine WL.x (X.field Try.runUnderlying31 rfl Try.sizeOf3 rfl) (by decide) ?_
          refine WL.yes rfl rfl ?_
          refine WL.x (X.loadB (k := 1) Try.isAgg3 rfl rfl rfl) (by decide) ?_
          refine WL.yes rfl rfl ?_
          refine WL.x (X.field Try.runUnderlying31 rfl Try.sizeOf3 rfl) (by decide) ?_
          refine WL.yes rfl rfl ?_
          refine WL.x (X.loadB (k := 0) Try.isAgg3 rfl rfl rfl) (by decide) ?_
          refine WL.yes rfl rfl ?_
          refine WL.x (X.add rfl rfl (by omega) (by omega)) (by decide) ?_
          refine WL.yes rfl rfl ?_
          refine WL.x (X.leq rfl rfl) (by decide) ?_
          refine WL.yes rfl rfl ?_
          refine WL.x (X.pickT rfl rfl rfl) (by decide) ?_
          refine WL.yes rfl rfl ?_
          refine WL.x (X.pickF rfl rfl rfl) (by decide) ?_
          refine WL.x (X.pickT rfl rfl rfl) (by decide) ?_
          refine WL.x (X.assign rfl) (by decide) ?_
          refine WL.nil ?_
          refine WK.nThen ?_
          refine WC.ret ?_
          refine WK.ret1 rfl rfl (fun w' hw' => Ret.exact hw' ?_)
          first | rfl | (exfalso; omega) | (exfalso; contradiction) | (exfalso; have q_ := hz6 (by omega); contradiction) | exact (bool_true (by first | omega | assumption)).symm
        refine WL.yes rfl rfl ?_
        refine WL.x (X.move rfl) (by decide) ?_
        refine WL.no rfl rfl rfl (by decide) ?_
        refine WL.no rfl rfl rfl (by decide) ?_
        refine WL.no rfl rfl rfl (by decide) ?_
        refine WL.no rfl rfl rfl (by decide) ?_
        refine WL.no rfl rfl rfl (by decide) ?_
        refine WL.no rfl rfl rfl (by decide) ?_
        refine WL.no rfl rfl rfl (by decide) ?_
        refine WL.no rfl rfl rfl (by decide) ?_
        refine WL.yes rfl rfl ?_
        refine WL.x (X.pickF rfl rfl rfl) (by decide) ?_
        refine WL.yes rfl rfl ?_
        refine WL.x (X.pickF rfl rfl rfl) (by decide) ?_
        refine WL.x (X.pickT rfl rfl rfl) (by decide) ?_
        refine WL.x (X.assign rfl) (by decide) ?_
        refine WL.nil ?_
        refine WK.nThen ?_
        refine WC.ret ?_
        refine WK.ret1 rfl rfl (fun w' hw' => Ret.exact hw' ?_)
        first | rfl | (exfalso; omega) | (exfalso; contradiction) | (exfalso; have q_ := hz6 (by omega); contradiction) | exact (bool_true (by first | omega | assumption)).symm
      refine WL.x (X.move rfl) (by decide) ?_
      refine WL.no rfl rfl rfl (by decide) ?_
      refine WL.no rfl rfl rfl (by decide) ?_
      refine WL.no rfl rfl rfl (by decide) ?_
      refine WL.no rfl rfl rfl (by decide) ?_
      refine WL.x (X.pickF rfl rfl rfl) (by decide) ?_
      refine WL.x (OpX.f (X.neqB Try.underlying4 rfl rfl) (fun h => h rfl)) (by decide) ?_
      refine WL.nil ?_
      refine WK.nThen ?_
      refine WC.condF rfl ?_
      refine WC.skip ?_
      refine WK.nThen ?_
      refine WC.seq ?_
      refine WC.region ?_
      refine WL.x (X.field Try.runUnderlying28 rfl Try.sizeOf25 rfl) (by decide) ?_
      refine WL.x (X.loadBP (k := 4) (vs := [v1, v3]) Try.isAgg25 Try.sizeOf25 rfl rfl rfl rfl) (by decide) ?_
      refine WL.x (X.field Try.runUnderlying28 rfl Try.sizeOf26 rfl) (by decide) ?_
      refine WL.x (X.loadB (k := 4) Try.isAgg26 rfl rfl rfl) (by decide) ?_
      refine WL.x (X.field Try.runUnderlying36 rfl Try.sizeOf3 rfl) (by decide) ?_
      refine WL.x (X.loadB (k := 3) Try.isAgg3 rfl rfl rfl) (by decide) ?_
      refine WL.x (X.move rfl) (by decide) ?_
      refine WL.x (X.call Try.call21 rfl (between21 _ _ c.D ⟨_, _, rfl, hs2, hs4⟩ _ _ hs6 _ _ )) (by decide) ?_
      refine WL.x (X.move rfl) (by decide) ?_
      refine WL.x (X.extract rfl rfl) (by decide) ?_
      refine WL.x (X.extract rfl rfl) (by decide) ?_
      refine WL.tn (T.alloc Try.zeroValue31 rfl) (by decide) fun b137 => ?_
      refine WL.ts (T.storeBA (k := 0) Try.sizeOf31 rfl rfl rfl (one_cons rfl (one_cons rfl one_nil)) rfl rfl) ?_
      refine WL.x (X.assign rfl) (by decide) ?_
      refine WL.nil ?_
      refine WK.nThen ?_
      refine WC.seq ?_
      refine WC.region ?_
      refine WL.x (X.field Try.runUnderlying28 rfl Try.sizeOf25 rfl) (by decide) ?_
      refine WL.x (X.loadBP (k := 5) (vs := [v1, v3]) Try.isAgg25 Try.sizeOf25 rfl rfl rfl rfl) (by decide) ?_
      refine WL.x (X.field Try.runUnderlying28 rfl Try.sizeOf26 rfl) (by decide) ?_
      refine WL.x (X.loadB (k := 5) Try.isAgg26 rfl rfl rfl) (by decide) ?_
      refine WL.x (X.move rfl) (by decide) ?_
      refine WL.x (X.field Try.runUnderlying36 rfl Try.sizeOf3 rfl) (by decide) ?_
      refine WL.x (X.loadB (k := 4) Try.isAgg3 rfl rfl rfl) (by decide) ?_
      refine WL.x (X.call Try.call21 rfl (between21 _ _ c.D ⟨_, _, rfl, hs2, hs4⟩ _ _ hs6 _ _ )) (by decide) ?_
      refine WL.x (X.move rfl) (by decide) ?_
      refine WL.x (X.extract rfl rfl) (by decide) ?_
      refine WL.x (X.extract rfl rfl) (by decide) ?_
      refine WL.tn (T.alloc Try.zeroValue31 rfl) (by decide) fun b138 => ?_
      refine WL.ts (T.storeBA (k := 0) Try.sizeOf31 rfl rfl rfl (one_cons rfl (one_cons rfl one_nil)) rfl rfl) ?_
      refine WL.x (X.assign rfl) (by decide) ?_
      refine WL.nil ?_
      refine WK.nThen ?_
      refine WC.seq ?_
      have htri : (betR c.D c.M x.A third).2 = 0 → (betR c.D c.M third x.B).2 = 0 → _ := fun a_ b_ => ex_tri hb a_ b_
      have hv1 : (betR c.D c.M x.A third).2 = 0 → _ := fun h_ => (betR_zero h_).2.2.2.2.2
      have hv2 : (betR c.D c.M third x.B).2 = 0 → _ := fun h_ => (betR_zero h_).2.2.2.2.2
      refine WC.region ?_
      refine WL.x (X.move rfl) (by decide) ?_
      refine WL.x (X.move rfl) (by decide) ?_
      refine WL.yes rfl rfl ?_
      refine WL.x (X.move rfl) (by decide) ?_
      refine WL.yes rfl rfl ?_
      refine WL.condn (X.neq rfl rfl) (by decide) (fun h139 => ?_) (fun h139 => ?_)
      · refine WL.yes rfl rfl ?_
        refine WL.x (X.move rfl) (by decide) ?_
        refine WL.no rfl rfl rfl (by decide) ?_
        refine WL.no rfl rfl rfl (by decide) ?_
        refine WL.yes rfl rfl ?_
        refine WL.x (X.pickT rfl rfl rfl) (by decide) ?_
        refine WL.yes rfl rfl ?_
        refine WL.x (X.move rfl) (by decide) ?_
        refine WL.no rfl rfl rfl (by decide) ?_
        refine WL.no rfl rfl rfl (by decide) ?_
        refine WL.no rfl rfl rfl (by decide) ?_
        refine WL.no rfl rfl rfl (by decide) ?_
        refine WL.no rfl rfl rfl (by decide) ?_
        refine WL.no rfl rfl rfl (by decide) ?_
        refine WL.no rfl rfl rfl (by decide) ?_
        refine WL.no rfl rfl rfl (by decide) ?_
        refine WL.no rfl rfl rfl (by decide) ?_
        refine WL.noU rfl rfl (by decide) ?_
        refine WL.noU rfl rfl (by decide) ?_
        refine WL.noU rfl rfl (by decide) ?_
        refine WL.noU rfl rfl (by decide) ?_
        refine WL.noU rfl rfl (by decide) ?_
        refine WL.noU rfl rfl (by decide) ?_
        refine WL.noU rfl rfl (by decide) ?_
        refine WL.noU rfl rfl (by decide) ?_
        refine WL.no rfl rfl rfl (by decide) ?_
        refine WL.yes rfl rfl ?_
        refine WL.x (X.pickT rfl rfl rfl) (by decide) ?_
        refine WL.x (X.pickT rfl rfl rfl) (by decide) ?_
        refine WL.x (X.assign rfl) (by decide) ?_
        refine WL.nil ?_
        refine WK.nThen ?_
        refine WC.ret ?_
        refine WK.ret1 rfl rfl (fun w' hw' => Ret.exact hw' ?_)
        first | rfl | (exfalso; omega) | (exfalso; contradiction) | (exfalso; have q_ := hz6 (by omega); contradiction) | exact (bool_true (by first | omega | assumption)).symm
      refine WL.yes rfl rfl ?_
      refine WL.x (X.move rfl) (by decide) ?_
      refine WL.yes rfl rfl ?_
      refine WL.x (X.move rfl) (by decide) ?_
      refine WL.yes rfl rfl ?_
      refine WL.condn (X.neq rfl rfl) (by decide) (fun h140 => ?_) (fun h140 => ?_)
      · refine WL.yes rfl rfl ?_
        refine WL.x (X.pickF rfl rfl rfl) (by decide) ?_
        refine WL.yes rfl rfl ?_
        refine WL.x (X.move rfl) (by decide) ?_
        refine WL.no rfl rfl rfl (by decide) ?_
        refine WL.no rfl rfl rfl (by decide) ?_
        refine WL.no rfl rfl rfl (by decide) ?_
        refine WL.no rfl rfl rfl (by decide) ?_
        refine WL.no rfl rfl rfl (by decide) ?_
        refine WL.no rfl rfl rfl (by decide) ?_
        refine WL.no rfl rfl rfl (by decide) ?_
        refine WL.no rfl rfl rfl (by decide) ?_
        refine WL.no rfl rfl rfl (by decide) ?_
        refine WL.noU rfl rfl (by decide) ?_
        refine WL.noU rfl rfl (by decide) ?_
        refine WL.noU rfl rfl (by decide) ?_
        refine WL.noU rfl rfl (by decide) ?_
        refine WL.noU rfl rfl (by decide) ?_
        refine WL.noU rfl rfl (by decide) ?_
        refine WL.noU rfl rfl (by decide) ?_
        refine WL.noU rfl rfl (by decide) ?_
        refine WL.no rfl rfl rfl (by decide) ?_
        refine WL.yes rfl rfl ?_
        refine WL.x (X.pickT rfl rfl rfl) (by decide) ?_
        refine WL.x (X.pickT rfl rfl rfl) (by decide) ?_
        refine WL.x (X.assign rfl) (by decide) ?_
        refine WL.nil ?_
        refine WK.nThen ?_
        refine WC.ret ?_
        refine WK.ret1 rfl rfl (fun w' hw' => Ret.exact hw' ?_)
        first | rfl | (exfalso; omega) | (exfalso; contradiction) | (exfalso; have q_ := hz6 (by omega); contradiction) | exact (bool_true (by first | omega | assumption)).symm
      refine WL.yes rfl rfl ?_
      refine WL.x (X.pickF rfl rfl rfl) (by decide) ?_
      refine WL.yes rfl rfl ?_
      refine WL.x (X.move rfl) (by decide) ?_
      refine WL.yes rfl rfl ?_
      refine WL.x (X.field Try.runUnderlying31 rfl Try.sizeOf3 rfl) (by decide) ?_
      refine WL.yes rfl rfl ?_
      refine WL.x (X.loadB (k := 4) Try.isAgg3 rfl rfl rfl) (by decide) ?_
      refine WL.yes rfl rfl ?_
      refine WL.x (X.field Try.runUnderlying31 rfl Try.sizeOf3 rfl) (by decide) ?_
      refine WL.yes rfl rfl ?_
      refine WL.x (X.loadB (k := 1) Try.isAgg3 rfl rfl rfl) (by decide) ?_
      refine WL.yes rfl rfl ?_
      refine WL.x (X.field Try.runUnderlying31 rfl Try.sizeOf3 rfl) (by decide) ?_
      refine WL.yes rfl rfl ?_
      refine WL.x (X.loadB (k := 0) Try.isAgg3 rfl rfl rfl) (by decide) ?_
      refine WL.yes rfl rfl ?_
      refine WL.x (X.add rfl rfl (by omega) (by omega)) (by decide) ?_
      refine WL.yes rfl rfl ?_
      refine WL.cond (X.geq rfl rfl) (by decide) (fun h141 => ?_) (fun h141 => ?_)
      · refine WL.yes rfl rfl ?_
        refine WL.x (X.move rfl) (by decide) ?_
        refine WL.yes rfl rfl ?_
        refine WL.x (X.field Try.runUnderlying31 rfl Try.sizeOf3 rfl) (by decide) ?_
        refine WL.yes rfl rfl ?_
        refine WL.x (X.loadB (k := 4) Try.isAgg3 rfl rfl rfl) (by decide) ?_
        refine WL.yes rfl rfl ?_
        refine WL.x (X.field Try.runUnderlying31 rfl Try.sizeOf3 rfl) (by decide) ?_
        refine WL.yes rfl rfl ?_
        refine WL.x (X.loadB (k := 1) Try.isAgg3 rfl rfl rfl) (by decide) ?_
        refine WL.yes rfl rfl ?_
        refine WL.x (X.field Try.runUnderlying31 rfl Try.sizeOf3 rfl) (by decide) ?_
        refine WL.yes rfl rfl ?_
        refine WL.x (X.loadB (k := 0) Try.isAgg3 rfl rfl rfl) (by decide) ?_
        refine WL.yes rfl rfl ?_
        refine WL.x (X.add rfl rfl (by omega) (by omega)) (by decide) ?_
        refine WL.yes rfl rfl ?_
        refine WL.x (X.leq rfl rfl) (by decide) ?_
        refine WL.yes rfl rfl ?_
        refine WL.x (X.pickT rfl rfl rfl) (by decide) ?_
        refine WL.yes rfl rfl ?_
        refine WL.x (X.pickF rfl rfl rfl) (by decide) ?_
        refine WL.x (X.pickT rfl rfl rfl) (by decide) ?_
        refine WL.x (X.assign rfl) (by decide) ?_
        refine WL.nil ?_
        refine WK.nThen ?_
        refine WC.ret ?_
        refine WK.ret1 rfl rfl (fun w' hw' => Ret.exact hw' ?_)
        first | rfl | (exfalso; omega) | (exfalso; contradiction) | (exfalso; have q_ := hz6 (by omega); contradiction) | exact (bool_true (by first | omega | assumption)).symm
      refine WL.yes rfl rfl ?_
      refine WL.x (X.move rfl) (by decide) ?_
      refine WL.no rfl rfl rfl (by decide) ?_
      refine WL.no rfl rfl rfl (by decide) ?_
      refine WL.no rfl rfl rfl (by decide) ?_
      refine WL.no rfl rfl rfl (by decide) ?_
      refine WL.no rfl rfl rfl (by decide) ?_
      refine WL.no rfl rfl rfl (by decide) ?_
      refine WL.no rfl rfl rfl (by decide) ?_
      refine WL.no rfl rfl rfl (by decide) ?_
      refine WL.yes rfl rfl ?_
      refine WL.x (X.pickF rfl rfl rfl) (by decide) ?_
      refine WL.yes rfl rfl ?_
      refine WL.x (X.pickF rfl rfl rfl) (by decide) ?_
      refine WL.x (X.pickT rfl rfl rfl) (by decide) ?_
      refine WL.x (X.assign rfl) (by decide) ?_
      refine WL.nil ?_
      refine WK.nThen ?_
      refine WC.ret ?_
      refine WK.ret1 rfl rfl (fun w' hw' => Ret.exact hw' ?_)
      first | rfl | (exfalso; omega) | (exfalso; contradiction) | (exfalso; have q_ := hz6 (by omega); contradiction) | exact (bool_true (by first | omega | assumption)).symm
  refine WL.x (X.not rfl) (by decide) ?_
  refine WL.x (X.move rfl) (by decide) ?_
  refine WL.no rfl rfl rfl (by decide) ?_
  refine WL.no rfl rfl rfl (by decide) ?_
  refine WL.no rfl rfl rfl (by decide) ?_
  refine WL.no rfl rfl rfl (by decide) ?_
  refine WL.x (X.pickT rfl rfl rfl) (by decide) ?_
  refine WL.nil ?_
  refine WK.nThen ?_
  refine WC.condT rfl ?_
  refine WC.seq ?_
  refine WC.region ?_
  refine WL.x (X.move rfl) (by decide) ?_
  refine WL.x (X.assign rfl) (by decide) ?_
  refine WL.nil ?_
  refine WK.nThen ?_
  refine WC.ret ?_
  refine WK.rThen ?_
  refine WK.ret1 rfl rfl (fun w' hw' => Ret.exact hw' ?_)
  first | rfl | (exfalso; omega) | (exfalso; contradiction) | (exfalso; have q_ := hz6 (by omega); contradiction) | exact (bool_true (by first | omega | assumption)).symm
end Go.Proofs.C2
