/- The walk of the statement ClocksTicks: its function answers true. -/
import Derived.Test.YtmnipmbgdbdjeaaC2Br
import Derived.Test.YtmnipmbgdbdjeaaC2W10
import Derived.Test.YtmnipmbgdbdjeaaC2LH
namespace Go.Proofs.C2
open Go Go.Kx
set_option linter.unusedSimpArgs false
set_option linter.unusedVariables false
set_option maxRecDepth 20000 in
set_option maxHeartbeats 4000000 in
theorem law18 (m : Mem) (cc : List Value) (c : Clk) (hc : Enc.rd m cc c) (cx : List Value) (x : Ask) (hx : Enc.rd m cx x)  (ok0 : Rng.ok c) (ok1 : Rng.ok x) : Exact Try.prog 18 #[.agg cc.toArray, .agg cx.toArray] m (.bool true) := by
  obtain ⟨v1, v3, v5, rfl, hs2, hs4, hs6⟩ := hc
  have hl7 := hs2.le
  have hl8 := hs4.le
  have hl9 := hs6.le
  obtain ⟨v10, v12, v14, rfl, hs11, hs13, hs15⟩ := hx
  have hl16 := hs11.le
  have hl17 := hs13.le
  have hl18 := hs15.le
  refine Exact.start Try.func18 rfl Try.ntmps18 rfl fun wld => ?_
  refine WC.seq ?_
  refine WC.region ?_
  refine WL.tn (T.boxB rfl rfl) (by decide) fun b19 => ?_
  refine WL.tn (T.boxB rfl rfl) (by decide) fun b20 => ?_
  refine WL.x (X.assign rfl) (by decide) ?_
  refine WL.nil ?_
  refine WK.nThen ?_
  refine WC.seq ?_
  refine WC.region ?_
  refine WL.x (X.call Try.call19 rfl (awake19 _  )) (by decide) ?_
  refine WL.x (X.assign rfl) (by decide) ?_
  refine WL.nil ?_
  refine WK.nThen ?_
  refine WC.seq ?_
  refine WC.seq ?_
  refine WC.region ?_
  refine WL.x (X.loadBA (k := 1) Try.isAgg28 Try.sizeOf28 rfl rfl rfl) (by decide) ?_
  refine WL.cond (X.call Try.call20 rfl (few20 _ _ c ⟨_, _, _, rfl, hs2, hs4, hs6⟩ )) (by decide) (fun h21 => ?_) (fun h21 => ?_)
  · refine WL.x (X.not rfl) (by decide) ?_
    refine WL.x (X.move rfl) (by decide) ?_
    refine WL.yes rfl rfl ?_
    refine WL.x (X.field Try.runUnderlying28 rfl Try.sizeOf26 rfl) (by decide) ?_
    refine WL.yes rfl rfl ?_
    refine WL.x (X.loadB (k := 1) Try.isAgg26 rfl rfl rfl) (by decide) ?_
    refine WL.yes rfl rfl ?_
    refine WL.x (X.len Try.runUnderlying26 rfl hs6) (by decide) ?_
    refine WL.yes rfl rfl ?_
    refine WL.cond (X.gtr rfl rfl) (by decide) (fun h22 => ?_) (fun h22 => ?_)
    · refine WL.x (X.pickF rfl rfl rfl) (by decide) ?_
      refine WL.nil ?_
      refine WK.nThen ?_
      refine WC.condT rfl ?_
      refine WC.seq ?_
      refine WC.region ?_
      refine WL.x (X.move rfl) (by decide) ?_
      refine WL.x (X.assign rfl) (by decide) ?_
      refine WL.nil ?_
      refine WK.nThen ?_
      refine WC.ret ?_
      refine WK.rThen ?_
      refine WK.ret1 rfl rfl (fun w' hw' => Ret.exact hw' ?_)
      first | rfl | (exfalso; omega) | (exfalso; contradiction) | (exfalso; have q_ := hc1 (by assumption); omega) | (exfalso; have q_ := hc2 (by assumption); omega) | (exfalso; have q_ := hk3 (by omega); contradiction) | (exfalso; have q_ := hk0 (by omega); omega) | exact (bool_true (hah (by omega) (by omega))).symm | exact (bool_true (by omega)).symm
    · refine WL.x (X.pickF rfl rfl rfl) (by decide) ?_
      refine WL.nil ?_
      refine WK.nThen ?_
      refine WC.condF rfl ?_
      refine WC.skip ?_
      refine WK.nThen ?_
      refine WC.seq ?_
      refine WC.region ?_
      refine WL.x (X.field Try.runUnderlying28 rfl Try.sizeOf25 rfl) (by decide) ?_
      refine WL.x (X.loadBP (k := 1) (vs := [v1, v3]) Try.isAgg25 Try.sizeOf25 rfl rfl rfl rfl) (by decide) ?_
      refine WL.x (X.field Try.runUnderlying28 rfl Try.sizeOf26 rfl) (by decide) ?_
      refine WL.x (X.loadB (k := 1) Try.isAgg26 rfl rfl rfl) (by decide) ?_
      refine WL.x (X.field Try.runUnderlying36 rfl Try.sizeOf3 rfl) (by decide) ?_
      refine WL.x (X.loadB (k := 0) Try.isAgg3 rfl rfl rfl) (by decide) ?_
      refine WL.x (X.call Try.call37 rfl (span37 _ _ c.D ⟨_, _, rfl, hs2, hs4⟩ _ _ hs6 _ )) (by decide) ?_
      refine WL.x (X.move rfl) (by decide) ?_
      refine WL.x (X.extract rfl rfl) (by decide) ?_
      refine WL.x (X.extract rfl rfl) (by decide) ?_
      refine WL.tn (T.alloc Try.zeroValue31 rfl) (by decide) fun b23 => ?_
      refine WL.ts (T.storeBA (k := 0) Try.sizeOf31 rfl rfl rfl (one_cons rfl (one_cons rfl one_nil)) rfl rfl) ?_
      refine WL.x (X.assign rfl) (by decide) ?_
      refine WL.nil ?_
      refine WK.nThen ?_
      refine WC.seq ?_
      refine WC.region ?_
      refine WL.x (X.field Try.runUnderlying28 rfl Try.sizeOf25 rfl) (by decide) ?_
      refine WL.x (X.loadBP (k := 2) (vs := [v1, v3]) Try.isAgg25 Try.sizeOf25 rfl rfl rfl rfl) (by decide) ?_
      refine WL.x (X.field Try.runUnderlying28 rfl Try.sizeOf26 rfl) (by decide) ?_
      refine WL.x (X.loadB (k := 2) Try.isAgg26 rfl rfl rfl) (by decide) ?_
      refine WL.x (X.field Try.runUnderlying36 rfl Try.sizeOf3 rfl) (by decide) ?_
      refine WL.x (X.loadB (k := 1) Try.isAgg3 rfl rfl rfl) (by decide) ?_
      refine WL.x (X.field Try.runUnderlying36 rfl Try.sizeOf3 rfl) (by decide) ?_
      refine WL.x (X.loadB (k := 1) Try.isAgg3 rfl rfl rfl) (by decide) ?_
      refine WL.tm (T.call Try.call72 rfl (with72 _ _ c.D ⟨_, _, rfl, hs2, hs4⟩ _ _ hs6 _ _ )) (by decide) fun m24 r25 hle26 hR27 => ?_
      obtain ⟨v28, rfl, hs29⟩ := hR27
      replace hs2 := hs2.mono hle26
      replace hs4 := hs4.mono hle26
      replace hs6 := hs6.mono hle26
      replace hs11 := hs11.mono hle26
      replace hs13 := hs13.mono hle26
      replace hs15 := hs15.mono hle26
      have hl30 := hs29.le
      refine WL.x (X.move rfl) (by decide) ?_
      refine WL.x (X.extract rfl rfl) (by decide) ?_
      refine WL.x (X.extract rfl rfl) (by decide) ?_
      refine WL.x (X.assign rfl) (by decide) ?_
      refine WL.x (X.assign rfl) (by decide) ?_
      refine WL.nil ?_
      refine WK.nThen ?_
      refine WC.seq ?_
      refine WC.region ?_
      refine WL.x (X.field Try.runUnderlying28 rfl Try.sizeOf25 rfl) (by decide) ?_
      refine WL.x (X.loadBP (k := 2) (vs := [v1, v3]) Try.isAgg25 Try.sizeOf25 rfl rfl rfl rfl) (by decide) ?_
      refine WL.x (X.field Try.runUnderlying28 rfl Try.sizeOf26 rfl) (by decide) ?_
      refine WL.x (X.loadB (k := 2) Try.isAgg26 rfl rfl rfl) (by decide) ?_
      refine WL.x (X.field Try.runUnderlying36 rfl Try.sizeOf3 rfl) (by decide) ?_
      refine WL.x (X.loadB (k := 1) Try.isAgg3 rfl rfl rfl) (by decide) ?_
      refine WL.x (X.field Try.runUnderlying36 rfl Try.sizeOf3 rfl) (by decide) ?_
      refine WL.x (X.loadB (k := 1) Try.isAgg3 rfl rfl rfl) (by decide) ?_
      refine WL.x (X.addW rfl rfl) (by decide) ?_
      refine WL.tm (T.call Try.call72 rfl (with72 _ _ c.D ⟨_, _, rfl, hs2, hs4⟩ _ _ hs6 _ _ )) (by decide) fun m31 r32 hle33 hR34 => ?_
      obtain ⟨v35, rfl, hs36⟩ := hR34
      replace hs2 := hs2.mono hle33
      replace hs4 := hs4.mono hle33
      replace hs6 := hs6.mono hle33
      replace hs11 := hs11.mono hle33
      replace hs13 := hs13.mono hle33
      replace hs15 := hs15.mono hle33
      replace hs29 := hs29.mono hle33
      have hl37 := hs36.le
      refine WL.x (X.move rfl) (by decide) ?_
      refine WL.x (X.extract rfl rfl) (by decide) ?_
      refine WL.x (X.extract rfl rfl) (by decide) ?_
      refine WL.x (X.assign rfl) (by decide) ?_
      refine WL.x (X.assign rfl) (by decide) ?_
      refine WL.nil ?_
      refine WK.nThen ?_
      refine WC.seq ?_
      refine WC.seq ?_
      refine WC.region ?_
      refine WL.x (X.move rfl) (by decide) ?_
      refine WL.condn (X.neq rfl rfl) (by decide) (fun h38 => ?_) (fun h38 => ?_)
      · refine WL.nil ?_
        refine WK.nThen ?_
        refine WC.condT rfl ?_
        refine WC.seq ?_
        have hq := ticks_bad (d := c.D) (m := c.M) (a := x.A) (t := x.Tick) (by omega)
        refine WC.region ?_
        refine WL.x (X.move rfl) (by decide) ?_
        refine WL.x (X.move rfl) (by decide) ?_
        refine WL.yes rfl rfl ?_
        refine WL.x (X.move rfl) (by decide) ?_
        refine WL.yes rfl rfl ?_
        refine WL.x (X.neq rfl rfl) (by decide) ?_
        refine WL.x (X.pickT rfl rfl rfl) (by decide) ?_
        refine WL.x (X.assign rfl) (by decide) ?_
        refine WL.nil ?_
        refine WK.nThen ?_
        refine WC.ret ?_
        refine WK.rThen ?_
        refine WK.ret1 rfl rfl (fun w' hw' => Ret.exact hw' ?_)
        first | rfl | (exfalso; omega) | (exfalso; contradiction) | (exfalso; have q_ := hc1 (by assumption); omega) | (exfalso; have q_ := hc2 (by assumption); omega) | (exfalso; have q_ := hk3 (by omega); contradiction) | (exfalso; have q_ := hk0 (by omega); omega) | exact (bool_true (hah (by omega) (by omega))).symm | exact (bool_true (by omega)).symm
      · refine WL.nil ?_
        refine WK.nThen ?_
        refine WC.condF rfl ?_
        refine WC.skip ?_
        refine WK.nThen ?_
        refine WC.seq ?_
        refine WC.seq ?_
        have hz : (spanR c.D c.M x.A).2 = 0 := (by omega)
        have hin := ticks_in (t := x.Tick) hz
        have hcan := ticks_can (x := c) (t := x.Tick) hz (by omega)
        have hc1 : canR c [⟨x.A, ⟨x.Tick, x.Tick⟩⟩] = true → (withR c.D c.M x.A x.Tick).2 = 0 := hcan.2
        have hc2 : canR c [⟨x.A, ⟨x.Tick, x.Tick⟩⟩] = false → ¬ (withR c.D c.M x.A x.Tick).2 = 0 := (fun h_ h2_ => by rw [hcan.1 h2_] at h_; cases h_)
        have hk0 : (withR c.D c.M x.A x.Tick).2 = 0 → (0 ≤ x.A ∧ x.A < ((withR c.D c.M x.A x.Tick).1.length : Int)) ∧ gt (withR c.D c.M x.A x.Tick).1 x.A.toNat = x.Tick := (fun h_ => (ticks_keep h_).2)
        have hk3 : (withR c.D c.M x.A x.Tick).2 = 0 → keepE c.D c.M (withR c.D c.M x.A x.Tick).1 = 0 := (fun h_ => (ticks_keep h_).1)
        refine WC.draw (π := (.cons 0 (.cons 1 (.cons 2 (.cons 3 (.cons 4 (.cons 5 (.cons 6 (.cons 7 (.cons 8 (.cons 9 (.cons 10 (.cons 11 (.cons 12 (.cons 13 (.cons 14 (.cons 15 (.cons 16 (.cons 17 (.cons 18 (.cons 19 (.cons 20 (.cons 21 (.cons 22 (.cons 23 (.cons 24 (.cons 25 (.cons 26 (.cons 27 .done))))))))))))))))))))))))))))) [24] [] rfl (by kernel_rfl) ?_
        refine DW.x rfl rfl (X.move rfl) (by decide) ?_
        refine DW.cond rfl rfl (X.eql rfl rfl) (by decide) (fun h39 => ?_) (fun h39 => ?_)
        · refine DW.x rfl rfl (X.field Try.runUnderlying31 rfl Try.sizeOf3 rfl) (by decide) ?_
          refine DW.x rfl rfl (X.loadB (k := 0) Try.isAgg3 rfl rfl rfl) (by decide) ?_
          refine DW.x rfl rfl (X.field Try.runUnderlying36 rfl Try.sizeOf3 rfl) (by decide) ?_
          refine DW.x rfl rfl (X.loadB (k := 1) Try.isAgg3 rfl rfl rfl) (by decide) ?_
          refine DW.cond rfl rfl (X.leq rfl rfl) (by decide) (fun h40 => ?_) (fun h40 => ?_)
          · refine DW.x rfl rfl (X.move rfl) (by decide) ?_
            refine DW.x rfl rfl (X.field Try.runUnderlying36 rfl Try.sizeOf3 rfl) (by decide) ?_
            refine DW.x rfl rfl (X.loadB (k := 1) Try.isAgg3 rfl rfl rfl) (by decide) ?_
            refine DW.x rfl rfl (X.field Try.runUnderlying31 rfl Try.sizeOf3 rfl) (by decide) ?_
            refine DW.x rfl rfl (X.loadB (k := 0) Try.isAgg3 rfl rfl rfl) (by decide) ?_
            refine DW.cond rfl rfl (X.leq rfl rfl) (by decide) (fun h41 => ?_) (fun h41 => ?_)
            · refine DW.x rfl rfl (X.pickT rfl rfl rfl) (by decide) ?_
              refine DW.x rfl rfl (OpX.f (X.neqB Try.underlying4 rfl rfl) (fun h => h rfl)) (by decide) ?_
              refine DW.x rfl rfl (X.move rfl) (by decide) ?_
              refine DW.x rfl rfl (X.move rfl) (by decide) ?_
              refine DW.cond rfl rfl (X.eql rfl rfl) (by decide) (fun h42 => ?_) (fun h42 => ?_)
              · refine DW.x rfl rfl (X.loadBA (k := 2) Try.isAgg28 Try.sizeOf28 rfl rfl rfl) (by decide) ?_
                refine DW.x rfl rfl (X.field Try.runUnderlying36 rfl Try.sizeOf3 rfl) (by decide) ?_
                refine DW.x rfl rfl (X.loadB (k := 1) Try.isAgg3 rfl rfl rfl) (by decide) ?_
                refine DW.x rfl rfl (X.field Try.runUnderlying36 rfl Try.sizeOf3 rfl) (by decide) ?_
                refine DW.x rfl rfl (X.loadB (k := 1) Try.isAgg3 rfl rfl rfl) (by decide) ?_
                refine DW.x rfl rfl (X.call Try.call39 rfl (one39 _ _ _ )) (by decide) ?_
                refine DW.tm rfl rfl rfl (T.litM (α := Mark) (vals := [.agg [.int .i64 (x.A), .int .i64 (x.Tick), .int .i64 (x.Tick)].toArray]) (L := [(Mark.mk (x.A) ((Span.mk (x.Tick) (x.Tick))))]) sl26 rfl (.cons rfl rfl .nil) rfl rfl) (by decide) (fun m43 v44 hle45 hs46 => ?_)
                replace hs2 := hs2.mono hle45
                replace hs4 := hs4.mono hle45
                replace hs6 := hs6.mono hle45
                replace hs11 := hs11.mono hle45
                replace hs13 := hs13.mono hle45
                replace hs15 := hs15.mono hle45
                replace hs29 := hs29.mono hle45
                replace hs36 := hs36.mono hle45
                refine DW.condb rfl rfl (X.call Try.call30 rfl (can30 _ _ c ⟨_, _, _, rfl, hs2, hs4, hs6⟩ _ _ hs46 (by first | omega | simp) (by first | omega | simp))) (by decide) (fun h47 => ?_) (fun h47 => ?_)
                · refine DW.x rfl rfl (OpX.f (X.neqB Try.underlying4 rfl rfl) (fun h => h rfl)) (by decide) ?_
                  refine DW.x rfl rfl (X.pickF rfl rfl rfl) (by decide) ?_
                  refine DW.nil ?_
                  refine WK.nThen ?_
                  refine WC.condF rfl ?_
                  refine WC.skip ?_
                  refine WK.nThen ?_
                  refine WC.seq ?_
                  refine WC.seq ?_
                  refine WC.draw (π := (.cons 0 (.cons 1 (.cons 2 (.cons 3 (.cons 4 (.cons 5 (.cons 6 (.cons 7 (.cons 8 (.cons 9 (.cons 10 (.cons 11 (.cons 12 (.cons 13 (.cons 14 (.cons 15 (.cons 16 (.cons 17 .done))))))))))))))))))) [] [] rfl (by kernel_rfl) ?_
                  refine DW.x rfl rfl (X.move rfl) (by decide) ?_
                  refine DW.cond rfl rfl (X.eql rfl rfl) (by decide) (fun h48 => ?_) (fun h48 => ?_)
                  · refine DW.x rfl rfl (X.move rfl) (by decide) ?_
                    refine DW.x rfl rfl (X.loadBA (k := 2) Try.isAgg28 Try.sizeOf28 rfl rfl rfl) (by decide) ?_
                    refine DW.x rfl rfl (X.move rfl) (by decide) ?_
                    refine DW.cond rfl rfl (X.call Try.call48 rfl (is48 _ _ c ⟨_, _, _, rfl, hs2, hs4, hs6⟩ _ _ hs29 )) (by decide) (fun h49 => ?_) (fun h49 => ?_)
                    · refine DW.x rfl rfl (X.not rfl) (by decide) ?_
                      refine DW.x rfl rfl (X.move rfl) (by decide) ?_
                      refine DW.x rfl rfl (X.move rfl) (by decide) ?_
                      refine DW.x rfl rfl (X.field Try.runUnderlying36 rfl Try.sizeOf3 rfl) (by decide) ?_
                      refine DW.x rfl rfl (X.loadB (k := 1) Try.isAgg3 rfl rfl rfl) (by decide) ?_
                      refine DW.xe rfl rfl (E.idx Try.runUnderlying29 Try.sizeOf3 rfl rfl hs29 (by omega) (by omega)) (by decide) (fun p50 hp51 => ?_)
                      refine DW.x rfl rfl (X.loadInt Try.isAgg3 rfl hp51) (by decide) ?_
                      refine DW.x rfl rfl (X.field Try.runUnderlying36 rfl Try.sizeOf3 rfl) (by decide) ?_
                      refine DW.x rfl rfl (X.loadB (k := 1) Try.isAgg3 rfl rfl rfl) (by decide) ?_
                      refine DW.condn rfl rfl (X.neq rfl rfl) (by decide) (fun h52 => ?_) (fun h52 => ?_)
                      · refine DW.x rfl rfl (X.pickF rfl rfl rfl) (by decide) ?_
                        refine DW.x rfl rfl (X.pickT rfl rfl rfl) (by decide) ?_
                        refine DW.nil ?_
                        refine WK.nThen ?_
                        refine WC.condT rfl ?_
                        refine WC.seq ?_
                        refine WC.region ?_
                        refine WL.x (X.assign rfl) (by decide) ?_
                        refine WL.nil ?_
                        refine WK.nThen ?_
                        refine WC.ret ?_
                        refine WK.rThen ?_
                        refine WK.ret1 rfl rfl (fun w' hw' => Ret.exact hw' ?_)
                        first | rfl | (exfalso; omega) | (exfalso; contradiction) | (exfalso; have q_ := hc1 (by assumption); omega) | (exfalso; have q_ := hc2 (by assumption); omega) | (exfalso; have q_ := hk3 (by omega); contradiction) | (exfalso; have q_ := hk0 (by omega); omega) | exact (bool_true (hah (by omega) (by omega))).symm | exact (bool_true (by omega)).symm
                      · refine DW.x rfl rfl (X.pickF rfl rfl rfl) (by decide) ?_
                        refine DW.x rfl rfl (X.pickT rfl rfl rfl) (by decide) ?_
                        refine DW.nil ?_
                        refine WK.nThen ?_
                        refine WC.condF rfl ?_
                        refine WC.skip ?_
                        refine WK.nThen ?_
                        refine WC.seq ?_
                        have hah : (withR c.D c.M x.A x.Tick).2 = 0 → (withR c.D c.M x.A (wr (x.Tick + 1))).2 = 0 → aheadP (withR c.D c.M x.A x.Tick).1 (withR c.D c.M x.A (wr (x.Tick + 1))).1 := (fun h1_ h2_ => ticks_wr h1_ h2_)
                        refine WC.region ?_
                        refine WL.x (X.move rfl) (by decide) ?_
                        refine WL.x (X.move rfl) (by decide) ?_
                        refine WL.yes rfl rfl ?_
                        refine WL.x (X.move rfl) (by decide) ?_
                        refine WL.yes rfl rfl ?_
                        refine WL.condn (X.neq rfl rfl) (by decide) (fun h53 => ?_) (fun h53 => ?_)
                        · refine WL.yes rfl rfl ?_
                          refine WL.x (X.move rfl) (by decide) ?_
                          refine WL.no rfl rfl rfl (by decide) ?_
                          refine WL.no rfl rfl rfl (by decide) ?_
                          refine WL.yes rfl rfl ?_
                          refine WL.x (X.pickT rfl rfl rfl) (by decide) ?_
                          refine WL.yes rfl rfl ?_
                          refine WL.x (X.move rfl) (by decide) ?_
                          refine WL.no rfl rfl rfl (by decide) ?_
                          refine WL.no rfl rfl rfl (by decide) ?_
                          refine WL.no rfl rfl rfl (by decide) ?_
                          refine WL.yes rfl rfl ?_
                          refine WL.x (X.pickT rfl rfl rfl) (by decide) ?_
                          refine WL.x (X.pickT rfl rfl rfl) (by decide) ?_
                          refine WL.x (X.assign rfl) (by decide) ?_
                          refine WL.nil ?_
                          refine WK.nThen ?_
                          refine WC.ret ?_
                          refine WK.ret1 rfl rfl (fun w' hw' => Ret.exact hw' ?_)
                          first | rfl | (exfalso; omega) | (exfalso; contradiction) | (exfalso; have q_ := hc1 (by assumption); omega) | (exfalso; have q_ := hc2 (by assumption); omega) | (exfalso; have q_ := hk3 (by omega); contradiction) | (exfalso; have q_ := hk0 (by omega); omega) | exact (bool_true (hah (by omega) (by omega))).symm | exact (bool_true (by omega)).symm
                        · refine WL.yes rfl rfl ?_
                          refine WL.x (X.move rfl) (by decide) ?_
                          refine WL.yes rfl rfl ?_
                          refine WL.x (X.move rfl) (by decide) ?_
                          refine WL.yes rfl rfl ?_
                          refine WL.condn (X.neq rfl rfl) (by decide) (fun h54 => ?_) (fun h54 => ?_)
                          · refine WL.yes rfl rfl ?_
                            refine WL.x (X.pickF rfl rfl rfl) (by decide) ?_
                            refine WL.yes rfl rfl ?_
                            refine WL.x (X.move rfl) (by decide) ?_
                            refine WL.no rfl rfl rfl (by decide) ?_
                            refine WL.no rfl rfl rfl (by decide) ?_
                            refine WL.no rfl rfl rfl (by decide) ?_
                            refine WL.yes rfl rfl ?_
                            refine WL.x (X.pickT rfl rfl rfl) (by decide) ?_
                            refine WL.x (X.pickT rfl rfl rfl) (by decide) ?_
                            refine WL.x (X.assign rfl) (by decide) ?_
                            refine WL.nil ?_
                            refine WK.nThen ?_
                            refine WC.ret ?_
                            refine WK.ret1 rfl rfl (fun w' hw' => Ret.exact hw' ?_)
                            first | rfl | (exfalso; omega) | (exfalso; contradiction) | (exfalso; have q_ := hc1 (by assumption); omega) | (exfalso; have q_ := hc2 (by assumption); omega) | (exfalso; have q_ := hk3 (by omega); contradiction) | (exfalso; have q_ := hk0 (by omega); omega) | exact (bool_true (hah (by omega) (by omega))).symm | exact (bool_true (by omega)).symm
                          · refine WL.yes rfl rfl ?_
                            refine WL.x (X.pickF rfl rfl rfl) (by decide) ?_
                            refine WL.yes rfl rfl ?_
                            refine WL.x (X.move rfl) (by decide) ?_
                            refine WL.yes rfl rfl ?_
                            refine WL.x (X.move rfl) (by decide) ?_
                            refine WL.yes rfl rfl ?_
                            refine WL.x (X.move rfl) (by decide) ?_
                            refine WL.yes rfl rfl ?_
                            refine WL.x (X.call Try.call51 rfl (ahead51 _ _ _ hs29 _ _ hs36 )) (by decide) ?_
                            refine WL.yes rfl rfl ?_
                            refine WL.x (X.pickF rfl rfl rfl) (by decide) ?_
                            refine WL.x (X.pickT rfl rfl rfl) (by decide) ?_
                            refine WL.x (X.assign rfl) (by decide) ?_
                            refine WL.nil ?_
                            refine WK.nThen ?_
                            refine WC.ret ?_
                            refine WK.ret1 rfl rfl (fun w' hw' => Ret.exact hw' ?_)
                            first | rfl | (exfalso; omega) | (exfalso; contradiction) | (exfalso; have q_ := hc1 (by assumption); omega) | (exfalso; have q_ := hc2 (by assumption); omega) | (exfalso; have q_ := hk3 (by omega); contradiction) | (exfalso; have q_ := hk0 (by omega); omega) | exact (bool_true (hah (by omega) (by omega))).symm | exact (bool_true (by omega)).symm
                    · refine DW.x rfl rfl (X.not rfl) (by decide) ?_
                      refine DW.x rfl rfl (X.move rfl) (by decide) ?_
                      refine DW.no rfl rfl (by decide) ?_
                      refine DW.no rfl rfl (by decide) ?_
                      refine DW.no rfl rfl (by decide) ?_
                      refine DW.no rfl rfl (by decide) ?_
                      refine DW.no rfl rfl (by decide) ?_
                      refine DW.no rfl rfl (by decide) ?_
                      refine DW.no rfl rfl (by decide) ?_
                      refine DW.no rfl rfl (by decide) ?_
                      refine DW.x rfl rfl (X.pickT rfl rfl rfl) (by decide) ?_
                      refine DW.x rfl rfl (X.pickT rfl rfl rfl) (by decide) ?_
                      refine DW.nil ?_
                      refine WK.nThen ?_
                      refine WC.condT rfl ?_
                      refine WC.seq ?_
                      refine WC.region ?_
                      refine WL.x (X.assign rfl) (by decide) ?_
                      refine WL.nil ?_
                      refine WK.nThen ?_
                      refine WC.ret ?_
                      refine WK.rThen ?_
                      refine WK.ret1 rfl rfl (fun w' hw' => Ret.exact hw' ?_)
                      first | rfl | (exfalso; omega) | (exfalso; contradiction) | (exfalso; have q_ := hc1 (by assumption); omega) | (exfalso; have q_ := hc2 (by assumption); omega) | (exfalso; have q_ := hk3 (by omega); contradiction) | (exfalso; have q_ := hk0 (by omega); omega) | exact (bool_true (hah (by omega) (by omega))).symm | exact (bool_true (by omega)).symm
                  · refine DW.x rfl rfl (X.move rfl) (by decide) ?_
                    refine DW.no rfl rfl (by decide) ?_
                    refine DW.no rfl rfl (by decide) ?_
                    refine DW.no rfl rfl (by decide) ?_
                    refine DW.no rfl rfl (by decide) ?_
                    refine DW.no rfl rfl (by decide) ?_
                    refine DW.no rfl rfl (by decide) ?_
                    refine DW.no rfl rfl (by decide) ?_
                    refine DW.no rfl rfl (by decide) ?_
                    refine DW.no rfl rfl (by decide) ?_
                    refine DW.no rfl rfl (by decide) ?_
                    refine DW.no rfl rfl (by decide) ?_
                    refine DW.no rfl rfl (by decide) ?_
                    refine DW.no rfl rfl (by decide) ?_
                    refine DW.no rfl rfl (by decide) ?_
                    refine DW.x rfl rfl (X.pickF rfl rfl rfl) (by decide) ?_
                    refine DW.nil ?_
                    refine WK.nThen ?_
                    refine WC.condF rfl ?_
                    refine WC.skip ?_
                    refine WK.nThen ?_
                    refine WC.seq ?_
                    have hah : (withR c.D c.M x.A x.Tick).2 = 0 → (withR c.D c.M x.A (wr (x.Tick + 1))).2 = 0 → aheadP (withR c.D c.M x.A x.Tick).1 (withR c.D c.M x.A (wr (x.Tick + 1))).1 := (fun h1_ h2_ => ticks_wr h1_ h2_)
                    refine WC.region ?_
                    refine WL.x (X.move rfl) (by decide) ?_
                    refine WL.x (X.move rfl) (by decide) ?_
                    refine WL.yes rfl rfl ?_
                    refine WL.x (X.move rfl) (by decide) ?_
                    refine WL.yes rfl rfl ?_
                    refine WL.condn (X.neq rfl rfl) (by decide) (fun h55 => ?_) (fun h55 => ?_)
                    · refine WL.yes rfl rfl ?_
                      refine WL.x (X.move rfl) (by decide) ?_
                      refine WL.no rfl rfl rfl (by decide) ?_
                      refine WL.no rfl rfl rfl (by decide) ?_
                      refine WL.yes rfl rfl ?_
                      refine WL.x (X.pickT rfl rfl rfl) (by decide) ?_
                      refine WL.yes rfl rfl ?_
                      refine WL.x (X.move rfl) (by decide) ?_
                      refine WL.no rfl rfl rfl (by decide) ?_
                      refine WL.no rfl rfl rfl (by decide) ?_
                      refine WL.no rfl rfl rfl (by decide) ?_
                      refine WL.yes rfl rfl ?_
                      refine WL.x (X.pickT rfl rfl rfl) (by decide) ?_
                      refine WL.x (X.pickT rfl rfl rfl) (by decide) ?_
                      refine WL.x (X.assign rfl) (by decide) ?_
                      refine WL.nil ?_
                      refine WK.nThen ?_
                      refine WC.ret ?_
                      refine WK.ret1 rfl rfl (fun w' hw' => Ret.exact hw' ?_)
                      first | rfl | (exfalso; omega) | (exfalso; contradiction) | (exfalso; have q_ := hc1 (by assumption); omega) | (exfalso; have q_ := hc2 (by assumption); omega) | (exfalso; have q_ := hk3 (by omega); contradiction) | (exfalso; have q_ := hk0 (by omega); omega) | exact (bool_true (hah (by omega) (by omega))).symm | exact (bool_true (by omega)).symm
                    · refine WL.yes rfl rfl ?_
                      refine WL.x (X.move rfl) (by decide) ?_
                      refine WL.yes rfl rfl ?_
                      refine WL.x (X.move rfl) (by decide) ?_
                      refine WL.yes rfl rfl ?_
                      refine WL.condn (X.neq rfl rfl) (by decide) (fun h56 => ?_) (fun h56 => ?_)
                      · refine WL.yes rfl rfl ?_
                        refine WL.x (X.pickF rfl rfl rfl) (by decide) ?_
                        refine WL.yes rfl rfl ?_
                        refine WL.x (X.move rfl) (by decide) ?_
                        refine WL.no rfl rfl rfl (by decide) ?_
                        refine WL.no rfl rfl rfl (by decide) ?_
                        refine WL.no rfl rfl rfl (by decide) ?_
                        refine WL.yes rfl rfl ?_
                        refine WL.x (X.pickT rfl rfl rfl) (by decide) ?_
                        refine WL.x (X.pickT rfl rfl rfl) (by decide) ?_
                        refine WL.x (X.assign rfl) (by decide) ?_
                        refine WL.nil ?_
                        refine WK.nThen ?_
                        refine WC.ret ?_
                        refine WK.ret1 rfl rfl (fun w' hw' => Ret.exact hw' ?_)
                        first | rfl | (exfalso; omega) | (exfalso; contradiction) | (exfalso; have q_ := hc1 (by assumption); omega) | (exfalso; have q_ := hc2 (by assumption); omega) | (exfalso; have q_ := hk3 (by omega); contradiction) | (exfalso; have q_ := hk0 (by omega); omega) | exact (bool_true (hah (by omega) (by omega))).symm | exact (bool_true (by omega)).symm
                      · refine WL.yes rfl rfl ?_
                        refine WL.x (X.pickF rfl rfl rfl) (by decide) ?_
                        refine WL.yes rfl rfl ?_
                        refine WL.x (X.move rfl) (by decide) ?_
                        refine WL.yes rfl rfl ?_
                        refine WL.x (X.move rfl) (by decide) ?_
                        refine WL.yes rfl rfl ?_
                        refine WL.x (X.move rfl) (by decide) ?_
                        refine WL.yes rfl rfl ?_
                        refine WL.x (X.call Try.call51 rfl (ahead51 _ _ _ hs29 _ _ hs36 )) (by decide) ?_
                        refine WL.yes rfl rfl ?_
                        refine WL.x (X.pickF rfl rfl rfl) (by decide) ?_
                        refine WL.x (X.pickT rfl rfl rfl) (by decide) ?_
                        refine WL.x (X.assign rfl) (by decide) ?_
                        refine WL.nil ?_
                        refine WK.nThen ?_
                        refine WC.ret ?_
                        refine WK.ret1 rfl rfl (fun w' hw' => Ret.exact hw' ?_)
                        first | rfl | (exfalso; omega) | (exfalso; contradiction) | (exfalso; have q_ := hc1 (by assumption); omega) | (exfalso; have q_ := hc2 (by assumption); omega) | (exfalso; have q_ := hk3 (by omega); contradiction) | (exfalso; have q_ := hk0 (by omega); omega) | exact (bool_true (hah (by omega) (by omega))).symm | exact (bool_true (by omega)).symm
                · refine DW.x rfl rfl (OpX.t (X.neqB Try.underlying4 rfl rfl) (by decide)) (by decide) ?_
                  refine DW.x rfl rfl (X.pickF rfl rfl rfl) (by decide) ?_
                  refine DW.nil ?_
                  refine WK.nThen ?_
                  refine WC.condT rfl ?_
                  refine WC.seq ?_
                  refine WC.region ?_
                  refine WL.x (X.assign rfl) (by decide) ?_
                  refine WL.nil ?_
                  refine WK.nThen ?_
                  refine WC.ret ?_
                  refine WK.rThen ?_
                  refine WK.ret1 rfl rfl (fun w' hw' => Ret.exact hw' ?_)
                  first | rfl | (exfalso; omega) | (exfalso; contradiction) | (exfalso; have q_ := hc1 (by assumption); omega) | (exfalso; have q_ := hc2 (by assumption); omega) | (exfalso; have q_ := hk3 (by omega); contradiction) | (exfalso; have q_ := hk0 (by omega); omega) | exact (bool_true (hah (by omega) (by omega))).symm | exact (bool_true (by omega)).symm
              · refine DW.x rfl rfl (X.loadBA (k := 2) Try.isAgg28 Try.sizeOf28 rfl rfl rfl) (by decide) ?_
                refine DW.x rfl rfl (X.field Try.runUnderlying36 rfl Try.sizeOf3 rfl) (by decide) ?_
                refine DW.x rfl rfl (X.loadB (k := 1) Try.isAgg3 rfl rfl rfl) (by decide) ?_
                refine DW.x rfl rfl (X.field Try.runUnderlying36 rfl Try.sizeOf3 rfl) (by decide) ?_
                refine DW.x rfl rfl (X.loadB (k := 1) Try.isAgg3 rfl rfl rfl) (by decide) ?_
                refine DW.x rfl rfl (X.call Try.call39 rfl (one39 _ _ _ )) (by decide) ?_
                refine DW.tm rfl rfl rfl (T.litM (α := Mark) (vals := [.agg [.int .i64 (x.A), .int .i64 (x.Tick), .int .i64 (x.Tick)].toArray]) (L := [(Mark.mk (x.A) ((Span.mk (x.Tick) (x.Tick))))]) sl26 rfl (.cons rfl rfl .nil) rfl rfl) (by decide) (fun m57 v58 hle59 hs60 => ?_)
                replace hs2 := hs2.mono hle59
                replace hs4 := hs4.mono hle59
                replace hs6 := hs6.mono hle59
                replace hs11 := hs11.mono hle59
                replace hs13 := hs13.mono hle59
                replace hs15 := hs15.mono hle59
                replace hs29 := hs29.mono hle59
                replace hs36 := hs36.mono hle59
                refine DW.condb rfl rfl (X.call Try.call30 rfl (can30 _ _ c ⟨_, _, _, rfl, hs2, hs4, hs6⟩ _ _ hs60 (by first | omega | simp) (by first | omega | simp))) (by decide) (fun h61 => ?_) (fun h61 => ?_)
                · refine DW.x rfl rfl (OpX.t (X.neqB Try.underlying4 rfl rfl) (by decide)) (by decide) ?_
                  refine DW.x rfl rfl (X.pickF rfl rfl rfl) (by decide) ?_
                  refine DW.nil ?_
                  refine WK.nThen ?_
                  refine WC.condT rfl ?_
                  refine WC.seq ?_
                  refine WC.region ?_
                  refine WL.x (X.assign rfl) (by decide) ?_
                  refine WL.nil ?_
                  refine WK.nThen ?_
                  refine WC.ret ?_
                  refine WK.rThen ?_
                  refine WK.ret1 rfl rfl (fun w' hw' => Ret.exact hw' ?_)
                  first | rfl | (exfalso; omega) | (exfalso; contradiction) | (exfalso; have q_ := hc1 (by assumption); omega) | (exfalso; have q_ := hc2 (by assumption); omega) | (exfalso; have q_ := hk3 (by omega); contradiction) | (exfalso; have q_ := hk0 (by omega); omega) | exact (bool_true (hah (by omega) (by omega))).symm | exact (bool_true (by omega)).symm
                · refine DW.x rfl rfl (OpX.f (X.neqB Try.underlying4 rfl rfl) (fun h => h rfl)) (by decide) ?_
                  refine DW.x rfl rfl (X.pickF rfl rfl rfl) (by decide) ?_
                  refine DW.nil ?_
                  refine WK.nThen ?_
                  refine WC.condF rfl ?_
                  refine WC.skip ?_
                  refine WK.nThen ?_
                  refine WC.seq ?_
                  refine WC.seq ?_
                  refine WC.draw (π := (.cons 0 (.cons 1 (.cons 2 (.cons 3 (.cons 4 (.cons 5 (.cons 6 (.cons 7 (.cons 8 (.cons 9 (.cons 10 (.cons 11 (.cons 12 (.cons 13 (.cons 14 (.cons 15 (.cons 16 (.cons 17 .done))))))))))))))))))) [] [] rfl (by kernel_rfl) ?_
                  refine DW.x rfl rfl (X.move rfl) (by decide) ?_
                  refine DW.cond rfl rfl (X.eql rfl rfl) (by decide) (fun h62 => ?_) (fun h62 => ?_)
                  · refine DW.x rfl rfl (X.move rfl) (by decide) ?_
                    refine DW.x rfl rfl (X.loadBA (k := 2) Try.isAgg28 Try.sizeOf28 rfl rfl rfl) (by decide) ?_
                    refine DW.x rfl rfl (X.move rfl) (by decide) ?_
                    refine DW.cond rfl rfl (X.call Try.call48 rfl (is48 _ _ c ⟨_, _, _, rfl, hs2, hs4, hs6⟩ _ _ hs29 )) (by decide) (fun h63 => ?_) (fun h63 => ?_)
                    · refine DW.x rfl rfl (X.not rfl) (by decide) ?_
                      refine DW.x rfl rfl (X.move rfl) (by decide) ?_
                      refine DW.x rfl rfl (X.move rfl) (by decide) ?_
                      refine DW.x rfl rfl (X.field Try.runUnderlying36 rfl Try.sizeOf3 rfl) (by decide) ?_
                      refine DW.x rfl rfl (X.loadB (k := 1) Try.isAgg3 rfl rfl rfl) (by decide) ?_
                      refine DW.xe rfl rfl (E.idx Try.runUnderlying29 Try.sizeOf3 rfl rfl hs29 (by omega) (by omega)) (by decide) (fun p64 hp65 => ?_)
                      refine DW.x rfl rfl (X.loadInt Try.isAgg3 rfl hp65) (by decide) ?_
                      refine DW.x rfl rfl (X.field Try.runUnderlying36 rfl Try.sizeOf3 rfl) (by decide) ?_
                      refine DW.x rfl rfl (X.loadB (k := 1) Try.isAgg3 rfl rfl rfl) (by decide) ?_
                      refine DW.condn rfl rfl (X.neq rfl rfl) (by decide) (fun h66 => ?_) (fun h66 => ?_)
                      · refine DW.x rfl rfl (X.pickF rfl rfl rfl) (by decide) ?_
                        refine DW.x rfl rfl (X.pickT rfl rfl rfl) (by decide) ?_
                        refine DW.nil ?_
                        refine WK.nThen ?_
                        refine WC.condT rfl ?_
                        refine WC.seq ?_
                        refine WC.region ?_
                        refine WL.x (X.assign rfl) (by decide) ?_
                        refine WL.nil ?_
                        refine WK.nThen ?_
                        refine WC.ret ?_
                        refine WK.rThen ?_
                        refine WK.ret1 rfl rfl (fun w' hw' => Ret.exact hw' ?_)
                        first | rfl | (exfalso; omega) | (exfalso; contradiction) | (exfalso; have q_ := hc1 (by assumption); omega) | (exfalso; have q_ := hc2 (by assumption); omega) | (exfalso; have q_ := hk3 (by omega); contradiction) | (exfalso; have q_ := hk0 (by omega); omega) | exact (bool_true (hah (by omega) (by omega))).symm | exact (bool_true (by omega)).symm
                      · refine DW.x rfl rfl (X.pickF rfl rfl rfl) (by decide) ?_
                        refine DW.x rfl rfl (X.pickT rfl rfl rfl) (by decide) ?_
                        refine DW.nil ?_
                        refine WK.nThen ?_
                        refine WC.condF rfl ?_
                        refine WC.skip ?_
                        refine WK.nThen ?_
                        refine WC.seq ?_
                        have hah : (withR c.D c.M x.A x.Tick).2 = 0 → (withR c.D c.M x.A (wr (x.Tick + 1))).2 = 0 → aheadP (withR c.D c.M x.A x.Tick).1 (withR c.D c.M x.A (wr (x.Tick + 1))).1 := (fun h1_ h2_ => ticks_wr h1_ h2_)
                        refine WC.region ?_
                        refine WL.x (X.move rfl) (by decide) ?_
                        refine WL.x (X.move rfl) (by decide) ?_
                        refine WL.yes rfl rfl ?_
                        refine WL.x (X.move rfl) (by decide) ?_
                        refine WL.yes rfl rfl ?_
                        refine WL.condn (X.neq rfl rfl) (by decide) (fun h67 => ?_) (fun h67 => ?_)
                        · refine WL.yes rfl rfl ?_
                          refine WL.x (X.move rfl) (by decide) ?_
                          refine WL.no rfl rfl rfl (by decide) ?_
                          refine WL.no rfl rfl rfl (by decide) ?_
                          refine WL.yes rfl rfl ?_
                          refine WL.x (X.pickT rfl rfl rfl) (by decide) ?_
                          refine WL.yes rfl rfl ?_
                          refine WL.x (X.move rfl) (by decide) ?_
                          refine WL.no rfl rfl rfl (by decide) ?_
                          refine WL.no rfl rfl rfl (by decide) ?_
                          refine WL.no rfl rfl rfl (by decide) ?_
                          refine WL.yes rfl rfl ?_
                          refine WL.x (X.pickT rfl rfl rfl) (by decide) ?_
                          refine WL.x (X.pickT rfl rfl rfl) (by decide) ?_
                          refine WL.x (X.assign rfl) (by decide) ?_
                          refine WL.nil ?_
                          refine WK.nThen ?_
                          refine WC.ret ?_
                          refine WK.ret1 rfl rfl (fun w' hw' => Ret.exact hw' ?_)
                          first | rfl | (exfalso; omega) | (exfalso; contradiction) | (exfalso; have q_ := hc1 (by assumption); omega) | (exfalso; have q_ := hc2 (by assumption); omega) | (exfalso; have q_ := hk3 (by omega); contradiction) | (exfalso; have q_ := hk0 (by omega); omega) | exact (bool_true (hah (by omega) (by omega))).symm | exact (bool_true (by omega)).symm
                        · refine WL.yes rfl rfl ?_
                          refine WL.x (X.move rfl) (by decide) ?_
                          refine WL.yes rfl rfl ?_
                          refine WL.x (X.move rfl) (by decide) ?_
                          refine WL.yes rfl rfl ?_
                          refine WL.condn (X.neq rfl rfl) (by decide) (fun h68 => ?_) (fun h68 => ?_)
                          · refine WL.yes rfl rfl ?_
                            refine WL.x (X.pickF rfl rfl rfl) (by decide) ?_
                            refine WL.yes rfl rfl ?_
                            refine WL.x (X.move rfl) (by decide) ?_
                            refine WL.no rfl rfl rfl (by decide) ?_
                            refine WL.no rfl rfl rfl (by decide) ?_
                            refine WL.no rfl rfl rfl (by decide) ?_
                            refine WL.yes rfl rfl ?_
                            refine WL.x (X.pickT rfl rfl rfl) (by decide) ?_
                            refine WL.x (X.pickT rfl rfl rfl) (by decide) ?_
                            refine WL.x (X.assign rfl) (by decide) ?_
                            refine WL.nil ?_
                            refine WK.nThen ?_
                            refine WC.ret ?_
                            refine WK.ret1 rfl rfl (fun w' hw' => Ret.exact hw' ?_)
                            first | rfl | (exfalso; omega) | (exfalso; contradiction) | (exfalso; have q_ := hc1 (by assumption); omega) | (exfalso; have q_ := hc2 (by assumption); omega) | (exfalso; have q_ := hk3 (by omega); contradiction) | (exfalso; have q_ := hk0 (by omega); omega) | exact (bool_true (hah (by omega) (by omega))).symm | exact (bool_true (by omega)).symm
                          · refine WL.yes rfl rfl ?_
                            refine WL.x (X.pickF rfl rfl rfl) (by decide) ?_
                            refine WL.yes rfl rfl ?_
                            refine WL.x (X.move rfl) (by decide) ?_
                            refine WL.yes rfl rfl ?_
                            refine WL.x (X.move rfl) (by decide) ?_
                            refine WL.yes rfl rfl ?_
                            refine WL.x (X.move rfl) (by decide) ?_
                            refine WL.yes rfl rfl ?_
                            refine WL.x (X.call Try.call51 rfl (ahead51 _ _ _ hs29 _ _ hs36 )) (by decide) ?_
                            refine WL.yes rfl rfl ?_
                            refine WL.x (X.pickF rfl rfl rfl) (by decide) ?_
                            refine WL.x (X.pickT rfl rfl rfl) (by decide) ?_
                            refine WL.x (X.assign rfl) (by decide) ?_
                            refine WL.nil ?_
                            refine WK.nThen ?_
                            refine WC.ret ?_
                            refine WK.ret1 rfl rfl (fun w' hw' => Ret.exact hw' ?_)
                            first | rfl | (exfalso; omega) | (exfalso; contradiction) | (exfalso; have q_ := hc1 (by assumption); omega) | (exfalso; have q_ := hc2 (by assumption); omega) | (exfalso; have q_ := hk3 (by omega); contradiction) | (exfalso; have q_ := hk0 (by omega); omega) | exact (bool_true (hah (by omega) (by omega))).symm | exact (bool_true (by omega)).symm
                    · refine DW.x rfl rfl (X.not rfl) (by decide) ?_
                      refine DW.x rfl rfl (X.move rfl) (by decide) ?_
                      refine DW.no rfl rfl (by decide) ?_
                      refine DW.no rfl rfl (by decide) ?_
                      refine DW.no rfl rfl (by decide) ?_
                      refine DW.no rfl rfl (by decide) ?_
                      refine DW.no rfl rfl (by decide) ?_
                      refine DW.no rfl rfl (by decide) ?_
                      refine DW.no rfl rfl (by decide) ?_
                      refine DW.no rfl rfl (by decide) ?_
                      refine DW.x rfl rfl (X.pickT rfl rfl rfl) (by decide) ?_
                      refine DW.x rfl rfl (X.pickT rfl rfl rfl) (by decide) ?_
                      refine DW.nil ?_
                      refine WK.nThen ?_
                      refine WC.condT rfl ?_
                      refine WC.seq ?_
                      refine WC.region ?_
                      refine WL.x (X.assign rfl) (by decide) ?_
                      refine WL.nil ?_
                      refine WK.nThen ?_
                      refine WC.ret ?_
                      refine WK.rThen ?_
                      refine WK.ret1 rfl rfl (fun w' hw' => Ret.exact hw' ?_)
                      first | rfl | (exfalso; omega) | (exfalso; contradiction) | (exfalso; have q_ := hc1 (by assumption); omega) | (exfalso; have q_ := hc2 (by assumption); omega) | (exfalso; have q_ := hk3 (by omega); contradiction) | (exfalso; have q_ := hk0 (by omega); omega) | exact (bool_true (hah (by omega) (by omega))).symm | exact (bool_true (by omega)).symm
                  · refine DW.x rfl rfl (X.move rfl) (by decide) ?_
                    refine DW.no rfl rfl (by decide) ?_
                    refine DW.no rfl rfl (by decide) ?_
                    refine DW.no rfl rfl (by decide) ?_
                    refine DW.no rfl rfl (by decide) ?_
                    refine DW.no rfl rfl (by decide) ?_
                    refine DW.no rfl rfl (by decide) ?_
                    refine DW.no rfl rfl (by decide) ?_
                    refine DW.no rfl rfl (by decide) ?_
                    refine DW.no rfl rfl (by decide) ?_
                    refine DW.no rfl rfl (by decide) ?_
                    refine DW.no rfl rfl (by decide) ?_
                    refine DW.no rfl rfl (by decide) ?_
                    refine DW.no rfl rfl (by decide) ?_
                    refine DW.no rfl rfl (by decide) ?_
                    refine DW.x rfl rfl (X.pickF rfl rfl rfl) (by decide) ?_
                    refine DW.nil ?_
                    refine WK.nThen ?_
                    refine WC.condF rfl ?_
                    refine WC.skip ?_
                    refine WK.nThen ?_
                    refine WC.seq ?_
                    have hah : (withR c.D c.M x.A x.Tick).2 = 0 → (withR c.D c.M x.A (wr (x.Tick + 1))).2 = 0 → aheadP (withR c.D c.M x.A x.Tick).1 (withR c.D c.M x.A (wr (x.Tick + 1))).1 := (fun h1_ h2_ => ticks_wr h1_ h2_)
                    refine WC.region ?_
                    refine WL.x (X.move rfl) (by decide) ?_
                    refine WL.x (X.move rfl) (by decide) ?_
                    refine WL.yes rfl rfl ?_
                    refine WL.x (X.move rfl) (by decide) ?_
                    refine WL.yes rfl rfl ?_
                    refine WL.condn (X.neq rfl rfl) (by decide) (fun h69 => ?_) (fun h69 => ?_)
                    · refine WL.yes rfl rfl ?_
                      refine WL.x (X.move rfl) (by decide) ?_
                      refine WL.no rfl rfl rfl (by decide) ?_
                      refine WL.no rfl rfl rfl (by decide) ?_
                      refine WL.yes rfl rfl ?_
                      refine WL.x (X.pickT rfl rfl rfl) (by decide) ?_
                      refine WL.yes rfl rfl ?_
                      refine WL.x (X.move rfl) (by decide) ?_
                      refine WL.no rfl rfl rfl (by decide) ?_
                      refine WL.no rfl rfl rfl (by decide) ?_
                      refine WL.no rfl rfl rfl (by decide) ?_
                      refine WL.yes rfl rfl ?_
                      refine WL.x (X.pickT rfl rfl rfl) (by decide) ?_
                      refine WL.x (X.pickT rfl rfl rfl) (by decide) ?_
                      refine WL.x (X.assign rfl) (by decide) ?_
                      refine WL.nil ?_
                      refine WK.nThen ?_
                      refine WC.ret ?_
                      refine WK.ret1 rfl rfl (fun w' hw' => Ret.exact hw' ?_)
                      first | rfl | (exfalso; omega) | (exfalso; contradiction) | (exfalso; have q_ := hc1 (by assumption); omega) | (exfalso; have q_ := hc2 (by assumption); omega) | (exfalso; have q_ := hk3 (by omega); contradiction) | (exfalso; have q_ := hk0 (by omega); omega) | exact (bool_true (hah (by omega) (by omega))).symm | exact (bool_true (by omega)).symm
                    · refine WL.yes rfl rfl ?_
                      refine WL.x (X.move rfl) (by decide) ?_
                      refine WL.yes rfl rfl ?_
                      refine WL.x (X.move rfl) (by decide) ?_
                      refine WL.yes rfl rfl ?_
                      refine WL.condn (X.neq rfl rfl) (by decide) (fun h70 => ?_) (fun h70 => ?_)
                      · refine WL.yes rfl rfl ?_
                        refine WL.x (X.pickF rfl rfl rfl) (by decide) ?_
                        refine WL.yes rfl rfl ?_
                        refine WL.x (X.move rfl) (by decide) ?_
                        refine WL.no rfl rfl rfl (by decide) ?_
                        refine WL.no rfl rfl rfl (by decide) ?_
                        refine WL.no rfl rfl rfl (by decide) ?_
                        refine WL.yes rfl rfl ?_
                        refine WL.x (X.pickT rfl rfl rfl) (by decide) ?_
                        refine WL.x (X.pickT rfl rfl rfl) (by decide) ?_
                        refine WL.x (X.assign rfl) (by decide) ?_
                        refine WL.nil ?_
                        refine WK.nThen ?_
                        refine WC.ret ?_
                        refine WK.ret1 rfl rfl (fun w' hw' => Ret.exact hw' ?_)
                        first | rfl | (exfalso; omega) | (exfalso; contradiction) | (exfalso; have q_ := hc1 (by assumption); omega) | (exfalso; have q_ := hc2 (by assumption); omega) | (exfalso; have q_ := hk3 (by omega); contradiction) | (exfalso; have q_ := hk0 (by omega); omega) | exact (bool_true (hah (by omega) (by omega))).symm | exact (bool_true (by omega)).symm
                      · refine WL.yes rfl rfl ?_
                        refine WL.x (X.pickF rfl rfl rfl) (by decide) ?_
                        refine WL.yes rfl rfl ?_
                        refine WL.x (X.move rfl) (by decide) ?_
                        refine WL.yes rfl rfl ?_
                        refine WL.x (X.move rfl) (by decide) ?_
                        refine WL.yes rfl rfl ?_
                        refine WL.x (X.move rfl) (by decide) ?_
                        refine WL.yes rfl rfl ?_
                        refine WL.x (X.call Try.call51 rfl (ahead51 _ _ _ hs29 _ _ hs36 )) (by decide) ?_
                        refine WL.yes rfl rfl ?_
                        refine WL.x (X.pickF rfl rfl rfl) (by decide) ?_
                        refine WL.x (X.pickT rfl rfl rfl) (by decide) ?_
                        refine WL.x (X.assign rfl) (by decide) ?_
                        refine WL.nil ?_
                        refine WK.nThen ?_
                        refine WC.ret ?_
                        refine WK.ret1 rfl rfl (fun w' hw' => Ret.exact hw' ?_)
                        first | rfl | (exfalso; omega) | (exfalso; contradiction) | (exfalso; have q_ := hc1 (by assumption); omega) | (exfalso; have q_ := hc2 (by assumption); omega) | (exfalso; have q_ := hk3 (by omega); contradiction) | (exfalso; have q_ := hk0 (by omega); omega) | exact (bool_true (hah (by omega) (by omega))).symm | exact (bool_true (by omega)).symm
            · refine DW.x rfl rfl (X.pickT rfl rfl rfl) (by decide) ?_
              refine DW.x rfl rfl (OpX.t (X.neqB Try.underlying4 rfl rfl) (by decide)) (by decide) ?_
              refine DW.x rfl rfl (X.move rfl) (by decide) ?_
              refine DW.no rfl rfl (by decide) ?_
              refine DW.no rfl rfl (by decide) ?_
              refine DW.no rfl rfl (by decide) ?_
              refine DW.no rfl rfl (by decide) ?_
              refine DW.no rfl rfl (by decide) ?_
              refine DW.no rfl rfl (by decide) ?_
              refine DW.no rfl rfl (by decide) ?_
              refine DW.no rfl rfl (by decide) ?_
              refine DW.no rfl rfl (by decide) ?_
              refine DW.no rfl rfl (by decide) ?_
              refine DW.no rfl rfl (by decide) ?_
              refine DW.x rfl rfl (X.pickT rfl rfl rfl) (by decide) ?_
              refine DW.nil ?_
              refine WK.nThen ?_
              refine WC.condT rfl ?_
              refine WC.seq ?_
              refine WC.region ?_
              refine WL.x (X.assign rfl) (by decide) ?_
              refine WL.nil ?_
              refine WK.nThen ?_
              refine WC.ret ?_
              refine WK.rThen ?_
              refine WK.ret1 rfl rfl (fun w' hw' => Ret.exact hw' ?_)
              first | rfl | (exfalso; omega) | (exfalso; contradiction) | (exfalso; have q_ := hc1 (by assumption); omega) | (exfalso; have q_ := hc2 (by assumption); omega) | (exfalso; have q_ := hk3 (by omega); contradiction) | (exfalso; have q_ := hk0 (by omega); omega) | exact (bool_true (hah (by omega) (by omega))).symm | exact (bool_true (by omega)).symm
          · refine DW.x rfl rfl (X.move rfl) (by decide) ?_
            refine DW.no rfl rfl (by decide) ?_
            refine DW.no rfl rfl (by decide) ?_
            refine DW.no rfl rfl (by decide) ?_
            refine DW.no rfl rfl (by decide) ?_
            refine DW.no rfl rfl (by decide) ?_
            refine DW.x rfl rfl (X.pickF rfl rfl rfl) (by decide) ?_
            refine DW.x rfl rfl (OpX.t (X.neqB Try.underlying4 rfl rfl) (by decide)) (by decide) ?_
            refine DW.x rfl rfl (X.move rfl) (by decide) ?_
            refine DW.no rfl rfl (by decide) ?_
            refine DW.no rfl rfl (by decide) ?_
            refine DW.no rfl rfl (by decide) ?_
            refine DW.no rfl rfl (by decide) ?_
            refine DW.no rfl rfl (by decide) ?_
            refine DW.no rfl rfl (by decide) ?_
            refine DW.no rfl rfl (by decide) ?_
            refine DW.no rfl rfl (by decide) ?_
            refine DW.no rfl rfl (by decide) ?_
            refine DW.no rfl rfl (by decide) ?_
            refine DW.no rfl rfl (by decide) ?_
            refine DW.x rfl rfl (X.pickT rfl rfl rfl) (by decide) ?_
            refine DW.nil ?_
            refine WK.nThen ?_
            refine WC.condT rfl ?_
            refine WC.seq ?_
            refine WC.region ?_
            refine WL.x (X.assign rfl) (by decide) ?_
            refine WL.nil ?_
            refine WK.nThen ?_
            refine WC.ret ?_
            refine WK.rThen ?_
            refine WK.ret1 rfl rfl (fun w' hw' => Ret.exact hw' ?_)
            first | rfl | (exfalso; omega) | (exfalso; contradiction) | (exfalso; have q_ := hc1 (by assumption); omega) | (exfalso; have q_ := hc2 (by assumption); omega) | (exfalso; have q_ := hk3 (by omega); contradiction) | (exfalso; have q_ := hk0 (by omega); omega) | exact (bool_true (hah (by omega) (by omega))).symm | exact (bool_true (by omega)).symm
        · refine DW.x rfl rfl (X.field Try.runUnderlying31 rfl Try.sizeOf3 rfl) (by decide) ?_
          refine DW.x rfl rfl (X.loadB (k := 0) Try.isAgg3 rfl rfl rfl) (by decide) ?_
          refine DW.x rfl rfl (X.field Try.runUnderlying36 rfl Try.sizeOf3 rfl) (by decide) ?_
          refine DW.x rfl rfl (X.loadB (k := 1) Try.isAgg3 rfl rfl rfl) (by decide) ?_
          refine DW.cond rfl rfl (X.leq rfl rfl) (by decide) (fun h71 => ?_) (fun h71 => ?_)
          · refine DW.x rfl rfl (X.move rfl) (by decide) ?_
            refine DW.x rfl rfl (X.field Try.runUnderlying36 rfl Try.sizeOf3 rfl) (by decide) ?_
            refine DW.x rfl rfl (X.loadB (k := 1) Try.isAgg3 rfl rfl rfl) (by decide) ?_
            refine DW.x rfl rfl (X.field Try.runUnderlying31 rfl Try.sizeOf3 rfl) (by decide) ?_
            refine DW.x rfl rfl (X.loadB (k := 0) Try.isAgg3 rfl rfl rfl) (by decide) ?_
            refine DW.cond rfl rfl (X.leq rfl rfl) (by decide) (fun h72 => ?_) (fun h72 => ?_)
            · refine DW.x rfl rfl (X.pickT rfl rfl rfl) (by decide) ?_
              refine DW.x rfl rfl (OpX.t (X.neqB Try.underlying4 rfl rfl) (by decide)) (by decide) ?_
              refine DW.x rfl rfl (X.move rfl) (by decide) ?_
              refine DW.no rfl rfl (by decide) ?_
              refine DW.no rfl rfl (by decide) ?_
              refine DW.no rfl rfl (by decide) ?_
              refine DW.no rfl rfl (by decide) ?_
              refine DW.no rfl rfl (by decide) ?_
              refine DW.no rfl rfl (by decide) ?_
              refine DW.no rfl rfl (by decide) ?_
              refine DW.no rfl rfl (by decide) ?_
              refine DW.no rfl rfl (by decide) ?_
              refine DW.no rfl rfl (by decide) ?_
              refine DW.no rfl rfl (by decide) ?_
              refine DW.x rfl rfl (X.pickT rfl rfl rfl) (by decide) ?_
              refine DW.nil ?_
              refine WK.nThen ?_
              refine WC.condT rfl ?_
              refine WC.seq ?_
              refine WC.region ?_
              refine WL.x (X.assign rfl) (by decide) ?_
              refine WL.nil ?_
              refine WK.nThen ?_
              refine WC.ret ?_
              refine WK.rThen ?_
              refine WK.ret1 rfl rfl (fun w' hw' => Ret.exact hw' ?_)
              first | rfl | (exfalso; omega) | (exfalso; contradiction) | (exfalso; have q_ := hc1 (by assumption); omega) | (exfalso; have q_ := hc2 (by assumption); omega) | (exfalso; have q_ := hk3 (by omega); contradiction) | (exfalso; have q_ := hk0 (by omega); omega) | exact (bool_true (hah (by omega) (by omega))).symm | exact (bool_true (by omega)).symm
            · refine DW.x rfl rfl (X.pickT rfl rfl rfl) (by decide) ?_
              refine DW.x rfl rfl (OpX.f (X.neqB Try.underlying4 rfl rfl) (fun h => h rfl)) (by decide) ?_
              refine DW.x rfl rfl (X.move rfl) (by decide) ?_
              refine DW.x rfl rfl (X.move rfl) (by decide) ?_
              refine DW.cond rfl rfl (X.eql rfl rfl) (by decide) (fun h73 => ?_) (fun h73 => ?_)
              · refine DW.x rfl rfl (X.loadBA (k := 2) Try.isAgg28 Try.sizeOf28 rfl rfl rfl) (by decide) ?_
                refine DW.x rfl rfl (X.field Try.runUnderlying36 rfl Try.sizeOf3 rfl) (by decide) ?_
                refine DW.x rfl rfl (X.loadB (k := 1) Try.isAgg3 rfl rfl rfl) (by decide) ?_
                refine DW.x rfl rfl (X.field Try.runUnderlying36 rfl Try.sizeOf3 rfl) (by decide) ?_
                refine DW.x rfl rfl (X.loadB (k := 1) Try.isAgg3 rfl rfl rfl) (by decide) ?_
                refine DW.x rfl rfl (X.call Try.call39 rfl (one39 _ _ _ )) (by decide) ?_
                refine DW.tm rfl rfl rfl (T.litM (α := Mark) (vals := [.agg [.int .i64 (x.A), .int .i64 (x.Tick), .int .i64 (x.Tick)].toArray]) (L := [(Mark.mk (x.A) ((Span.mk (x.Tick) (x.Tick))))]) sl26 rfl (.cons rfl rfl .nil) rfl rfl) (by decide) (fun m74 v75 hle76 hs77 => ?_)
                replace hs2 := hs2.mono hle76
                replace hs4 := hs4.mono hle76
                replace hs6 := hs6.mono hle76
                replace hs11 := hs11.mono hle76
                replace hs13 := hs13.mono hle76
                replace hs15 := hs15.mono hle76
                replace hs29 := hs29.mono hle76
                replace hs36 := hs36.mono hle76
                refine DW.condb rfl rfl (X.call Try.call30 rfl (can30 _ _ c ⟨_, _, _, rfl, hs2, hs4, hs6⟩ _ _ hs77 (by first | omega | simp) (by first | omega | simp))) (by decide) (fun h78 => ?_) (fun h78 => ?_)
                · refine DW.x rfl rfl (OpX.f (X.neqB Try.underlying4 rfl rfl) (fun h => h rfl)) (by decide) ?_
                  refine DW.x rfl rfl (X.pickF rfl rfl rfl) (by decide) ?_
                  refine DW.nil ?_
                  refine WK.nThen ?_
                  refine WC.condF rfl ?_
                  refine WC.skip ?_
                  refine WK.nThen ?_
                  refine WC.seq ?_
                  refine WC.seq ?_
                  refine WC.draw (π := (.cons 0 (.cons 1 (.cons 2 (.cons 3 (.cons 4 (.cons 5 (.cons 6 (.cons 7 (.cons 8 (.cons 9 (.cons 10 (.cons 11 (.cons 12 (.cons 13 (.cons 14 (.cons 15 (.cons 16 (.cons 17 .done))))))))))))))))))) [] [] rfl (by kernel_rfl) ?_
                  refine DW.x rfl rfl (X.move rfl) (by decide) ?_
                  refine DW.cond rfl rfl (X.eql rfl rfl) (by decide) (fun h79 => ?_) (fun h79 => ?_)
                  · refine DW.x rfl rfl (X.move rfl) (by decide) ?_
                    refine DW.x rfl rfl (X.loadBA (k := 2) Try.isAgg28 Try.sizeOf28 rfl rfl rfl) (by decide) ?_
                    refine DW.x rfl rfl (X.move rfl) (by decide) ?_
                    refine DW.cond rfl rfl (X.call Try.call48 rfl (is48 _ _ c ⟨_, _, _, rfl, hs2, hs4, hs6⟩ _ _ hs29 )) (by decide) (fun h80 => ?_) (fun h80 => ?_)
                    · refine DW.x rfl rfl (X.not rfl) (by decide) ?_
                      refine DW.x rfl rfl (X.move rfl) (by decide) ?_
                      refine DW.x rfl rfl (X.move rfl) (by decide) ?_
                      refine DW.x rfl rfl (X.field Try.runUnderlying36 rfl Try.sizeOf3 rfl) (by decide) ?_
                      refine DW.x rfl rfl (X.loadB (k := 1) Try.isAgg3 rfl rfl rfl) (by decide) ?_
                      refine DW.xe rfl rfl (E.idx Try.runUnderlying29 Try.sizeOf3 rfl rfl hs29 (by omega) (by omega)) (by decide) (fun p81 hp82 => ?_)
                      refine DW.x rfl rfl (X.loadInt Try.isAgg3 rfl hp82) (by decide) ?_
                      refine DW.x rfl rfl (X.field Try.runUnderlying36 rfl Try.sizeOf3 rfl) (by decide) ?_
                      refine DW.x rfl rfl (X.loadB (k := 1) Try.isAgg3 rfl rfl rfl) (by decide) ?_
                      refine DW.condn rfl rfl (X.neq rfl rfl) (by decide) (fun h83 => ?_) (fun h83 => ?_)
                      · refine DW.x rfl rfl (X.pickF rfl rfl rfl) (by decide) ?_
                        refine DW.x rfl rfl (X.pickT rfl rfl rfl) (by decide) ?_
                        refine DW.nil ?_
                        refine WK.nThen ?_
                        refine WC.condT rfl ?_
                        refine WC.seq ?_
                        refine WC.region ?_
                        refine WL.x (X.assign rfl) (by decide) ?_
                        refine WL.nil ?_
                        refine WK.nThen ?_
                        refine WC.ret ?_
                        refine WK.rThen ?_
                        refine WK.ret1 rfl rfl (fun w' hw' => Ret.exact hw' ?_)
                        first | rfl | (exfalso; omega) | (exfalso; contradiction) | (exfalso; have q_ := hc1 (by assumption); omega) | (exfalso; have q_ := hc2 (by assumption); omega) | (exfalso; have q_ := hk3 (by omega); contradiction) | (exfalso; have q_ := hk0 (by omega); omega) | exact (bool_true (hah (by omega) (by omega))).symm | exact (bool_true (by omega)).symm
                      · refine DW.x rfl rfl (X.pickF rfl rfl rfl) (by decide) ?_
                        refine DW.x rfl rfl (X.pickT rfl rfl rfl) (by decide) ?_
                        refine DW.nil ?_
                        refine WK.nThen ?_
                        refine WC.condF rfl ?_
                        refine WC.skip ?_
                        refine WK.nThen ?_
                        refine WC.seq ?_
                        have hah : (withR c.D c.M x.A x.Tick).2 = 0 → (withR c.D c.M x.A (wr (x.Tick + 1))).2 = 0 → aheadP (withR c.D c.M x.A x.Tick).1 (withR c.D c.M x.A (wr (x.Tick + 1))).1 := (fun h1_ h2_ => ticks_wr h1_ h2_)
                        refine WC.region ?_
                        refine WL.x (X.move rfl) (by decide) ?_
                        refine WL.x (X.move rfl) (by decide) ?_
                        refine WL.yes rfl rfl ?_
                        refine WL.x (X.move rfl) (by decide) ?_
                        refine WL.yes rfl rfl ?_
                        refine WL.condn (X.neq rfl rfl) (by decide) (fun h84 => ?_) (fun h84 => ?_)
                        · refine WL.yes rfl rfl ?_
                          refine WL.x (X.move rfl) (by decide) ?_
                          refine WL.no rfl rfl rfl (by decide) ?_
                          refine WL.no rfl rfl rfl (by decide) ?_
                          refine WL.yes rfl rfl ?_
                          refine WL.x (X.pickT rfl rfl rfl) (by decide) ?_
                          refine WL.yes rfl rfl ?_
                          refine WL.x (X.move rfl) (by decide) ?_
                          refine WL.no rfl rfl rfl (by decide) ?_
                          refine WL.no rfl rfl rfl (by decide) ?_
                          refine WL.no rfl rfl rfl (by decide) ?_
                          refine WL.yes rfl rfl ?_
                          refine WL.x (X.pickT rfl rfl rfl) (by decide) ?_
                          refine WL.x (X.pickT rfl rfl rfl) (by decide) ?_
                          refine WL.x (X.assign rfl) (by decide) ?_
                          refine WL.nil ?_
                          refine WK.nThen ?_
                          refine WC.ret ?_
                          refine WK.ret1 rfl rfl (fun w' hw' => Ret.exact hw' ?_)
                          first | rfl | (exfalso; omega) | (exfalso; contradiction) | (exfalso; have q_ := hc1 (by assumption); omega) | (exfalso; have q_ := hc2 (by assumption); omega) | (exfalso; have q_ := hk3 (by omega); contradiction) | (exfalso; have q_ := hk0 (by omega); omega) | exact (bool_true (hah (by omega) (by omega))).symm | exact (bool_true (by omega)).symm
                        · refine WL.yes rfl rfl ?_
                          refine WL.x (X.move rfl) (by decide) ?_
                          refine WL.yes rfl rfl ?_
                          refine WL.x (X.move rfl) (by decide) ?_
                          refine WL.yes rfl rfl ?_
                          refine WL.condn (X.neq rfl rfl) (by decide) (fun h85 => ?_) (fun h85 => ?_)
                          · refine WL.yes rfl rfl ?_
                            refine WL.x (X.pickF rfl rfl rfl) (by decide) ?_
                            refine WL.yes rfl rfl ?_
                            refine WL.x (X.move rfl) (by decide) ?_
                            refine WL.no rfl rfl rfl (by decide) ?_
                            refine WL.no rfl rfl rfl (by decide) ?_
                            refine WL.no rfl rfl rfl (by decide) ?_
                            refine WL.yes rfl rfl ?_
                            refine WL.x (X.pickT rfl rfl rfl) (by decide) ?_
                            refine WL.x (X.pickT rfl rfl rfl) (by decide) ?_
                            refine WL.x (X.assign rfl) (by decide) ?_
                            refine WL.nil ?_
                            refine WK.nThen ?_
                            refine WC.ret ?_
                            refine WK.ret1 rfl rfl (fun w' hw' => Ret.exact hw' ?_)
                            first | rfl | (exfalso; omega) | (exfalso; contradiction) | (exfalso; have q_ := hc1 (by assumption); omega) | (exfalso; have q_ := hc2 (by assumption); omega) | (exfalso; have q_ := hk3 (by omega); contradiction) | (exfalso; have q_ := hk0 (by omega); omega) | exact (bool_true (hah (by omega) (by omega))).symm | exact (bool_true (by omega)).symm
                          · refine WL.yes rfl rfl ?_
                            refine WL.x (X.pickF rfl rfl rfl) (by decide) ?_
                            refine WL.yes rfl rfl ?_
                            refine WL.x (X.move rfl) (by decide) ?_
                            refine WL.yes rfl rfl ?_
                            refine WL.x (X.move rfl) (by decide) ?_
                            refine WL.yes rfl rfl ?_
                            refine WL.x (X.move rfl) (by decide) ?_
                            refine WL.yes rfl rfl ?_
                            refine WL.x (X.call Try.call51 rfl (ahead51 _ _ _ hs29 _ _ hs36 )) (by decide) ?_
                            refine WL.yes rfl rfl ?_
                            refine WL.x (X.pickF rfl rfl rfl) (by decide) ?_
                            refine WL.x (X.pickT rfl rfl rfl) (by decide) ?_
                            refine WL.x (X.assign rfl) (by decide) ?_
                            refine WL.nil ?_
                            refine WK.nThen ?_
                            refine WC.ret ?_
                            refine WK.ret1 rfl rfl (fun w' hw' => Ret.exact hw' ?_)
                            first | rfl | (exfalso; omega) | (exfalso; contradiction) | (exfalso; have q_ := hc1 (by assumption); omega) | (exfalso; have q_ := hc2 (by assumption); omega) | (exfalso; have q_ := hk3 (by omega); contradiction) | (exfalso; have q_ := hk0 (by omega); omega) | exact (bool_true (hah (by omega) (by omega))).symm | exact (bool_true (by omega)).symm
                    · refine DW.x rfl rfl (X.not rfl) (by decide) ?_
                      refine DW.x rfl rfl (X.move rfl) (by decide) ?_
                      refine DW.no rfl rfl (by decide) ?_
                      refine DW.no rfl rfl (by decide) ?_
                      refine DW.no rfl rfl (by decide) ?_
                      refine DW.no rfl rfl (by decide) ?_
                      refine DW.no rfl rfl (by decide) ?_
                      refine DW.no rfl rfl (by decide) ?_
                      refine DW.no rfl rfl (by decide) ?_
                      refine DW.no rfl rfl (by decide) ?_
                      refine DW.x rfl rfl (X.pickT rfl rfl rfl) (by decide) ?_
                      refine DW.x rfl rfl (X.pickT rfl rfl rfl) (by decide) ?_
                      refine DW.nil ?_
                      refine WK.nThen ?_
                      refine WC.condT rfl ?_
                      refine WC.seq ?_
                      refine WC.region ?_
                      refine WL.x (X.assign rfl) (by decide) ?_
                      refine WL.nil ?_
                      refine WK.nThen ?_
                      refine WC.ret ?_
                      refine WK.rThen ?_
                      refine WK.ret1 rfl rfl (fun w' hw' => Ret.exact hw' ?_)
                      first | rfl | (exfalso; omega) | (exfalso; contradiction) | (exfalso; have q_ := hc1 (by assumption); omega) | (exfalso; have q_ := hc2 (by assumption); omega) | (exfalso; have q_ := hk3 (by omega); contradiction) | (exfalso; have q_ := hk0 (by omega); omega) | exact (bool_true (hah (by omega) (by omega))).symm | exact (bool_true (by omega)).symm
                  · refine DW.x rfl rfl (X.move rfl) (by decide) ?_
                    refine DW.no rfl rfl (by decide) ?_
                    refine DW.no rfl rfl (by decide) ?_
                    refine DW.no rfl rfl (by decide) ?_
                    refine DW.no rfl rfl (by decide) ?_
                    refine DW.no rfl rfl (by decide) ?_
                    refine DW.no rfl rfl (by decide) ?_
                    refine DW.no rfl rfl (by decide) ?_
                    refine DW.no rfl rfl (by decide) ?_
                    refine DW.no rfl rfl (by decide) ?_
                    refine DW.no rfl rfl (by decide) ?_
                    refine DW.no rfl rfl (by decide) ?_
                    refine DW.no rfl rfl (by decide) ?_
                    refine DW.no rfl rfl (by decide) ?_
                    refine DW.no rfl rfl (by decide) ?_
                    refine DW.x rfl rfl (X.pickF rfl rfl rfl) (by decide) ?_
                    refine DW.nil ?_
                    refine WK.nThen ?_
                    refine WC.condF rfl ?_
                    refine WC.skip ?_
                    refine WK.nThen ?_
                    refine WC.seq ?_
                    have hah : (withR c.D c.M x.A x.Tick).2 = 0 → (withR c.D c.M x.A (wr (x.Tick + 1))).2 = 0 → aheadP (withR c.D c.M x.A x.Tick).1 (withR c.D c.M x.A (wr (x.Tick + 1))).1 := (fun h1_ h2_ => ticks_wr h1_ h2_)
                    refine WC.region ?_
                    refine WL.x (X.move rfl) (by decide) ?_
                    refine WL.x (X.move rfl) (by decide) ?_
                    refine WL.yes rfl rfl ?_
                    refine WL.x (X.move rfl) (by decide) ?_
                    refine WL.yes rfl rfl ?_
                    refine WL.condn (X.neq rfl rfl) (by decide) (fun h86 => ?_) (fun h86 => ?_)
                    · refine WL.yes rfl rfl ?_
                      refine WL.x (X.move rfl) (by decide) ?_
                      refine WL.no rfl rfl rfl (by decide) ?_
                      refine WL.no rfl rfl rfl (by decide) ?_
                      refine WL.yes rfl rfl ?_
                      refine WL.x (X.pickT rfl rfl rfl) (by decide) ?_
                      refine WL.yes rfl rfl ?_
                      refine WL.x (X.move rfl) (by decide) ?_
                      refine WL.no rfl rfl rfl (by decide) ?_
                      refine WL.no rfl rfl rfl (by decide) ?_
                      refine WL.no rfl rfl rfl (by decide) ?_
                      refine WL.yes rfl rfl ?_
                      refine WL.x (X.pickT rfl rfl rfl) (by decide) ?_
                      refine WL.x (X.pickT rfl rfl rfl) (by decide) ?_
                      refine WL.x (X.assign rfl) (by decide) ?_
                      refine WL.nil ?_
                      refine WK.nThen ?_
                      refine WC.ret ?_
                      refine WK.ret1 rfl rfl (fun w' hw' => Ret.exact hw' ?_)
                      first | rfl | (exfalso; omega) | (exfalso; contradiction) | (exfalso; have q_ := hc1 (by assumption); omega) | (exfalso; have q_ := hc2 (by assumption); omega) | (exfalso; have q_ := hk3 (by omega); contradiction) | (exfalso; have q_ := hk0 (by omega); omega) | exact (bool_true (hah (by omega) (by omega))).symm | exact (bool_true (by omega)).symm
                    · refine WL.yes rfl rfl ?_
                      refine WL.x (X.move rfl) (by decide) ?_
                      refine WL.yes rfl rfl ?_
                      refine WL.x (X.move rfl) (by decide) ?_
                      refine WL.yes rfl rfl ?_
                      refine WL.condn (X.neq rfl rfl) (by decide) (fun h87 => ?_) (fun h87 => ?_)
                      · refine WL.yes rfl rfl ?_
                        refine WL.x (X.pickF rfl rfl rfl) (by decide) ?_
                        refine WL.yes rfl rfl ?_
                        refine WL.x (X.move rfl) (by decide) ?_
                        refine WL.no rfl rfl rfl (by decide) ?_
                        refine WL.no rfl rfl rfl (by decide) ?_
                        refine WL.no rfl rfl rfl (by decide) ?_
                        refine WL.yes rfl rfl ?_
                        refine WL.x (X.pickT rfl rfl rfl) (by decide) ?_
                        refine WL.x (X.pickT rfl rfl rfl) (by decide) ?_
                        refine WL.x (X.assign rfl) (by decide) ?_
                        refine WL.nil ?_
                        refine WK.nThen ?_
                        refine WC.ret ?_
                        refine WK.ret1 rfl rfl (fun w' hw' => Ret.exact hw' ?_)
                        first | rfl | (exfalso; omega) | (exfalso; contradiction) | (exfalso; have q_ := hc1 (by assumption); omega) | (exfalso; have q_ := hc2 (by assumption); omega) | (exfalso; have q_ := hk3 (by omega); contradiction) | (exfalso; have q_ := hk0 (by omega); omega) | exact (bool_true (hah (by omega) (by omega))).symm | exact (bool_true (by omega)).symm
                      · refine WL.yes rfl rfl ?_
                        refine WL.x (X.pickF rfl rfl rfl) (by decide) ?_
                        refine WL.yes rfl rfl ?_
                        refine WL.x (X.move rfl) (by decide) ?_
                        refine WL.yes rfl rfl ?_
                        refine WL.x (X.move rfl) (by decide) ?_
                        refine WL.yes rfl rfl ?_
                        refine WL.x (X.move rfl) (by decide) ?_
                        refine WL.yes rfl rfl ?_
                        refine WL.x (X.call Try.call51 rfl (ahead51 _ _ _ hs29 _ _ hs36 )) (by decide) ?_
                        refine WL.yes rfl rfl ?_
                        refine WL.x (X.pickF rfl rfl rfl) (by decide) ?_
                        refine WL.x (X.pickT rfl rfl rfl) (by decide) ?_
                        refine WL.x (X.assign rfl) (by decide) ?_
                        refine WL.nil ?_
                        refine WK.nThen ?_
                        refine WC.ret ?_
                        refine WK.ret1 rfl rfl (fun w' hw' => Ret.exact hw' ?_)
                        first | rfl | (exfalso; omega) | (exfalso; contradiction) | (exfalso; have q_ := hc1 (by assumption); omega) | (exfalso; have q_ := hc2 (by assumption); omega) | (exfalso; have q_ := hk3 (by omega); contradiction) | (exfalso; have q_ := hk0 (by omega); omega) | exact (bool_true (hah (by omega) (by omega))).symm | exact (bool_true (by omega)).symm
                · refine DW.x rfl rfl (OpX.t (X.neqB Try.underlying4 rfl rfl) (by decide)) (by decide) ?_
                  refine DW.x rfl rfl (X.pickF rfl rfl rfl) (by decide) ?_
                  refine DW.nil ?_
                  refine WK.nThen ?_
                  refine WC.condT rfl ?_
                  refine WC.seq ?_
                  refine WC.region ?_
                  refine WL.x (X.assign rfl) (by decide) ?_
                  refine WL.nil ?_
                  refine WK.nThen ?_
                  refine WC.ret ?_
                  refine WK.rThen ?_
                  refine WK.ret1 rfl rfl (fun w' hw' => Ret.exact hw' ?_)
                  first | rfl | (exfalso; omega) | (exfalso; contradiction) | (exfalso; have q_ := hc1 (by assumption); omega) | (exfalso; have q_ := hc2 (by assumption); omega) | (exfalso; have q_ := hk3 (by omega); contradiction) | (exfalso; have q_ := hk0 (by omega); omega) | exact (bool_true (hah (by omega) (by omega))).symm | exact (bool_true (by omega)).symm
              · refine DW.x rfl rfl (X.loadBA (k := 2) Try.isAgg28 Try.sizeOf28 rfl rfl rfl) (by decide) ?_
                refine DW.x rfl rfl (X.field Try.runUnderlying36 rfl Try.sizeOf3 rfl) (by decide) ?_
                refine DW.x rfl rfl (X.loadB (k := 1) Try.isAgg3 rfl rfl rfl) (by decide) ?_
                refine DW.x rfl rfl (X.field Try.runUnderlying36 rfl Try.sizeOf3 rfl) (by decide) ?_
                refine DW.x rfl rfl (X.loadB (k := 1) Try.isAgg3 rfl rfl rfl) (by decide) ?_
                refine DW.x rfl rfl (X.call Try.call39 rfl (one39 _ _ _ )) (by decide) ?_
                refine DW.tm rfl rfl rfl (T.litM (α := Mark) (vals := [.agg [.int .i64 (x.A), .int .i64 (x.Tick), .int .i64 (x.Tick)].toArray]) (L := [(Mark.mk (x.A) ((Span.mk (x.Tick) (x.Tick))))]) sl26 rfl (.cons rfl rfl .nil) rfl rfl) (by decide) (fun m88 v89 hle90 hs91 => ?_)
                replace hs2 := hs2.mono hle90
                replace hs4 := hs4.mono hle90
                replace hs6 := hs6.mono hle90
                replace hs11 := hs11.mono hle90
                replace hs13 := hs13.mono hle90
                replace hs15 := hs15.mono hle90
                replace hs29 := hs29.mono hle90
                replace hs36 := hs36.mono hle90
                refine DW.condb rfl rfl (X.call Try.call30 rfl (can30 _ _ c ⟨_, _, _, rfl, hs2, hs4, hs6⟩ _ _ hs91 (by first | omega | simp) (by first | omega | simp))) (by decide) (fun h92 => ?_) (fun h92 => ?_)
                · refine DW.x rfl rfl (OpX.t (X.neqB Try.underlying4 rfl rfl) (by decide)) (by decide) ?_
                  refine DW.x rfl rfl (X.pickF rfl rfl rfl) (by decide) ?_
                  refine DW.nil ?_
                  refine WK.nThen ?_
                  refine WC.condT rfl ?_
                  refine WC.seq ?_
                  refine WC.region ?_
                  refine WL.x (X.assign rfl) (by decide) ?_
                  refine WL.nil ?_
                  refine WK.nThen ?_
                  refine WC.ret ?_
                  refine WK.rThen ?_
                  refine WK.ret1 rfl rfl (fun w' hw' => Ret.exact hw' ?_)
                  first | rfl | (exfalso; omega) | (exfalso; contradiction) | (exfalso; have q_ := hc1 (by assumption); omega) | (exfalso; have q_ := hc2 (by assumption); omega) | (exfalso; have q_ := hk3 (by omega); contradiction) | (exfalso; have q_ := hk0 (by omega); omega) | exact (bool_true (hah (by omega) (by omega))).symm | exact (bool_true (by omega)).symm
                · refine DW.x rfl rfl (OpX.f (X.neqB Try.underlying4 rfl rfl) (fun h => h rfl)) (by decide) ?_
                  refine DW.x rfl rfl (X.pickF rfl rfl rfl) (by decide) ?_
                  refine DW.nil ?_
                  refine WK.nThen ?_
                  refine WC.condF rfl ?_
                  refine WC.skip ?_
                  refine WK.nThen ?_
                  refine WC.seq ?_
                  refine WC.seq ?_
                  refine WC.draw (π := (.cons 0 (.cons 1 (.cons 2 (.cons 3 (.cons 4 (.cons 5 (.cons 6 (.cons 7 (.cons 8 (.cons 9 (.cons 10 (.cons 11 (.cons 12 (.cons 13 (.cons 14 (.cons 15 (.cons 16 (.cons 17 .done))))))))))))))))))) [] [] rfl (by kernel_rfl) ?_
                  refine DW.x rfl rfl (X.move rfl) (by decide) ?_
                  refine DW.cond rfl rfl (X.eql rfl rfl) (by decide) (fun h93 => ?_) (fun h93 => ?_)
                  · refine DW.x rfl rfl (X.move rfl) (by decide) ?_
                    refine DW.x rfl rfl (X.loadBA (k := 2) Try.isAgg28 Try.sizeOf28 rfl rfl rfl) (by decide) ?_
                    refine DW.x rfl rfl (X.move rfl) (by decide) ?_
                    refine DW.cond rfl rfl (X.call Try.call48 rfl (is48 _ _ c ⟨_, _, _, rfl, hs2, hs4, hs6⟩ _ _ hs29 )) (by decide) (fun h94 => ?_) (fun h94 => ?_)
                    · refine DW.x rfl rfl (X.not rfl) (by decide) ?_
                      refine DW.x rfl rfl (X.move rfl) (by decide) ?_
                      refine DW.x rfl rfl (X.move rfl) (by decide) ?_
                      refine DW.x rfl rfl (X.field Try.runUnderlying36 rfl Try.sizeOf3 rfl) (by decide) ?_
                      refine DW.x rfl rfl (X.loadB (k := 1) Try.isAgg3 rfl rfl rfl) (by decide) ?_
                      refine DW.xe rfl rfl (E.idx Try.runUnderlying29 Try.sizeOf3 rfl rfl hs29 (by omega) (by omega)) (by decide) (fun p95 hp96 => ?_)
                      refine DW.x rfl rfl (X.loadInt Try.isAgg3 rfl hp96) (by decide) ?_
                      refine DW.x rfl rfl (X.field Try.runUnderlying36 rfl Try.sizeOf3 rfl) (by decide) ?_
                      refine DW.x rfl rfl (X.loadB (k := 1) Try.isAgg3 rfl rfl rfl) (by decide) ?_
                      refine DW.condn rfl rfl (X.neq rfl rfl) (by decide) (fun h97 => ?_) (fun h97 => ?_)
                      · refine DW.x rfl rfl (X.pickF rfl rfl rfl) (by decide) ?_
                        refine DW.x rfl rfl (X.pickT rfl rfl rfl) (by decide) ?_
                        refine DW.nil ?_
                        refine WK.nThen ?_
                        refine WC.condT rfl ?_
                        refine WC.seq ?_
                        refine WC.region ?_
                        refine WL.x (X.assign rfl) (by decide) ?_
                        refine WL.nil ?_
                        refine WK.nThen ?_
                        refine WC.ret ?_
                        refine WK.rThen ?_
                        refine WK.ret1 rfl rfl (fun w' hw' => Ret.exact hw' ?_)
                        first | rfl | (exfalso; omega) | (exfalso; contradiction) | (exfalso; have q_ := hc1 (by assumption); omega) | (exfalso; have q_ := hc2 (by assumption); omega) | (exfalso; have q_ := hk3 (by omega); contradiction) | (exfalso; have q_ := hk0 (by omega); omega) | exact (bool_true (hah (by omega) (by omega))).symm | exact (bool_true (by omega)).symm
                      · refine DW.x rfl rfl (X.pickF rfl rfl rfl) (by decide) ?_
                        refine DW.x rfl rfl (X.pickT rfl rfl rfl) (by decide) ?_
                        refine DW.nil ?_
                        refine WK.nThen ?_
                        refine WC.condF rfl ?_
                        refine WC.skip ?_
                        refine WK.nThen ?_
                        refine WC.seq ?_
                        have hah : (withR c.D c.M x.A x.Tick).2 = 0 → (withR c.D c.M x.A (wr (x.Tick + 1))).2 = 0 → aheadP (withR c.D c.M x.A x.Tick).1 (withR c.D c.M x.A (wr (x.Tick + 1))).1 := (fun h1_ h2_ => ticks_wr h1_ h2_)
                        refine WC.region ?_
                        refine WL.x (X.move rfl) (by decide) ?_
                        refine WL.x (X.move rfl) (by decide) ?_
                        refine WL.yes rfl rfl ?_
                        refine WL.x (X.move rfl) (by decide) ?_
                        refine WL.yes rfl rfl ?_
                        refine WL.condn (X.neq rfl rfl) (by decide) (fun h98 => ?_) (fun h98 => ?_)
                        · refine WL.yes rfl rfl ?_
                          refine WL.x (X.move rfl) (by decide) ?_
                          refine WL.no rfl rfl rfl (by decide) ?_
                          refine WL.no rfl rfl rfl (by decide) ?_
                          refine WL.yes rfl rfl ?_
                          refine WL.x (X.pickT rfl rfl rfl) (by decide) ?_
                          refine WL.yes rfl rfl ?_
                          refine WL.x (X.move rfl) (by decide) ?_
                          refine WL.no rfl rfl rfl (by decide) ?_
                          refine WL.no rfl rfl rfl (by decide) ?_
                          refine WL.no rfl rfl rfl (by decide) ?_
                          refine WL.yes rfl rfl ?_
                          refine WL.x (X.pickT rfl rfl rfl) (by decide) ?_
                          refine WL.x (X.pickT rfl rfl rfl) (by decide) ?_
                          refine WL.x (X.assign rfl) (by decide) ?_
                          refine WL.nil ?_
                          refine WK.nThen ?_
                          refine WC.ret ?_
                          refine WK.ret1 rfl rfl (fun w' hw' => Ret.exact hw' ?_)
                          first | rfl | (exfalso; omega) | (exfalso; contradiction) | (exfalso; have q_ := hc1 (by assumption); omega) | (exfalso; have q_ := hc2 (by assumption); omega) | (exfalso; have q_ := hk3 (by omega); contradiction) | (exfalso; have q_ := hk0 (by omega); omega) | exact (bool_true (hah (by omega) (by omega))).symm | exact (bool_true (by omega)).symm
                        · refine WL.yes rfl rfl ?_
                          refine WL.x (X.move rfl) (by decide) ?_
                          refine WL.yes rfl rfl ?_
                          refine WL.x (X.move rfl) (by decide) ?_
                          refine WL.yes rfl rfl ?_
                          refine WL.condn (X.neq rfl rfl) (by decide) (fun h99 => ?_) (fun h99 => ?_)
                          · refine WL.yes rfl rfl ?_
                            refine WL.x (X.pickF rfl rfl rfl) (by decide) ?_
                            refine WL.yes rfl rfl ?_
                            refine WL.x (X.move rfl) (by decide) ?_
                            refine WL.no rfl rfl rfl (by decide) ?_
                            refine WL.no rfl rfl rfl (by decide) ?_
                            refine WL.no rfl rfl rfl (by decide) ?_
                            refine WL.yes rfl rfl ?_
                            refine WL.x (X.pickT rfl rfl rfl) (by decide) ?_
                            refine WL.x (X.pickT rfl rfl rfl) (by decide) ?_
                            refine WL.x (X.assign rfl) (by decide) ?_
                            refine WL.nil ?_
                            refine WK.nThen ?_
                            refine WC.ret ?_
                            refine WK.ret1 rfl rfl (fun w' hw' => Ret.exact hw' ?_)
                            first | rfl | (exfalso; omega) | (exfalso; contradiction) | (exfalso; have q_ := hc1 (by assumption); omega) | (exfalso; have q_ := hc2 (by assumption); omega) | (exfalso; have q_ := hk3 (by omega); contradiction) | (exfalso; have q_ := hk0 (by omega); omega) | exact (bool_true (hah (by omega) (by omega))).symm | exact (bool_true (by omega)).symm
                          · refine WL.yes rfl rfl ?_
                            refine WL.x (X.pickF rfl rfl rfl) (by decide) ?_
                            refine WL.yes rfl rfl ?_
                            refine WL.x (X.move rfl) (by decide) ?_
                            refine WL.yes rfl rfl ?_
                            refine WL.x (X.move rfl) (by decide) ?_
                            refine WL.yes rfl rfl ?_
                            refine WL.x (X.move rfl) (by decide) ?_
                            refine WL.yes rfl rfl ?_
                            refine WL.x (X.call Try.call51 rfl (ahead51 _ _ _ hs29 _ _ hs36 )) (by decide) ?_
                            refine WL.yes rfl rfl ?_
                            refine WL.x (X.pickF rfl rfl rfl) (by decide) ?_
                            refine WL.x (X.pickT rfl rfl rfl) (by decide) ?_
                            refine WL.x (X.assign rfl) (by decide) ?_
                            refine WL.nil ?_
                            refine WK.nThen ?_
                            refine WC.ret ?_
                            refine WK.ret1 rfl rfl (fun w' hw' => Ret.exact hw' ?_)
                            first | rfl | (exfalso; omega) | (exfalso; contradiction) | (exfalso; have q_ := hc1 (by assumption); omega) | (exfalso; have q_ := hc2 (by assumption); omega) | (exfalso; have q_ := hk3 (by omega); contradiction) | (exfalso; have q_ := hk0 (by omega); omega) | exact (bool_true (hah (by omega) (by omega))).symm | exact (bool_true (by omega)).symm
                    · refine DW.x rfl rfl (X.not rfl) (by decide) ?_
                      refine DW.x rfl rfl (X.move rfl) (by decide) ?_
                      refine DW.no rfl rfl (by decide) ?_
                      refine DW.no rfl rfl (by decide) ?_
                      refine DW.no rfl rfl (by decide) ?_
                      refine DW.no rfl rfl (by decide) ?_
                      refine DW.no rfl rfl (by decide) ?_
                      refine DW.no rfl rfl (by decide) ?_
                      refine DW.no rfl rfl (by decide) ?_
                      refine DW.no rfl rfl (by decide) ?_
                      refine DW.x rfl rfl (X.pickT rfl rfl rfl) (by decide) ?_
                      refine DW.x rfl rfl (X.pickT rfl rfl rfl) (by decide) ?_
                      refine DW.nil ?_
                      refine WK.nThen ?_
                      refine WC.condT rfl ?_
                      refine WC.seq ?_
                      refine WC.region ?_
                      refine WL.x (X.assign rfl) (by decide) ?_
                      refine WL.nil ?_
                      refine WK.nThen ?_
                      refine WC.ret ?_
                      refine WK.rThen ?_
                      refine WK.ret1 rfl rfl (fun w' hw' => Ret.exact hw' ?_)
                      first | rfl | (exfalso; omega) | (exfalso; contradiction) | (exfalso; have q_ := hc1 (by assumption); omega) | (exfalso; have q_ := hc2 (by assumption); omega) | (exfalso; have q_ := hk3 (by omega); contradiction) | (exfalso; have q_ := hk0 (by omega); omega) | exact (bool_true (hah (by omega) (by omega))).symm | exact (bool_true (by omega)).symm
                  · refine DW.x rfl rfl (X.move rfl) (by decide) ?_
                    refine DW.no rfl rfl (by decide) ?_
                    refine DW.no rfl rfl (by decide) ?_
                    refine DW.no rfl rfl (by decide) ?_
                    refine DW.no rfl rfl (by decide) ?_
                    refine DW.no rfl rfl (by decide) ?_
                    refine DW.no rfl rfl (by decide) ?_
                    refine DW.no rfl rfl (by decide) ?_
                    refine DW.no rfl rfl (by decide) ?_
                    refine DW.no rfl rfl (by decide) ?_
                    refine DW.no rfl rfl (by decide) ?_
                    refine DW.no rfl rfl (by decide) ?_
                    refine DW.no rfl rfl (by decide) ?_
                    refine DW.no rfl rfl (by decide) ?_
                    refine DW.no rfl rfl (by decide) ?_
                    refine DW.x rfl rfl (X.pickF rfl rfl rfl) (by decide) ?_
                    refine DW.nil ?_
                    refine WK.nThen ?_
                    refine WC.condF rfl ?_
                    refine WC.skip ?_
                    refine WK.nThen ?_
                    refine WC.seq ?_
                    have hah : (withR c.D c.M x.A x.Tick).2 = 0 → (withR c.D c.M x.A (wr (x.Tick + 1))).2 = 0 → aheadP (withR c.D c.M x.A x.Tick).1 (withR c.D c.M x.A (wr (x.Tick + 1))).1 := (fun h1_ h2_ => ticks_wr h1_ h2_)
                    refine WC.region ?_
                    refine WL.x (X.move rfl) (by decide) ?_
                    refine WL.x (X.move rfl) (by decide) ?_
                    refine WL.yes rfl rfl ?_
                    refine WL.x (X.move rfl) (by decide) ?_
                    refine WL.yes rfl rfl ?_
                    refine WL.condn (X.neq rfl rfl) (by decide) (fun h100 => ?_) (fun h100 => ?_)
                    · refine WL.yes rfl rfl ?_
                      refine WL.x (X.move rfl) (by decide) ?_
                      refine WL.no rfl rfl rfl (by decide) ?_
                      refine WL.no rfl rfl rfl (by decide) ?_
                      refine WL.yes rfl rfl ?_
                      refine WL.x (X.pickT rfl rfl rfl) (by decide) ?_
                      refine WL.yes rfl rfl ?_
                      refine WL.x (X.move rfl) (by decide) ?_
                      refine WL.no rfl rfl rfl (by decide) ?_
                      refine WL.no rfl rfl rfl (by decide) ?_
                      refine WL.no rfl rfl rfl (by decide) ?_
                      refine WL.yes rfl rfl ?_
                      refine WL.x (X.pickT rfl rfl rfl) (by decide) ?_
                      refine WL.x (X.pickT rfl rfl rfl) (by decide) ?_
                      refine WL.x (X.assign rfl) (by decide) ?_
                      refine WL.nil ?_
                      refine WK.nThen ?_
                      refine WC.ret ?_
                      refine WK.ret1 rfl rfl (fun w' hw' => Ret.exact hw' ?_)
                      first | rfl | (exfalso; omega) | (exfalso; contradiction) | (exfalso; have q_ := hc1 (by assumption); omega) | (exfalso; have q_ := hc2 (by assumption); omega) | (exfalso; have q_ := hk3 (by omega); contradiction) | (exfalso; have q_ := hk0 (by omega); omega) | exact (bool_true (hah (by omega) (by omega))).symm | exact (bool_true (by omega)).symm
                    · refine WL.yes rfl rfl ?_
                      refine WL.x (X.move rfl) (by decide) ?_
                      refine WL.yes rfl rfl ?_
                      refine WL.x (X.move rfl) (by decide) ?_
                      refine WL.yes rfl rfl ?_
                      refine WL.condn (X.neq rfl rfl) (by decide) (fun h101 => ?_) (fun h101 => ?_)
                      · refine WL.yes rfl rfl ?_
                        refine WL.x (X.pickF rfl rfl rfl) (by decide) ?_
                        refine WL.yes rfl rfl ?_
                        refine WL.x (X.move rfl) (by decide) ?_
                        refine WL.no rfl rfl rfl (by decide) ?_
                        refine WL.no rfl rfl rfl (by decide) ?_
                        refine WL.no rfl rfl rfl (by decide) ?_
                        refine WL.yes rfl rfl ?_
                        refine WL.x (X.pickT rfl rfl rfl) (by decide) ?_
                        refine WL.x (X.pickT rfl rfl rfl) (by decide) ?_
                        refine WL.x (X.assign rfl) (by decide) ?_
                        refine WL.nil ?_
                        refine WK.nThen ?_
                        refine WC.ret ?_
                        refine WK.ret1 rfl rfl (fun w' hw' => Ret.exact hw' ?_)
                        first | rfl | (exfalso; omega) | (exfalso; contradiction) | (exfalso; have q_ := hc1 (by assumption); omega) | (exfalso; have q_ := hc2 (by assumption); omega) | (exfalso; have q_ := hk3 (by omega); contradiction) | (exfalso; have q_ := hk0 (by omega); omega) | exact (bool_true (hah (by omega) (by omega))).symm | exact (bool_true (by omega)).symm
                      · refine WL.yes rfl rfl ?_
                        refine WL.x (X.pickF rfl rfl rfl) (by decide) ?_
                        refine WL.yes rfl rfl ?_
                        refine WL.x (X.move rfl) (by decide) ?_
                        refine WL.yes rfl rfl ?_
                        refine WL.x (X.move rfl) (by decide) ?_
                        refine WL.yes rfl rfl ?_
                        refine WL.x (X.move rfl) (by decide) ?_
                        refine WL.yes rfl rfl ?_
                        refine WL.x (X.call Try.call51 rfl (ahead51 _ _ _ hs29 _ _ hs36 )) (by decide) ?_
                        refine WL.yes rfl rfl ?_
                        refine WL.x (X.pickF rfl rfl rfl) (by decide) ?_
                        refine WL.x (X.pickT rfl rfl rfl) (by decide) ?_
                        refine WL.x (X.assign rfl) (by decide) ?_
                        refine WL.nil ?_
                        refine WK.nThen ?_
                        refine WC.ret ?_
                        refine WK.ret1 rfl rfl (fun w' hw' => Ret.exact hw' ?_)
                        first | rfl | (exfalso; omega) | (exfalso; contradiction) | (exfalso; have q_ := hc1 (by assumption); omega) | (exfalso; have q_ := hc2 (by assumption); omega) | (exfalso; have q_ := hk3 (by omega); contradiction) | (exfalso; have q_ := hk0 (by omega); omega) | exact (bool_true (hah (by omega) (by omega))).symm | exact (bool_true (by omega)).symm
          · refine DW.x rfl rfl (X.move rfl) (by decide) ?_
            refine DW.no rfl rfl (by decide) ?_
            refine DW.no rfl rfl (by decide) ?_
            refine DW.no rfl rfl (by decide) ?_
            refine DW.no rfl rfl (by decide) ?_
            refine DW.no rfl rfl (by decide) ?_
            refine DW.x rfl rfl (X.pickF rfl rfl rfl) (by decide) ?_
            refine DW.x rfl rfl (OpX.f (X.neqB Try.underlying4 rfl rfl) (fun h => h rfl)) (by decide) ?_
            refine DW.x rfl rfl (X.move rfl) (by decide) ?_
            refine DW.x rfl rfl (X.move rfl) (by decide) ?_
            refine DW.cond rfl rfl (X.eql rfl rfl) (by decide) (fun h102 => ?_) (fun h102 => ?_)
            · refine DW.x rfl rfl (X.loadBA (k := 2) Try.isAgg28 Try.sizeOf28 rfl rfl rfl) (by decide) ?_
              refine DW.x rfl rfl (X.field Try.runUnderlying36 rfl Try.sizeOf3 rfl) (by decide) ?_
              refine DW.x rfl rfl (X.loadB (k := 1) Try.isAgg3 rfl rfl rfl) (by decide) ?_
              refine DW.x rfl rfl (X.field Try.runUnderlying36 rfl Try.sizeOf3 rfl) (by decide) ?_
              refine DW.x rfl rfl (X.loadB (k := 1) Try.isAgg3 rfl rfl rfl) (by decide) ?_
              refine DW.x rfl rfl (X.call Try.call39 rfl (one39 _ _ _ )) (by decide) ?_
              refine DW.tm rfl rfl rfl (T.litM (α := Mark) (vals := [.agg [.int .i64 (x.A), .int .i64 (x.Tick), .int .i64 (x.Tick)].toArray]) (L := [(Mark.mk (x.A) ((Span.mk (x.Tick) (x.Tick))))]) sl26 rfl (.cons rfl rfl .nil) rfl rfl) (by decide) (fun m103 v104 hle105 hs106 => ?_)
              replace hs2 := hs2.mono hle105
              replace hs4 := hs4.mono hle105
              replace hs6 := hs6.mono hle105
              replace hs11 := hs11.mono hle105
              replace hs13 := hs13.mono hle105
              replace hs15 := hs15.mono hle105
              replace hs29 := hs29.mono hle105
              replace hs36 := hs36.mono hle105
              refine DW.condb rfl rfl (X.call Try.call30 rfl (can30 _ _ c ⟨_, _, _, rfl, hs2, hs4, hs6⟩ _ _ hs106 (by first | omega | simp) (by first | omega | simp))) (by decide) (fun h107 => ?_) (fun h107 => ?_)
              · refine DW.x rfl rfl (OpX.f (X.neqB Try.underlying4 rfl rfl) (fun h => h rfl)) (by decide) ?_
                refine DW.x rfl rfl (X.pickF rfl rfl rfl) (by decide) ?_
                refine DW.nil ?_
                refine WK.nThen ?_
                refine WC.condF rfl ?_
                refine WC.skip ?_
                refine WK.nThen ?_
                refine WC.seq ?_
                refine WC.seq ?_
                refine WC.draw (π := (.cons 0 (.cons 1 (.cons 2 (.cons 3 (.cons 4 (.cons 5 (.cons 6 (.cons 7 (.cons 8 (.cons 9 (.cons 10 (.cons 11 (.cons 12 (.cons 13 (.cons 14 (.cons 15 (.cons 16 (.cons 17 .done))))))))))))))))))) [] [] rfl (by kernel_rfl) ?_
                refine DW.x rfl rfl (X.move rfl) (by decide) ?_
                refine DW.cond rfl rfl (X.eql rfl rfl) (by decide) (fun h108 => ?_) (fun h108 => ?_)
                · refine DW.x rfl rfl (X.move rfl) (by decide) ?_
                  refine DW.x rfl rfl (X.loadBA (k := 2) Try.isAgg28 Try.sizeOf28 rfl rfl rfl) (by decide) ?_
                  refine DW.x rfl rfl (X.move rfl) (by decide) ?_
                  refine DW.cond rfl rfl (X.call Try.call48 rfl (is48 _ _ c ⟨_, _, _, rfl, hs2, hs4, hs6⟩ _ _ hs29 )) (by decide) (fun h109 => ?_) (fun h109 => ?_)
                  · refine DW.x rfl rfl (X.not rfl) (by decide) ?_
                    refine DW.x rfl rfl (X.move rfl) (by decide) ?_
                    refine DW.x rfl rfl (X.move rfl) (by decide) ?_
                    refine DW.x rfl rfl (X.field Try.runUnderlying36 rfl Try.sizeOf3 rfl) (by decide) ?_
                    refine DW.x rfl rfl (X.loadB (k := 1) Try.isAgg3 rfl rfl rfl) (by decide) ?_
                    refine DW.xe rfl rfl (E.idx Try.runUnderlying29 Try.sizeOf3 rfl rfl hs29 (by omega) (by omega)) (by decide) (fun p110 hp111 => ?_)
                    refine DW.x rfl rfl (X.loadInt Try.isAgg3 rfl hp111) (by decide) ?_
                    refine DW.x rfl rfl (X.field Try.runUnderlying36 rfl Try.sizeOf3 rfl) (by decide) ?_
                    refine DW.x rfl rfl (X.loadB (k := 1) Try.isAgg3 rfl rfl rfl) (by decide) ?_
                    refine DW.condn rfl rfl (X.neq rfl rfl) (by decide) (fun h112 => ?_) (fun h112 => ?_)
                    · refine DW.x rfl rfl (X.pickF rfl rfl rfl) (by decide) ?_
                      refine DW.x rfl rfl (X.pickT rfl rfl rfl) (by decide) ?_
                      refine DW.nil ?_
                      refine WK.nThen ?_
                      refine WC.condT rfl ?_
                      refine WC.seq ?_
                      refine WC.region ?_
                      refine WL.x (X.assign rfl) (by decide) ?_
                      refine WL.nil ?_
                      refine WK.nThen ?_
                      refine WC.ret ?_
                      refine WK.rThen ?_
                      refine WK.ret1 rfl rfl (fun w' hw' => Ret.exact hw' ?_)
                      first | rfl | (exfalso; omega) | (exfalso; contradiction) | (exfalso; have q_ := hc1 (by assumption); omega) | (exfalso; have q_ := hc2 (by assumption); omega) | (exfalso; have q_ := hk3 (by omega); contradiction) | (exfalso; have q_ := hk0 (by omega); omega) | exact (bool_true (hah (by omega) (by omega))).symm | exact (bool_true (by omega)).symm
                    · refine DW.x rfl rfl (X.pickF rfl rfl rfl) (by decide) ?_
                      refine DW.x rfl rfl (X.pickT rfl rfl rfl) (by decide) ?_
                      refine DW.nil ?_
                      refine WK.nThen ?_
                      refine WC.condF rfl ?_
                      refine WC.skip ?_
                      refine WK.nThen ?_
                      refine WC.seq ?_
                      have hah : (withR c.D c.M x.A x.Tick).2 = 0 → (withR c.D c.M x.A (wr (x.Tick + 1))).2 = 0 → aheadP (withR c.D c.M x.A x.Tick).1 (withR c.D c.M x.A (wr (x.Tick + 1))).1 := (fun h1_ h2_ => ticks_wr h1_ h2_)
                      refine WC.region ?_
                      refine WL.x (X.move rfl) (by decide) ?_
                      refine WL.x (X.move rfl) (by decide) ?_
                      refine WL.yes rfl rfl ?_
                      refine WL.x (X.move rfl) (by decide) ?_
                      refine WL.yes rfl rfl ?_
                      refine WL.condn (X.neq rfl rfl) (by decide) (fun h113 => ?_) (fun h113 => ?_)
                      · refine WL.yes rfl rfl ?_
                        refine WL.x (X.move rfl) (by decide) ?_
                        refine WL.no rfl rfl rfl (by decide) ?_
                        refine WL.no rfl rfl rfl (by decide) ?_
                        refine WL.yes rfl rfl ?_
                        refine WL.x (X.pickT rfl rfl rfl) (by decide) ?_
                        refine WL.yes rfl rfl ?_
                        refine WL.x (X.move rfl) (by decide) ?_
                        refine WL.no rfl rfl rfl (by decide) ?_
                        refine WL.no rfl rfl rfl (by decide) ?_
                        refine WL.no rfl rfl rfl (by decide) ?_
                        refine WL.yes rfl rfl ?_
                        refine WL.x (X.pickT rfl rfl rfl) (by decide) ?_
                        refine WL.x (X.pickT rfl rfl rfl) (by decide) ?_
                        refine WL.x (X.assign rfl) (by decide) ?_
                        refine WL.nil ?_
                        refine WK.nThen ?_
                        refine WC.ret ?_
                        refine WK.ret1 rfl rfl (fun w' hw' => Ret.exact hw' ?_)
                        first | rfl | (exfalso; omega) | (exfalso; contradiction) | (exfalso; have q_ := hc1 (by assumption); omega) | (exfalso; have q_ := hc2 (by assumption); omega) | (exfalso; have q_ := hk3 (by omega); contradiction) | (exfalso; have q_ := hk0 (by omega); omega) | exact (bool_true (hah (by omega) (by omega))).symm | exact (bool_true (by omega)).symm
                      · refine WL.yes rfl rfl ?_
                        refine WL.x (X.move rfl) (by decide) ?_
                        refine WL.yes rfl rfl ?_
                        refine WL.x (X.move rfl) (by decide) ?_
                        refine WL.yes rfl rfl ?_
                        refine WL.condn (X.neq rfl rfl) (by decide) (fun h114 => ?_) (fun h114 => ?_)
                        · refine WL.yes rfl rfl ?_
                          refine WL.x (X.pickF rfl rfl rfl) (by decide) ?_
                          refine WL.yes rfl rfl ?_
                          refine WL.x (X.move rfl) (by decide) ?_
                          refine WL.no rfl rfl rfl (by decide) ?_
                          refine WL.no rfl rfl rfl (by decide) ?_
                          refine WL.no rfl rfl rfl (by decide) ?_
                          refine WL.yes rfl rfl ?_
                          refine WL.x (X.pickT rfl rfl rfl) (by decide) ?_
                          refine WL.x (X.pickT rfl rfl rfl) (by decide) ?_
                          refine WL.x (X.assign rfl) (by decide) ?_
                          refine WL.nil ?_
                          refine WK.nThen ?_
                          refine WC.ret ?_
                          refine WK.ret1 rfl rfl (fun w' hw' => Ret.exact hw' ?_)
                          first | rfl | (exfalso; omega) | (exfalso; contradiction) | (exfalso; have q_ := hc1 (by assumption); omega) | (exfalso; have q_ := hc2 (by assumption); omega) | (exfalso; have q_ := hk3 (by omega); contradiction) | (exfalso; have q_ := hk0 (by omega); omega) | exact (bool_true (hah (by omega) (by omega))).symm | exact (bool_true (by omega)).symm
                        · refine WL.yes rfl rfl ?_
                          refine WL.x (X.pickF rfl rfl rfl) (by decide) ?_
                          refine WL.yes rfl rfl ?_
                          refine WL.x (X.move rfl) (by decide) ?_
                          refine WL.yes rfl rfl ?_
                          refine WL.x (X.move rfl) (by decide) ?_
                          refine WL.yes rfl rfl ?_
                          refine WL.x (X.move rfl) (by decide) ?_
                          refine WL.yes rfl rfl ?_
                          refine WL.x (X.call Try.call51 rfl (ahead51 _ _ _ hs29 _ _ hs36 )) (by decide) ?_
                          refine WL.yes rfl rfl ?_
                          refine WL.x (X.pickF rfl rfl rfl) (by decide) ?_
                          refine WL.x (X.pickT rfl rfl rfl) (by decide) ?_
                          refine WL.x (X.assign rfl) (by decide) ?_
                          refine WL.nil ?_
                          refine WK.nThen ?_
                          refine WC.ret ?_
                          refine WK.ret1 rfl rfl (fun w' hw' => Ret.exact hw' ?_)
                          first | rfl | (exfalso; omega) | (exfalso; contradiction) | (exfalso; have q_ := hc1 (by assumption); omega) | (exfalso; have q_ := hc2 (by assumption); omega) | (exfalso; have q_ := hk3 (by omega); contradiction) | (exfalso; have q_ := hk0 (by omega); omega) | exact (bool_true (hah (by omega) (by omega))).symm | exact (bool_true (by omega)).symm
                  · refine DW.x rfl rfl (X.not rfl) (by decide) ?_
                    refine DW.x rfl rfl (X.move rfl) (by decide) ?_
                    refine DW.no rfl rfl (by decide) ?_
                    refine DW.no rfl rfl (by decide) ?_
                    refine DW.no rfl rfl (by decide) ?_
                    refine DW.no rfl rfl (by decide) ?_
                    refine DW.no rfl rfl (by decide) ?_
                    refine DW.no rfl rfl (by decide) ?_
                    refine DW.no rfl rfl (by decide) ?_
                    refine DW.no rfl rfl (by decide) ?_
                    refine DW.x rfl rfl (X.pickT rfl rfl rfl) (by decide) ?_
                    refine DW.x rfl rfl (X.pickT rfl rfl rfl) (by decide) ?_
                    refine DW.nil ?_
                    refine WK.nThen ?_
                    refine WC.condT rfl ?_
                    refine WC.seq ?_
                    refine WC.region ?_
                    refine WL.x (X.assign rfl) (by decide) ?_
                    refine WL.nil ?_
                    refine WK.nThen ?_
                    refine WC.ret ?_
                    refine WK.rThen ?_
                    refine WK.ret1 rfl rfl (fun w' hw' => Ret.exact hw' ?_)
                    first | rfl | (exfalso; omega) | (exfalso; contradiction) | (exfalso; have q_ := hc1 (by assumption); omega) | (exfalso; have q_ := hc2 (by assumption); omega) | (exfalso; have q_ := hk3 (by omega); contradiction) | (exfalso; have q_ := hk0 (by omega); omega) | exact (bool_true (hah (by omega) (by omega))).symm | exact (bool_true (by omega)).symm
                · refine DW.x rfl rfl (X.move rfl) (by decide) ?_
                  refine DW.no rfl rfl (by decide) ?_
                  refine DW.no rfl rfl (by decide) ?_
                  refine DW.no rfl rfl (by decide) ?_
                  refine DW.no rfl rfl (by decide) ?_
                  refine DW.no rfl rfl (by decide) ?_
                  refine DW.no rfl rfl (by decide) ?_
                  refine DW.no rfl rfl (by decide) ?_
                  refine DW.no rfl rfl (by decide) ?_
                  refine DW.no rfl rfl (by decide) ?_
                  refine DW.no rfl rfl (by decide) ?_
                  refine DW.no rfl rfl (by decide) ?_
                  refine DW.no rfl rfl (by decide) ?_
                  refine DW.no rfl rfl (by decide) ?_
                  refine DW.no rfl rfl (by decide) ?_
                  refine DW.x rfl rfl (X.pickF rfl rfl rfl) (by decide) ?_
                  refine DW.nil ?_
                  refine WK.nThen ?_
                  refine WC.condF rfl ?_
                  refine WC.skip ?_
                  refine WK.nThen ?_
                  refine WC.seq ?_
                  have hah : (withR c.D c.M x.A x.Tick).2 = 0 → (withR c.D c.M x.A (wr (x.Tick + 1))).2 = 0 → aheadP (withR c.D c.M x.A x.Tick).1 (withR c.D c.M x.A (wr (x.Tick + 1))).1 := (fun h1_ h2_ => ticks_wr h1_ h2_)
                  refine WC.region ?_
                  refine WL.x (X.move rfl) (by decide) ?_
                  refine WL.x (X.move rfl) (by decide) ?_
                  refine WL.yes rfl rfl ?_
                  refine WL.x (X.move rfl) (by decide) ?_
                  refine WL.yes rfl rfl ?_
                  refine WL.condn (X.neq rfl rfl) (by decide) (fun h115 => ?_) (fun h115 => ?_)
                  · refine WL.yes rfl rfl ?_
                    refine WL.x (X.move rfl) (by decide) ?_
                    refine WL.no rfl rfl rfl (by decide) ?_
                    refine WL.no rfl rfl rfl (by decide) ?_
                    refine WL.yes rfl rfl ?_
                    refine WL.x (X.pickT rfl rfl rfl) (by decide) ?_
                    refine WL.yes rfl rfl ?_
                    refine WL.x (X.move rfl) (by decide) ?_
                    refine WL.no rfl rfl rfl (by decide) ?_
                    refine WL.no rfl rfl rfl (by decide) ?_
                    refine WL.no rfl rfl rfl (by decide) ?_
                    refine WL.yes rfl rfl ?_
                    refine WL.x (X.pickT rfl rfl rfl) (by decide) ?_
                    refine WL.x (X.pickT rfl rfl rfl) (by decide) ?_
                    refine WL.x (X.assign rfl) (by decide) ?_
                    refine WL.nil ?_
                    refine WK.nThen ?_
                    refine WC.ret ?_
                    refine WK.ret1 rfl rfl (fun w' hw' => Ret.exact hw' ?_)
                    first | rfl | (exfalso; omega) | (exfalso; contradiction) | (exfalso; have q_ := hc1 (by assumption); omega) | (exfalso; have q_ := hc2 (by assumption); omega) | (exfalso; have q_ := hk3 (by omega); contradiction) | (exfalso; have q_ := hk0 (by omega); omega) | exact (bool_true (hah (by omega) (by omega))).symm | exact (bool_true (by omega)).symm
                  · refine WL.yes rfl rfl ?_
                    refine WL.x (X.move rfl) (by decide) ?_
                    refine WL.yes rfl rfl ?_
                    refine WL.x (X.move rfl) (by decide) ?_
                    refine WL.yes rfl rfl ?_
                    refine WL.condn (X.neq rfl rfl) (by decide) (fun h116 => ?_) (fun h116 => ?_)
                    · refine WL.yes rfl rfl ?_
                      refine WL.x (X.pickF rfl rfl rfl) (by decide) ?_
                      refine WL.yes rfl rfl ?_
                      refine WL.x (X.move rfl) (by decide) ?_
                      refine WL.no rfl rfl rfl (by decide) ?_
                      refine WL.no rfl rfl rfl (by decide) ?_
                      refine WL.no rfl rfl rfl (by decide) ?_
                      refine WL.yes rfl rfl ?_
                      refine WL.x (X.pickT rfl rfl rfl) (by decide) ?_
                      refine WL.x (X.pickT rfl rfl rfl) (by decide) ?_
                      refine WL.x (X.assign rfl) (by decide) ?_
                      refine WL.nil ?_
                      refine WK.nThen ?_
                      refine WC.ret ?_
                      refine WK.ret1 rfl rfl (fun w' hw' => Ret.exact hw' ?_)
                      first | rfl | (exfalso; omega) | (exfalso; contradiction) | (exfalso; have q_ := hc1 (by assumption); omega) | (exfalso; have q_ := hc2 (by assumption); omega) | (exfalso; have q_ := hk3 (by omega); contradiction) | (exfalso; have q_ := hk0 (by omega); omega) | exact (bool_true (hah (by omega) (by omega))).symm | exact (bool_true (by omega)).symm
                    · refine WL.yes rfl rfl ?_
                      refine WL.x (X.pickF rfl rfl rfl) (by decide) ?_
                      refine WL.yes rfl rfl ?_
                      refine WL.x (X.move rfl) (by decide) ?_
                      refine WL.yes rfl rfl ?_
                      refine WL.x (X.move rfl) (by decide) ?_
                      refine WL.yes rfl rfl ?_
                      refine WL.x (X.move rfl) (by decide) ?_
                      refine WL.yes rfl rfl ?_
                      refine WL.x (X.call Try.call51 rfl (ahead51 _ _ _ hs29 _ _ hs36 )) (by decide) ?_
                      refine WL.yes rfl rfl ?_
                      refine WL.x (X.pickF rfl rfl rfl) (by decide) ?_
                      refine WL.x (X.pickT rfl rfl rfl) (by decide) ?_
                      refine WL.x (X.assign rfl) (by decide) ?_
                      refine WL.nil ?_
                      refine WK.nThen ?_
                      refine WC.ret ?_
                      refine WK.ret1 rfl rfl (fun w' hw' => Ret.exact hw' ?_)
                      first | rfl | (exfalso; omega) | (exfalso; contradiction) | (exfalso; have q_ := hc1 (by assumption); omega) | (exfalso; have q_ := hc2 (by assumption); omega) | (exfalso; have q_ := hk3 (by omega); contradiction) | (exfalso; have q_ := hk0 (by omega); omega) | exact (bool_true (hah (by omega) (by omega))).symm | exact (bool_true (by omega)).symm
              · refine DW.x rfl rfl (OpX.t (X.neqB Try.underlying4 rfl rfl) (by decide)) (by decide) ?_
                refine DW.x rfl rfl (X.pickF rfl rfl rfl) (by decide) ?_
                refine DW.nil ?_
                refine WK.nThen ?_
                refine WC.condT rfl ?_
                refine WC.seq ?_
                refine WC.region ?_
                refine WL.x (X.assign rfl) (by decide) ?_
                refine WL.nil ?_
                refine WK.nThen ?_
                refine WC.ret ?_
                refine WK.rThen ?_
                refine WK.ret1 rfl rfl (fun w' hw' => Ret.exact hw' ?_)
                first | rfl | (exfalso; omega) | (exfalso; contradiction) | (exfalso; have q_ := hc1 (by assumption); omega) | (exfalso; have q_ := hc2 (by assumption); omega) | (exfalso; have q_ := hk3 (by omega); contradiction) | (exfalso; have q_ := hk0 (by omega); omega) | exact (bool_true (hah (by omega) (by omega))).symm | exact (bool_true (by omega)).symm
            · refine DW.x rfl rfl (X.loadBA (k := 2) Try.isAgg28 Try.sizeOf28 rfl rfl rfl) (by decide) ?_
              refine DW.x rfl rfl (X.field Try.runUnderlying36 rfl Try.sizeOf3 rfl) (by decide) ?_
              refine DW.x rfl rfl (X.loadB (k := 1) Try.isAgg3 rfl rfl rfl) (by decide) ?_
              refine DW.x rfl rfl (X.field Try.runUnderlying36 rfl Try.sizeOf3 rfl) (by decide) ?_
              refine DW.x rfl rfl (X.loadB (k := 1) Try.isAgg3 rfl rfl rfl) (by decide) ?_
              refine DW.x rfl rfl (X.call Try.call39 rfl (one39 _ _ _ )) (by decide) ?_
              refine DW.tm rfl rfl rfl (T.litM (α := Mark) (vals := [.agg [.int .i64 (x.A), .int .i64 (x.Tick), .int .i64 (x.Tick)].toArray]) (L := [(Mark.mk (x.A) ((Span.mk (x.Tick) (x.Tick))))]) sl26 rfl (.cons rfl rfl .nil) rfl rfl) (by decide) (fun m117 v118 hle119 hs120 => ?_)
              replace hs2 := hs2.mono hle119
              replace hs4 := hs4.mono hle119
              replace hs6 := hs6.mono hle119
              replace hs11 := hs11.mono hle119
              replace hs13 := hs13.mono hle119
              replace hs15 := hs15.mono hle119
              replace hs29 := hs29.mono hle119
              replace hs36 := hs36.mono hle119
              refine DW.condb rfl rfl (X.call Try.call30 rfl (can30 _ _ c ⟨_, _, _, rfl, hs2, hs4, hs6⟩ _ _ hs120 (by first | omega | simp) (by first | omega | simp))) (by decide) (fun h121 => ?_) (fun h121 => ?_)
              · refine DW.x rfl rfl (OpX.t (X.neqB Try.underlying4 rfl rfl) (by decide)) (by decide) ?_
                refine DW.x rfl rfl (X.pickF rfl rfl rfl) (by decide) ?_
                refine DW.nil ?_
                refine WK.nThen ?_
                refine WC.condT rfl ?_
                refine WC.seq ?_
                refine WC.region ?_
                refine WL.x (X.assign rfl) (by decide) ?_
                refine WL.nil ?_
                refine WK.nThen ?_
                refine WC.ret ?_
                refine WK.rThen ?_
                refine WK.ret1 rfl rfl (fun w' hw' => Ret.exact hw' ?_)
                first | rfl | (exfalso; omega) | (exfalso; contradiction) | (exfalso; have q_ := hc1 (by assumption); omega) | (exfalso; have q_ := hc2 (by assumption); omega) | (exfalso; have q_ := hk3 (by omega); contradiction) | (exfalso; have q_ := hk0 (by omega); omega) | exact (bool_true (hah (by omega) (by omega))).symm | exact (bool_true (by omega)).symm
              · refine DW.x rfl rfl (OpX.f (X.neqB Try.underlying4 rfl rfl) (fun h => h rfl)) (by decide) ?_
                refine DW.x rfl rfl (X.pickF rfl rfl rfl) (by decide) ?_
                refine DW.nil ?_
                refine WK.nThen ?_
                refine WC.condF rfl ?_
                refine WC.skip ?_
                refine WK.nThen ?_
                refine WC.seq ?_
                refine WC.seq ?_
                refine WC.draw (π := (.cons 0 (.cons 1 (.cons 2 (.cons 3 (.cons 4 (.cons 5 (.cons 6 (.cons 7 (.cons 8 (.cons 9 (.cons 10 (.cons 11 (.cons 12 (.cons 13 (.cons 14 (.cons 15 (.cons 16 (.cons 17 .done))))))))))))))))))) [] [] rfl (by kernel_rfl) ?_
                refine DW.x rfl rfl (X.move rfl) (by decide) ?_
                refine DW.cond rfl rfl (X.eql rfl rfl) (by decide) (fun h122 => ?_) (fun h122 => ?_)
                · refine DW.x rfl rfl (X.move rfl) (by decide) ?_
                  refine DW.x rfl rfl (X.loadBA (k := 2) Try.isAgg28 Try.sizeOf28 rfl rfl rfl) (by decide) ?_
                  refine DW.x rfl rfl (X.move rfl) (by decide) ?_
                  refine DW.cond rfl rfl (X.call Try.call48 rfl (is48 _ _ c ⟨_, _, _, rfl, hs2, hs4, hs6⟩ _ _ hs29 )) (by decide) (fun h123 => ?_) (fun h123 => ?_)
                  · refine DW.x rfl rfl (X.not rfl) (by decide) ?_
                    refine DW.x rfl rfl (X.move rfl) (by decide) ?_
                    refine DW.x rfl rfl (X.move rfl) (by decide) ?_
                    refine DW.x rfl rfl (X.field Try.runUnderlying36 rfl Try.sizeOf3 rfl) (by decide) ?_
                    refine DW.x rfl rfl (X.loadB (k := 1) Try.isAgg3 rfl rfl rfl) (by decide) ?_
                    refine DW.xe rfl rfl (E.idx Try.runUnderlying29 Try.sizeOf3 rfl rfl hs29 (by omega) (by omega)) (by decide) (fun p124 hp125 => ?_)
                    refine DW.x rfl rfl (X.loadInt Try.isAgg3 rfl hp125) (by decide) ?_
                    refine DW.x rfl rfl (X.field Try.runUnderlying36 rfl Try.sizeOf3 rfl) (by decide) ?_
                    refine DW.x rfl rfl (X.loadB (k := 1) Try.isAgg3 rfl rfl rfl) (by decide) ?_
                    refine DW.condn rfl rfl (X.neq rfl rfl) (by decide) (fun h126 => ?_) (fun h126 => ?_)
                    · refine DW.x rfl rfl (X.pickF rfl rfl rfl) (by decide) ?_
                      refine DW.x rfl rfl (X.pickT rfl rfl rfl) (by decide) ?_
                      refine DW.nil ?_
                      refine WK.nThen ?_
                      refine WC.condT rfl ?_
                      refine WC.seq ?_
                      refine WC.region ?_
                      refine WL.x (X.assign rfl) (by decide) ?_
                      refine WL.nil ?_
                      refine WK.nThen ?_
                      refine WC.ret ?_
                      refine WK.rThen ?_
                      refine WK.ret1 rfl rfl (fun w' hw' => Ret.exact hw' ?_)
                      first | rfl | (exfalso; omega) | (exfalso; contradiction) | (exfalso; have q_ := hc1 (by assumption); omega) | (exfalso; have q_ := hc2 (by assumption); omega) | (exfalso; have q_ := hk3 (by omega); contradiction) | (exfalso; have q_ := hk0 (by omega); omega) | exact (bool_true (hah (by omega) (by omega))).symm | exact (bool_true (by omega)).symm
                    · refine DW.x rfl rfl (X.pickF rfl rfl rfl) (by decide) ?_
                      refine DW.x rfl rfl (X.pickT rfl rfl rfl) (by decide) ?_
                      refine DW.nil ?_
                      refine WK.nThen ?_
                      refine WC.condF rfl ?_
                      refine WC.skip ?_
                      refine WK.nThen ?_
                      refine WC.seq ?_
                      have hah : (withR c.D c.M x.A x.Tick).2 = 0 → (withR c.D c.M x.A (wr (x.Tick + 1))).2 = 0 → aheadP (withR c.D c.M x.A x.Tick).1 (withR c.D c.M x.A (wr (x.Tick + 1))).1 := (fun h1_ h2_ => ticks_wr h1_ h2_)
                      refine WC.region ?_
                      refine WL.x (X.move rfl) (by decide) ?_
                      refine WL.x (X.move rfl) (by decide) ?_
                      refine WL.yes rfl rfl ?_
                      refine WL.x (X.move rfl) (by decide) ?_
                      refine WL.yes rfl rfl ?_
                      refine WL.condn (X.neq rfl rfl) (by decide) (fun h127 => ?_) (fun h127 => ?_)
                      · refine WL.yes rfl rfl ?_
                        refine WL.x (X.move rfl) (by decide) ?_
                        refine WL.no rfl rfl rfl (by decide) ?_
                        refine WL.no rfl rfl rfl (by decide) ?_
                        refine WL.yes rfl rfl ?_
                        refine WL.x (X.pickT rfl rfl rfl) (by decide) ?_
                        refine WL.yes rfl rfl ?_
                        refine WL.x (X.move rfl) (by decide) ?_
                        refine WL.no rfl rfl rfl (by decide) ?_
                        refine WL.no rfl rfl rfl (by decide) ?_
                        refine WL.no rfl rfl rfl (by decide) ?_
                        refine WL.yes rfl rfl ?_
                        refine WL.x (X.pickT rfl rfl rfl) (by decide) ?_
                        refine WL.x (X.pickT rfl rfl rfl) (by decide) ?_
                        refine WL.x (X.assign rfl) (by decide) ?_
                        refine WL.nil ?_
                        refine WK.nThen ?_
                        refine WC.ret ?_
                        refine WK.ret1 rfl rfl (fun w' hw' => Ret.exact hw' ?_)
                        first | rfl | (exfalso; omega) | (exfalso; contradiction) | (exfalso; have q_ := hc1 (by assumption); omega) | (exfalso; have q_ := hc2 (by assumption); omega) | (exfalso; have q_ := hk3 (by omega); contradiction) | (exfalso; have q_ := hk0 (by omega); omega) | exact (bool_true (hah (by omega) (by omega))).symm | exact (bool_true (by omega)).symm
                      · refine WL.yes rfl rfl ?_
                        refine WL.x (X.move rfl) (by decide) ?_
                        refine WL.yes rfl rfl ?_
                        refine WL.x (X.move rfl) (by decide) ?_
                        refine WL.yes rfl rfl ?_
                        refine WL.condn (X.neq rfl rfl) (by decide) (fun h128 => ?_) (fun h128 => ?_)
                        · refine WL.yes rfl rfl ?_
                          refine WL.x (X.pickF rfl rfl rfl) (by decide) ?_
                          refine WL.yes rfl rfl ?_
                          refine WL.x (X.move rfl) (by decide) ?_
                          refine WL.no rfl rfl rfl (by decide) ?_
                          refine WL.no rfl rfl rfl (by decide) ?_
                          refine WL.no rfl rfl rfl (by decide) ?_
                          refine WL.yes rfl rfl ?_
                          refine WL.x (X.pickT rfl rfl rfl) (by decide) ?_
                          refine WL.x (X.pickT rfl rfl rfl) (by decide) ?_
                          refine WL.x (X.assign rfl) (by decide) ?_
                          refine WL.nil ?_
                          refine WK.nThen ?_
                          refine WC.ret ?_
                          refine WK.ret1 rfl rfl (fun w' hw' => Ret.exact hw' ?_)
                          first | rfl | (exfalso; omega) | (exfalso; contradiction) | (exfalso; have q_ := hc1 (by assumption); omega) | (exfalso; have q_ := hc2 (by assumption); omega) | (exfalso; have q_ := hk3 (by omega); contradiction) | (exfalso; have q_ := hk0 (by omega); omega) | exact (bool_true (hah (by omega) (by omega))).symm | exact (bool_true (by omega)).symm
                        · refine WL.yes rfl rfl ?_
                          refine WL.x (X.pickF rfl rfl rfl) (by decide) ?_
                          refine WL.yes rfl rfl ?_
                          refine WL.x (X.move rfl) (by decide) ?_
                          refine WL.yes rfl rfl ?_
                          refine WL.x (X.move rfl) (by decide) ?_
                          refine WL.yes rfl rfl ?_
                          refine WL.x (X.move rfl) (by decide) ?_
                          refine WL.yes rfl rfl ?_
                          refine WL.x (X.call Try.call51 rfl (ahead51 _ _ _ hs29 _ _ hs36 )) (by decide) ?_
                          refine WL.yes rfl rfl ?_
                          refine WL.x (X.pickF rfl rfl rfl) (by decide) ?_
                          refine WL.x (X.pickT rfl rfl rfl) (by decide) ?_
                          refine WL.x (X.assign rfl) (by decide) ?_
                          refine WL.nil ?_
                          refine WK.nThen ?_
                          refine WC.ret ?_
                          refine WK.ret1 rfl rfl (fun w' hw' => Ret.exact hw' ?_)
                          first | rfl | (exfalso; omega) | (exfalso; contradiction) | (exfalso; have q_ := hc1 (by assumption); omega) | (exfalso; have q_ := hc2 (by assumption); omega) | (exfalso; have q_ := hk3 (by omega); contradiction) | (exfalso; have q_ := hk0 (by omega); omega) | exact (bool_true (hah (by omega) (by omega))).symm | exact (bool_true (by omega)).symm
                  · refine DW.x rfl rfl (X.not rfl) (by decide) ?_
                    refine DW.x rfl rfl (X.move rfl) (by decide) ?_
                    refine DW.no rfl rfl (by decide) ?_
                    refine DW.no rfl rfl (by decide) ?_
                    refine DW.no rfl rfl (by decide) ?_
                    refine DW.no rfl rfl (by decide) ?_
                    refine DW.no rfl rfl (by decide) ?_
                    refine DW.no rfl rfl (by decide) ?_
                    refine DW.no rfl rfl (by decide) ?_
                    refine DW.no rfl rfl (by decide) ?_
                    refine DW.x rfl rfl (X.pickT rfl rfl rfl) (by decide) ?_
                    refine DW.x rfl rfl (X.pickT rfl rfl rfl) (by decide) ?_
                    refine DW.nil ?_
                    refine WK.nThen ?_
                    refine WC.condT rfl ?_
                    refine WC.seq ?_
                    refine WC.region ?_
                    refine WL.x (X.assign rfl) (by decide) ?_
                    refine WL.nil ?_
                    refine WK.nThen ?_
                    refine WC.ret ?_
                    refine WK.rThen ?_
                    refine WK.ret1 rfl rfl (fun w' hw' => Ret.exact hw' ?_)
                    first | rfl | (exfalso; omega) | (exfalso; contradiction) | (exfalso; have q_ := hc1 (by assumption); omega) | (exfalso; have q_ := hc2 (by assumption); omega) | (exfalso; have q_ := hk3 (by omega); contradiction) | (exfalso; have q_ := hk0 (by omega); omega) | exact (bool_true (hah (by omega) (by omega))).symm | exact (bool_true (by omega)).symm
                · refine DW.x rfl rfl (X.move rfl) (by decide) ?_
                  refine DW.no rfl rfl (by decide) ?_
                  refine DW.no rfl rfl (by decide) ?_
                  refine DW.no rfl rfl (by decide) ?_
                  refine DW.no rfl rfl (by decide) ?_
                  refine DW.no rfl rfl (by decide) ?_
                  refine DW.no rfl rfl (by decide) ?_
                  refine DW.no rfl rfl (by decide) ?_
                  refine DW.no rfl rfl (by decide) ?_
                  refine DW.no rfl rfl (by decide) ?_
                  refine DW.no rfl rfl (by decide) ?_
                  refine DW.no rfl rfl (by decide) ?_
                  refine DW.no rfl rfl (by decide) ?_
                  refine DW.no rfl rfl (by decide) ?_
                  refine DW.no rfl rfl (by decide) ?_
                  refine DW.x rfl rfl (X.pickF rfl rfl rfl) (by decide) ?_
                  refine DW.nil ?_
                  refine WK.nThen ?_
                  refine WC.condF rfl ?_
                  refine WC.skip ?_
                  refine WK.nThen ?_
                  refine WC.seq ?_
                  have hah : (withR c.D c.M x.A x.Tick).2 = 0 → (withR c.D c.M x.A (wr (x.Tick + 1))).2 = 0 → aheadP (withR c.D c.M x.A x.Tick).1 (withR c.D c.M x.A (wr (x.Tick + 1))).1 := (fun h1_ h2_ => ticks_wr h1_ h2_)
                  refine WC.region ?_
                  refine WL.x (X.move rfl) (by decide) ?_
                  refine WL.x (X.move rfl) (by decide) ?_
                  refine WL.yes rfl rfl ?_
                  refine WL.x (X.move rfl) (by decide) ?_
                  refine WL.yes rfl rfl ?_
                  refine WL.condn (X.neq rfl rfl) (by decide) (fun h129 => ?_) (fun h129 => ?_)
                  · refine WL.yes rfl rfl ?_
                    refine WL.x (X.move rfl) (by decide) ?_
                    refine WL.no rfl rfl rfl (by decide) ?_
                    refine WL.no rfl rfl rfl (by decide) ?_
                    refine WL.yes rfl rfl ?_
                    refine WL.x (X.pickT rfl rfl rfl) (by decide) ?_
                    refine WL.yes rfl rfl ?_
                    refine WL.x (X.move rfl) (by decide) ?_
                    refine WL.no rfl rfl rfl (by decide) ?_
                    refine WL.no rfl rfl rfl (by decide) ?_
                    refine WL.no rfl rfl rfl (by decide) ?_
                    refine WL.yes rfl rfl ?_
                    refine WL.x (X.pickT rfl rfl rfl) (by decide) ?_
                    refine WL.x (X.pickT rfl rfl rfl) (by decide) ?_
                    refine WL.x (X.assign rfl) (by decide) ?_
                    refine WL.nil ?_
                    refine WK.nThen ?_
                    refine WC.ret ?_
                    refine WK.ret1 rfl rfl (fun w' hw' => Ret.exact hw' ?_)
                    first | rfl | (exfalso; omega) | (exfalso; contradiction) | (exfalso; have q_ := hc1 (by assumption); omega) | (exfalso; have q_ := hc2 (by assumption); omega) | (exfalso; have q_ := hk3 (by omega); contradiction) | (exfalso; have q_ := hk0 (by omega); omega) | exact (bool_true (hah (by omega) (by omega))).symm | exact (bool_true (by omega)).symm
                  · refine WL.yes rfl rfl ?_
                    refine WL.x (X.move rfl) (by decide) ?_
                    refine WL.yes rfl rfl ?_
                    refine WL.x (X.move rfl) (by decide) ?_
                    refine WL.yes rfl rfl ?_
                    refine WL.condn (X.neq rfl rfl) (by decide) (fun h130 => ?_) (fun h130 => ?_)
                    · refine WL.yes rfl rfl ?_
                      refine WL.x (X.pickF rfl rfl rfl) (by decide) ?_
                      refine WL.yes rfl rfl ?_
                      refine WL.x (X.move rfl) (by decide) ?_
                      refine WL.no rfl rfl rfl (by decide) ?_
                      refine WL.no rfl rfl rfl (by decide) ?_
                      refine WL.no rfl rfl rfl (by decide) ?_
                      refine WL.yes rfl rfl ?_
                      refine WL.x (X.pickT rfl rfl rfl) (by decide) ?_
                      refine WL.x (X.pickT rfl rfl rfl) (by decide) ?_
                      refine WL.x (X.assign rfl) (by decide) ?_
                      refine WL.nil ?_
                      refine WK.nThen ?_
                      refine WC.ret ?_
                      refine WK.ret1 rfl rfl (fun w' hw' => Ret.exact hw' ?_)
                      first | rfl | (exfalso; omega) | (exfalso; contradiction) | (exfalso; have q_ := hc1 (by assumption); omega) | (exfalso; have q_ := hc2 (by assumption); omega) | (exfalso; have q_ := hk3 (by omega); contradiction) | (exfalso; have q_ := hk0 (by omega); omega) | exact (bool_true (hah (by omega) (by omega))).symm | exact (bool_true (by omega)).symm
                    · refine WL.yes rfl rfl ?_
                      refine WL.x (X.pickF rfl rfl rfl) (by decide) ?_
                      refine WL.yes rfl rfl ?_
                      refine WL.x (X.move rfl) (by decide) ?_
                      refine WL.yes rfl rfl ?_
                      refine WL.x (X.move rfl) (by decide) ?_
                      refine WL.yes rfl rfl ?_
                      refine WL.x (X.move rfl) (by decide) ?_
                      refine WL.yes rfl rfl ?_
                      refine WL.x (X.call Try.call51 rfl (ahead51 _ _ _ hs29 _ _ hs36 )) (by decide) ?_
                      refine WL.yes rfl rfl ?_
                      refine WL.x (X.pickF rfl rfl rfl) (by decide) ?_
                      refine WL.x (X.pickT rfl rfl rfl) (by decide) ?_
                      refine WL.x (X.assign rfl) (by decide) ?_
                      refine WL.nil ?_
                      refine WK.nThen ?_
                      refine WC.ret ?_
                      refine WK.ret1 rfl rfl (fun w' hw' => Ret.exact hw' ?_)
                      first | rfl | (exfalso; omega) | (exfalso; contradiction) | (exfalso; have q_ := hc1 (by assumption); omega) | (exfalso; have q_ := hc2 (by assumption); omega) | (exfalso; have q_ := hk3 (by omega); contradiction) | (exfalso; have q_ := hk0 (by omega); omega) | exact (bool_true (hah (by omega) (by omega))).symm | exact (bool_true (by omega)).symm
  · refine WL.x (X.not rfl) (by decide) ?_
    refine WL.x (X.move rfl) (by decide) ?_
    refine WL.no rfl rfl rfl (by decide) ?_
    refine WL.no rfl rfl rfl (by decide) ?_
    refine WL.no rfl rfl rfl (by decide) ?_
    refine WL.no rfl rfl rfl (by decide) ?_
    refine WL.x (X.pickT rfl rfl rfl) (by decide) ?_
    refine WL.nil ?_
    refine WK.nThen ?_
    refine WC.condT rfl ?_
    refine WC.seq ?_
    refine WC.region ?_
    refine WL.x (X.move rfl) (by decide) ?_
    refine WL.x (X.assign rfl) (by decide) ?_
    refine WL.nil ?_
    refine WK.nThen ?_
    refine WC.ret ?_
    refine WK.rThen ?_
    refine WK.ret1 rfl rfl (fun w' hw' => Ret.exact hw' ?_)
    first | rfl | (exfalso; omega) | (exfalso; contradiction) | (exfalso; have q_ := hc1 (by assumption); omega) | (exfalso; have q_ := hc2 (by assumption); omega) | (exfalso; have q_ := hk3 (by omega); contradiction) | (exfalso; have q_ := hk0 (by omega); omega) | exact (bool_true (hah (by omega) (by omega))).symm | exact (bool_true (by omega)).symm
end Go.Proofs.C2
